/- The program's functions as Lean functions,and for each the proof that the machine's call comes to what its function says. Conditions: those that stand before each theorem. -/
import Derived.Test.YtdjbphffibcbeaaQ0
import Derived.Test.YtdjbphffibcbeaaQ6
import Derived.Test.YtdjbphffibcbeaaQ7
import Derived.Test.YtdjbphffibcbeaaQ8
import Derived.Test.YtdjbphffibcbeaaQ9
import Derived.Test.YtdjbphffibcbeaaQ10
namespace Go.Proofs.Ytdjbphffibcbeaa.Q
open Go.RowKit Go.Proofs.YtdjbphffibcbeaaW.PrintWords Go.Proofs.YtdjbphffibcbeaaW.PrintLast Go.Proofs.YtdjbphffibcbeaaW.PrintMore
abbrev kN11_ := @blk_drewN
abbrev kD11_ := @blk_drew
abbrev rN11_ := @Kd.R_drewN
abbrev bA11_ := @below_alloc
abbrev bN11_ := @pw_below_drewN
abbrev bD11_ := @below_drew1
abbrev bS11_ := @below_set
abbrev mk11_ := @Aside0.mk
abbrev fZ11_ := @blk_frozen
abbrev sB11_ := @Kd.S_below
abbrev bT11_ := @below_step
abbrev bZ11_ := @below_size
set_option linter.unusedVariables false
set_option linter.unusedSimpArgs false

mutual
def spec_ValidDevice.j0:Nat→Bool→Int→Int→Int→List (S68)→Int→Int→Bool→Int→List (S50)→Option (Bool)
 | 0, _, _, _, _, _, _, _, _, _, _ => none
 | k+1,x27,x259000,x259001,x259002,x259003,x259004,x259005,x259006,x259007,x259008=>if x27=true then (some false) else (spec_ValidDevice.l0 k (([]:List Int)) 0 x259000 x259001 x259002 x259003 x259004 x259005 x259006 x259007 x259008)
def spec_ValidDevice.l0:Nat→List Int→Int→Int→Int→Int→List (S68)→Int→Int→Bool→Int→List (S50)→Option (Bool)
 | 0, _, _, _, _, _, _, _, _, _, _, _ => none
 | k+1,x3,x4,x259000,x259001,x259002,x259003,x259004,x259005,x259006,x259007,x259008=>if x4 < (x259008.length:Int) then (if 0≤x4 then ((spec_l16Blocks.f k x259000 x259001 x259002 ((rd_T50 x259008 x4).f0) ((rd_T50 x259008 x4).f1) ((rd_T50 x259008 x4).f2) ((rd_T50 x259008 x4).f3) ((rd_T50 x259008 x4).f4) ((rd_T50 x259008 x4).f5)).bind fun t266=>(if t266=true then ((spec_l16Counts.f k x259000 x259001 x259002 ((rd_T50 x259008 x4).f0) ((rd_T50 x259008 x4).f1) ((rd_T50 x259008 x4).f2) ((rd_T50 x259008 x4).f3) ((rd_T50 x259008 x4).f4) ((rd_T50 x259008 x4).f5)).bind fun t267=>(if t267=true then ((spec_l16State.f k x259000 x259001 x259002 x259003 x259004 x259005 x259006 x259007 ((rd_T50 x259008 x4).f0) ((rd_T50 x259008 x4).f1) ((rd_T50 x259008 x4).f2) ((rd_T50 x259008 x4).f3) ((rd_T50 x259008 x4).f4) ((rd_T50 x259008 x4).f5)).bind fun t268=>(spec_ValidDevice.j2 k x3 x4 (!t268) x259000 x259001 x259002 x259003 x259004 x259005 x259006 x259007 x259008 ((rd_T50 x259008 x4).f0) ((rd_T50 x259008 x4).f1) ((rd_T50 x259008 x4).f2) ((rd_T50 x259008 x4).f3) ((rd_T50 x259008 x4).f4) ((rd_T50 x259008 x4).f5))) else (spec_ValidDevice.j2 k x3 x4 true x259000 x259001 x259002 x259003 x259004 x259005 x259006 x259007 x259008 ((rd_T50 x259008 x4).f0) ((rd_T50 x259008 x4).f1) ((rd_T50 x259008 x4).f2) ((rd_T50 x259008 x4).f3) ((rd_T50 x259008 x4).f4) ((rd_T50 x259008 x4).f5)))) else (spec_ValidDevice.j2 k x3 x4 true x259000 x259001 x259002 x259003 x259004 x259005 x259006 x259007 x259008 ((rd_T50 x259008 x4).f0) ((rd_T50 x259008 x4).f1) ((rd_T50 x259008 x4).f2) ((rd_T50 x259008 x4).f3) ((rd_T50 x259008 x4).f4) ((rd_T50 x259008 x4).f5)))) else (none)) else (some true)
def spec_ValidDevice.j2:Nat→List Int→Int→Bool→Int→Int→Int→List (S68)→Int→Int→Bool→Int→List (S50)→Int→List Int→Int→Int→List Int→List ByteArray→Option (Bool)
 | 0, _, _, _, _, _, _, _, _, _, _, _, _, _, _, _, _, _, _ => none
 | k+1,x3,x4,x61,x259000,x259001,x259002,x259003,x259004,x259005,x259006,x259007,x259008,x266000,x266001,x266002,x266003,x266004,x266005=>if x61=true then (some false) else (spec_ValidDevice.l1 k x3 x4 0 x259000 x259001 x259002 x259003 x259004 x259005 x259006 x259007 x259008 x266000 x266001 x266002 x266003 x266004 x266005)
def spec_ValidDevice.l1:Nat→List Int→Int→Int→Int→Int→Int→List (S68)→Int→Int→Bool→Int→List (S50)→Int→List Int→Int→Int→List Int→List ByteArray→Option (Bool)
 | 0, _, _, _, _, _, _, _, _, _, _, _, _, _, _, _, _, _, _ => none
 | k+1,x3,x4,x6,x259000,x259001,x259002,x259003,x259004,x259005,x259006,x259007,x259008,x266000,x266001,x266002,x266003,x266004,x266005=>if x6 < (x266001.length:Int) then (if 0≤x6 then ((spec_l00Has.f k x3 (rd x266001 x6)).bind fun t270=>(if t270=true then (some false) else (if x3.length < 17592186044416 then (spec_ValidDevice.l1 k (x3 ++ [rd x266001 x6]) x4 (wrap64 (x6+1)) x259000 x259001 x259002 x259003 x259004 x259005 x259006 x259007 x259008 x266000 x266001 x266002 x266003 x266004 x266005) else (none)))) else (none)) else (spec_ValidDevice.l0 k x3 (wrap64 (x4+1)) x259000 x259001 x259002 x259003 x259004 x259005 x259006 x259007 x259008)
end
def spec_ValidDevice.f (k:Nat) (a0_0:Int) (a0_1:Int) (a0_2:Int) (l0_3:List (S68)) (a0_4:Int) (a0_5:Int) (a0_6:Bool) (a0_7:Int) (l0_8:List (S50)):Option (Bool):=(spec_ValidFlash.f k a0_0 a0_1 a0_2 l0_3 a0_4 a0_5 a0_6 a0_7).bind fun t259=>(if t259=true then (if (l0_8.length:Int) < 1 then (spec_ValidDevice.j0 k true a0_0 a0_1 a0_2 l0_3 a0_4 a0_5 a0_6 a0_7 l0_8) else ((spec_l00Min.f 12 a0_1).bind fun t260=>(spec_ValidDevice.j0 k (decide ((l0_8.length:Int) > t260)) a0_0 a0_1 a0_2 l0_3 a0_4 a0_5 a0_6 a0_7 l0_8))) else (spec_ValidDevice.j0 k true a0_0 a0_1 a0_2 l0_3 a0_4 a0_5 a0_6 a0_7 l0_8))
def spec_ValidDevice.T1:Bool × List (List Nat × List Nat):=(true,[([],[]),([0],[0]),([1],[1]),([2],[2]),([3,2],[3]),([4],[4]),([5,4],[4,5]),([6,4],[4,6]),([7,4],[4,7]),([4,8],[4,8]),([9,4],[9]),([10],[10]),([11,10],[10,11]),([12,10],[10,12]),([10],[10]),([14,10],[10,14]),([15,10],[10,15]),([16,10],[10,16]),([17,10,10],[10,17]),([13,18,10],[10,13,18]),([10,19],[10,19])])
def spec_ValidDevice.B1:List Nat:=[0,1,3,7,15,31,63,127,255,511,1023,2047,4095,8191,2047,18431,51199,116735,247807,524287,1048575]
theorem spec_ValidDevice.tab1 : rtab .any (opsOf Try.f6 1) = spec_ValidDevice.T1 := by kernel_rfl
theorem spec_ValidDevice.bits1:waitsOk spec_ValidDevice.T1.2 spec_ValidDevice.B1=true:=by kernel_rfl
set_option maxHeartbeats 8000000 in
set_option maxRecDepth 100000 in
theorem spec_ValidDevice.calls (k:Nat) (a0_0:Int) (a0_1:Int) (a0_2:Int) (A0_3:Option Addr) (c0_3:Nat) (l0_3:List (S68)) (a0_4:Int) (a0_5:Int) (a0_6:Bool) (a0_7:Int) (A0_8:Option Addr) (c0_8:Nat) (l0_8:List (S50)) (r:Bool) (w:World) (hr0_3:Kd.C k68 w A0_3 l0_3.length l0_3) (hc0_3:l0_3.length≤c0_3) (hr0_8:Kd.C k50 w A0_8 l0_8.length l0_8) (hc0_8:l0_8.length≤c0_8) (h:spec_ValidDevice.f k a0_0 a0_1 a0_2 l0_3 a0_4 a0_5 a0_6 a0_7 l0_8=some r) :
  Calls Try.prog 6 #[.agg #[.int .i64 a0_0,.int .i64 a0_1,.int .i64 a0_2,.slice A0_3 l0_3.length c0_3,.int .i64 a0_4,.int .i64 a0_5,.bool a0_6,.int .i64 a0_7,.slice A0_8 l0_8.length c0_8]] w fun e w'=>e=.returned (.bool r)∧Below w.heap.size w w':=by
 have hu38 := Try.underlying38
 have hu35 := Try.underlying35
 have hu50 := Try.underlying50
 have hu32 := Try.underlying32
 have HR0_3 := Aside0.mk hr0_3
 have HC0_3 := Aside0.mk hc0_3
 clear hr0_3 hc0_3
 have HR0_8 := Aside0.mk hr0_8
 have HC0_8 := Aside0.mk hc0_8
 clear hr0_8 hc0_8
 have HB := Aside0.mk (Below.refl w.heap.size w)
 have H:((spec_ValidFlash.f k a0_0 a0_1 a0_2 l0_3 a0_4 a0_5 a0_6 a0_7).bind fun t259=>(if t259=true then (if (l0_8.length:Int) < 1 then (spec_ValidDevice.j0 k true a0_0 a0_1 a0_2 l0_3 a0_4 a0_5 a0_6 a0_7 l0_8) else ((spec_l00Min.f 12 a0_1).bind fun t260=>(spec_ValidDevice.j0 k (decide ((l0_8.length:Int) > t260)) a0_0 a0_1 a0_2 l0_3 a0_4 a0_5 a0_6 a0_7 l0_8))) else (spec_ValidDevice.j0 k true a0_0 a0_1 a0_2 l0_3 a0_4 a0_5 a0_6 a0_7 l0_8)))=some r:=h
 clear h
 have HC2 := Aside0.mk H
 clear H
 go_enter Try.func6, Try.ntmps6
 go_upto_region 1 with (first|((with_reducible refine gate_dst (N:=1) rfl ?_);(try (refine gate_guard (by rfl) ?_;dsimp only));refine box_event ?hg (N:=1) ?hd (cs:=#[.int .i64 a0_0,.int .i64 a0_1,.int .i64 a0_2,.slice A0_3 l0_3.length c0_3,.int .i64 a0_4,.int .i64 a0_5,.bool a0_6,.int .i64 a0_7,.slice A0_8 l0_8.length c0_8]) (t:=38) ?hr ?_;(case hd=>rfl);(case hg=>rfl);(case hr=>first|(go_simp;done)|(go_simp;rfl));intro gb258 hg w3 hbox hb;have n0_:=mk11_ (bT11_ (by repeat (first|(with_reducible first|exact HB.out|apply bA11_|apply bN11_|apply bD11_)|exact HB.out)) hb);have n1_:=mk11_ (hbox);have n2_:=mk11_ ((by rw [hg];exact (bZ11_ (by repeat (first|(with_reducible first|exact HB.out|apply bA11_|apply bN11_|apply bD11_)|exact HB.out))):w.heap.size≤gb258));have n3_:=mk11_ ((by rw [hg];exact (bZ11_ (by repeat (first|(with_reducible first|exact HB.out|apply bA11_|apply bN11_|apply bD11_)|exact HB.out))):w.heap.size≤gb258));clear HB;have HB:=n0_;have BK258:=n1_;have GW258:=n2_;have GE258:=n3_;clear n0_ n1_ n2_ n3_;clear hb hbox hg))
 (try simp only [Act.put, List.setIfInBounds_toArray, List.set_cons_zero, List.set_cons_succ])
 go_cut [27] (fun v27 wc=>∃ (kq:Nat) (x27_1:Bool),v27=.bool x27_1∧Aside0 (spec_ValidDevice.j0 kq x27_1 a0_0 a0_1 a0_2 l0_3 a0_4 a0_5 a0_6 a0_7 l0_8=some r)∧Aside0 (kq≤k)∧Aside0 (wc.heap[gb258]?=some (.cells #[.int .i64 a0_0,.int .i64 a0_1,.int .i64 a0_2,(.slice A0_3 l0_3.length c0_3),.int .i64 a0_4,.int .i64 a0_5,.bool a0_6,.int .i64 a0_7,(.slice A0_8 l0_8.length c0_8)] 38 (0,0)))∧Aside0 (Below w.heap.size w wc))
 case first =>
  have H := HC2.out
  clear HC2
  replace H := Option.bind_eq_some_iff.mp H
  obtain ⟨t259, A40, H⟩ := H
  replace H:(if t259=true then (if (l0_8.length:Int) < 1 then (spec_ValidDevice.j0 k true a0_0 a0_1 a0_2 l0_3 a0_4 a0_5 a0_6 a0_7 l0_8) else ((spec_l00Min.f 12 a0_1).bind fun t260=>(spec_ValidDevice.j0 k (decide ((l0_8.length:Int) > t260)) a0_0 a0_1 a0_2 l0_3 a0_4 a0_5 a0_6 a0_7 l0_8))) else (spec_ValidDevice.j0 k true a0_0 a0_1 a0_2 l0_3 a0_4 a0_5 a0_6 a0_7 l0_8))=some r:=H
  have A4 := Aside0.mk A40
  clear A40
  by_cases c5 : t259 = true
  ·subst c5
   have H1:(if (l0_8.length:Int) < 1 then (spec_ValidDevice.j0 k true a0_0 a0_1 a0_2 l0_3 a0_4 a0_5 a0_6 a0_7 l0_8) else ((spec_l00Min.f 12 a0_1).bind fun t260=>(spec_ValidDevice.j0 k (decide ((l0_8.length:Int) > t260)) a0_0 a0_1 a0_2 l0_3 a0_4 a0_5 a0_6 a0_7 l0_8)))=some r:=by rw [if_pos rfl] at H;exact H
   clear H
   have H := H1
   clear H1
   by_cases c6 : (l0_8.length : Int) < 1
   ·rw [if_pos c6] at H
    have c6b0 : decide ((l0_8.length : Int) < 1) = true := decide_eq_true c6
    have c6b1 : decide (l0_8.length < 1) = true := decide_eq_true (by omega)
    clear c6
    (first | rw [c6b0] | (simp only [i64_w, i32_w]; rw [c6b0]) | skip)
    have H' := Aside0.mk H
    clear H
    try go_wp2
    have n0_ := Aside0.mk (blk_drew BK258.out)
    have n1_ := Aside0.mk (below_drew1 HB.out)
    clear BK258
    clear HB
    have BK258 := n0_
    have HB := n1_
    clear n0_ n1_
    refine start_ (n:=21) (S:=fun w'=>w'.cell? ⟨gb258,0,none⟩=some (.int .i64 a0_0)∧w'.cell? ⟨gb258,1,none⟩=some (.int .i64 a0_1)∧w'.cell? ⟨gb258,2,none⟩=some (.int .i64 a0_2)∧w'.cell? ⟨gb258,3,none⟩=some (.slice A0_3 l0_3.length c0_3)∧w'.cell? ⟨gb258,4,none⟩=some (.int .i64 a0_4)∧w'.cell? ⟨gb258,5,none⟩=some (.int .i64 a0_5)∧w'.cell? ⟨gb258,6,none⟩=some (.bool a0_6)∧w'.cell? ⟨gb258,7,none⟩=some (.int .i64 a0_7)∧w'.cell? ⟨gb258,8,none⟩=some (.slice A0_8 l0_8.length c0_8)) (ds:=[]) #[false,false,false,false,false,false,false,false,false,false,false,false,false,false,false,false,false,false,false,false,false] (by kernel_rfl) rfl rfl ⟨(blk_cell BK258.out 0).trans rfl,(blk_cell BK258.out 1).trans rfl,(blk_cell BK258.out 2).trans rfl,(blk_cell BK258.out 3).trans rfl,(blk_cell BK258.out 4).trans rfl,(blk_cell BK258.out 5).trans rfl,(blk_cell BK258.out 6).trans rfl,(blk_cell BK258.out 7).trans rfl,(blk_cell BK258.out 8).trans rfl⟩ (fun hHeld=>?_);refine with_tabW spec_ValidDevice.tab1 spec_ValidDevice.bits1 (fun HT_ HW_=>?_)
    generalize w3.drew = w7 at BK258 HB hHeld ⊢
    refine pure_ (i:=0) (N:=some 7) (v:=?_) (a':=?_) #[true,false,false,false,false,false,false,false,false,false,false,false,false,false,false,false,false,false,false,false,false] rfl rfl (any_of HT_.out (by kernel_rfl)) (fun _ _ _ h=>h) (Or.inl ⟨by rfl,?_⟩) ?_ ?_
    rotate_left
    ·intro w'
     go_simp
     with_reducible rfl
    rotate_left
    ·simp only [Act.put,List.setIfInBounds_toArray,List.set_cons_zero,List.set_cons_succ,i64_w,i32_w]
     rfl
    refine take_ (i:=1) (N:=some 8) (v:=?_) (a':=?_) #[true,true,false,false,false,false,false,false,false,false,false,false,false,false,false,false,false,false,false,false,false] rfl rfl (take_ofW HT_.out HW_.out (by kernel_rfl)) (fun _ _ _ h=>h) (Or.inl ⟨by rfl,?_⟩) hHeld ?_ ?_
    rotate_left
    ·rintro w' ⟨s0, s1, s2, s3, s4, s5, s6, s7, s8⟩
     go_simp
     with_reducible rfl
    rotate_left
    ·simp only [Act.put,List.setIfInBounds_toArray,List.set_cons_zero,List.set_cons_succ,i64_w,i32_w]
     rfl
    refine one_ (i:=2) (N:=some 9) #[true,true,true,false,false,false,false,false,false,false,false,false,false,false,false,false,false,false,false,false,false] rfl rfl (one_of HT_.out (by kernel_rfl)) (by decide) (fun K hK=>?_)
    refine goes_ Try.func14 (by kernel_rfl) rfl #[.agg #[.int .i64 a0_0,.int .i64 a0_1,.int .i64 a0_2,.slice A0_3 l0_3.length c0_3,.int .i64 a0_4,.int .i64 a0_5,.bool a0_6,.int .i64 a0_7]] (by rfl) rfl rfl (by (try simp only [List.map_toArray,List.map_cons,List.map_nil]);first|done|rfl|(simp only [List.length_drop,List.length_take];rfl)) ?_
    with_reducible refine (spec_ValidFlash.calls k a0_0 a0_1 a0_2 _ _ l0_3 a0_4 a0_5 a0_6 a0_7 true _ ?side1 ?side2 A4.out).mono ?_
    (case side1=>repeat (first|exact (Kd.C_below HR0_3.out HB.out)|(with_reducible refine Kd.C_alloc ?_ _)|(with_reducible refine Kd.C_drewN ?_ _)|(with_reducible refine Kd.C_drew ?_)))
    (case side2 => exact HC0_3.out)
    rintro e w8 ⟨rfl, hb⟩
    refine ⟨_, rfl, ?_⟩
    have n0_:=mk11_ (blk_below (g:=gb258) (o:=.cells #[.int .i64 a0_0,.int .i64 a0_1,.int .i64 a0_2,.slice A0_3 l0_3.length c0_3,.int .i64 a0_4,.int .i64 a0_5,.bool a0_6,.int .i64 a0_7,.slice A0_8 l0_8.length c0_8] 38 (0,0)) (by (with_reducible repeat (first|refine kN11_ ?_ _|refine kD11_ ?_|refine blk_alloc ?_ _));exact BK258.out) hb)
    have n1_:=mk11_ (bT11_ (by repeat (first|(with_reducible first|exact HB.out|apply bA11_|apply bN11_|apply bD11_|refine bS11_ ?_ GE258.out)|exact HB.out)) hb)
    clear BK258
    clear HB
    have BK258 := n0_
    have HB := n1_
    clear n0_ n1_
    (try clear hb)
    (try clear hb2)
    (try clear hk)
    (try clear hi)
    refine hK.out _ _ ⟨(blk_cell BK258.out 0).trans rfl,(blk_cell BK258.out 1).trans rfl,(blk_cell BK258.out 2).trans rfl,(blk_cell BK258.out 3).trans rfl,(blk_cell BK258.out 4).trans rfl,(blk_cell BK258.out 5).trans rfl,(blk_cell BK258.out 6).trans rfl,(blk_cell BK258.out 7).trans rfl,(blk_cell BK258.out 8).trans rfl⟩ (fun hHeld=>?_)
    clear hK K
    refine norm_ (a' := ?_) ?_ ?_
    rotate_left
    ·show Act.put _ (some 9) _ = _
     simp only [Act.put,List.setIfInBounds_toArray,List.set_cons_zero,List.set_cons_succ,i64_w,i32_w]
     rfl
    refine pure_ (i:=3) (N:=some 10) (v:=?_) (a':=?_) #[true,true,true,true,false,false,false,false,false,false,false,false,false,false,false,false,false,false,false,false,false] rfl rfl (any_of HT_.out (by kernel_rfl)) (fun _ _ _ h=>h) (Or.inl ⟨by rfl,?_⟩) ?_ ?_
    rotate_left
    ·intro w'
     go_simp
     with_reducible rfl
    rotate_left
    ·simp only [Act.put,List.setIfInBounds_toArray,List.set_cons_zero,List.set_cons_succ,i64_w,i32_w]
     rfl
    refine pure_ (i:=4) (N:=some 11) (v:=?_) (a':=?_) #[true,true,true,true,true,false,false,false,false,false,false,false,false,false,false,false,false,false,false,false,false] rfl rfl (any_of HT_.out (by kernel_rfl)) (fun _ _ _ h=>h) (Or.inl ⟨by rfl,?_⟩) ?_ ?_
    rotate_left
    ·intro w'
     go_simp
     with_reducible rfl
    rotate_left
    ·simp only [Act.put,List.setIfInBounds_toArray,List.set_cons_zero,List.set_cons_succ,i64_w,i32_w]
     rfl
    refine pure_ (i:=5) (N:=some 12) (v:=?_) (a':=?_) #[true,true,true,true,true,true,false,false,false,false,false,false,false,false,false,false,false,false,false,false,false] rfl rfl (any_of HT_.out (by kernel_rfl)) (fun _ _ _ h=>h) (Or.inl ⟨by rfl,?_⟩) ?_ ?_
    rotate_left
    ·intro w'
     go_simp
     with_reducible rfl
    rotate_left
    ·simp only [Act.put,List.setIfInBounds_toArray,List.set_cons_zero,List.set_cons_succ,i64_w,i32_w]
     rfl
    refine take_ (i:=6) (N:=some 13) (v:=?_) (a':=?_) #[true,true,true,true,true,true,true,false,false,false,false,false,false,false,false,false,false,false,false,false,false] rfl rfl (take_ofW HT_.out HW_.out (by kernel_rfl)) (fun _ _ _ h=>h) (Or.inl ⟨by rfl,?_⟩) hHeld ?_ ?_
    rotate_left
    ·rintro w' ⟨s0, s1, s2, s3, s4, s5, s6, s7, s8⟩
     go_simp
     with_reducible rfl
    rotate_left
    ·simp only [Act.put,List.setIfInBounds_toArray,List.set_cons_zero,List.set_cons_succ,i64_w,i32_w]
     rfl
    refine pure_ (i:=7) (N:=some 14) (v:=?_) (a':=?_) #[true,true,true,true,true,true,true,true,false,false,false,false,false,false,false,false,false,false,false,false,false] rfl rfl (any_of HT_.out (by kernel_rfl)) (fun _ _ _ h=>h) (Or.inl ⟨by rfl,?_⟩) ?_ ?_
    rotate_left
    ·intro w'
     go_simp
     with_reducible rfl
    rotate_left
    ·simp only [Act.put,List.setIfInBounds_toArray,List.set_cons_zero,List.set_cons_succ,i64_w,i32_w]
     rfl
    refine pure_ (i:=8) (N:=some 15) (v:=?_) (a':=?_) #[true,true,true,true,true,true,true,true,true,false,false,false,false,false,false,false,false,false,false,false,false] rfl rfl (any_of HT_.out (by kernel_rfl)) (fun _ _ _ h=>h) (Or.inl ⟨by rfl,?_⟩) ?_ ?_
    rotate_left
    ·intro w'
     go_simp
     with_reducible rfl
    rotate_left
    ·simp only [Act.put,List.setIfInBounds_toArray,List.set_cons_zero,List.set_cons_succ,i64_w,i32_w]
     rfl
    refine pure_ (i:=9) (N:=some 16) (v:=?_) (a':=?_) #[true,true,true,true,true,true,true,true,true,true,false,false,false,false,false,false,false,false,false,false,false] rfl rfl (any_of HT_.out (by kernel_rfl)) (fun _ _ _ h=>h) (Or.inl ⟨by rfl,?_⟩) ?_ ?_
    rotate_left
    ·intro w'
     go_simp
     with_reducible rfl
    rotate_left
    ·simp only [Act.put,List.setIfInBounds_toArray,List.set_cons_zero,List.set_cons_succ,i64_w,i32_w]
     rfl
    refine pure_ (i:=10) (N:=some 17) (v:=?_) (a':=?_) #[true,true,true,true,true,true,true,true,true,true,true,false,false,false,false,false,false,false,false,false,false] rfl rfl (any_of HT_.out (by kernel_rfl)) (fun _ _ _ h=>h) (Or.inl ⟨by rfl,?_⟩) ?_ ?_
    rotate_left
    ·intro w'
     go_simp
     with_reducible rfl
    rotate_left
    ·simp only [Act.put,List.setIfInBounds_toArray,List.set_cons_zero,List.set_cons_succ,i64_w,i32_w]
     rfl
    refine pure_ (i:=11) (N:=some 18) (v:=undef) (a':=?_) #[true,true,true,true,true,true,true,true,true,true,true,true,false,false,false,false,false,false,false,false,false] rfl rfl (any_of HT_.out (by kernel_rfl)) (fun _ _ _ h=>h) (Or.inr ⟨by rfl,rfl⟩) ?_ ?_
    rotate_left
    ·simp only [Act.put,List.setIfInBounds_toArray,List.set_cons_zero,List.set_cons_succ,i64_w,i32_w]
     rfl
    refine pure_ (i:=12) (N:=some 19) (v:=undef) (a':=?_) #[true,true,true,true,true,true,true,true,true,true,true,true,true,false,false,false,false,false,false,false,false] rfl rfl (any_of HT_.out (by kernel_rfl)) (fun _ _ _ h=>h) (Or.inr ⟨by rfl,rfl⟩) ?_ ?_
    rotate_left
    ·simp only [Act.put,List.setIfInBounds_toArray,List.set_cons_zero,List.set_cons_succ,i64_w,i32_w]
     rfl
    refine pure_ (i:=13) (N:=some 20) (v:=undef) (a':=?_) #[true,true,true,true,true,true,true,true,true,true,true,true,true,true,false,false,false,false,false,false,false] rfl rfl (any_of HT_.out (by kernel_rfl)) (fun _ _ _ h=>h) (Or.inr ⟨by rfl,rfl⟩) ?_ ?_
    rotate_left
    ·simp only [Act.put,List.setIfInBounds_toArray,List.set_cons_zero,List.set_cons_succ,i64_w,i32_w]
     rfl
    refine pure_ (i:=14) (N:=some 21) (v:=undef) (a':=?_) #[true,true,true,true,true,true,true,true,true,true,true,true,true,true,true,false,false,false,false,false,false] rfl rfl (any_of HT_.out (by kernel_rfl)) (fun _ _ _ h=>h) (Or.inr ⟨by rfl,rfl⟩) ?_ ?_
    rotate_left
    ·simp only [Act.put,List.setIfInBounds_toArray,List.set_cons_zero,List.set_cons_succ,i64_w,i32_w]
     rfl
    refine pure_ (i:=15) (N:=some 22) (v:=undef) (a':=?_) #[true,true,true,true,true,true,true,true,true,true,true,true,true,true,true,true,false,false,false,false,false] rfl rfl (any_of HT_.out (by kernel_rfl)) (fun _ _ _ h=>h) (Or.inr ⟨by rfl,rfl⟩) ?_ ?_
    rotate_left
    ·simp only [Act.put,List.setIfInBounds_toArray,List.set_cons_zero,List.set_cons_succ,i64_w,i32_w]
     rfl
    refine pure_ (i:=16) (N:=some 23) (v:=undef) (a':=?_) #[true,true,true,true,true,true,true,true,true,true,true,true,true,true,true,true,true,false,false,false,false] rfl rfl (any_of HT_.out (by kernel_rfl)) (fun _ _ _ h=>h) (Or.inr ⟨by rfl,rfl⟩) ?_ ?_
    rotate_left
    ·simp only [Act.put,List.setIfInBounds_toArray,List.set_cons_zero,List.set_cons_succ,i64_w,i32_w]
     rfl
    refine pure_ (i:=17) (N:=some 24) (v:=undef) (a':=?_) #[true,true,true,true,true,true,true,true,true,true,true,true,true,true,true,true,true,true,false,false,false] rfl rfl (any_of HT_.out (by kernel_rfl)) (fun _ _ _ h=>h) (Or.inr ⟨by rfl,rfl⟩) ?_ ?_
    rotate_left
    ·simp only [Act.put,List.setIfInBounds_toArray,List.set_cons_zero,List.set_cons_succ,i64_w,i32_w]
     rfl
    refine pure_ (i:=18) (N:=some 25) (v:=undef) (a':=?_) #[true,true,true,true,true,true,true,true,true,true,true,true,true,true,true,true,true,true,true,false,false] rfl rfl (any_of HT_.out (by kernel_rfl)) (fun _ _ _ h=>h) (Or.inr ⟨by rfl,rfl⟩) ?_ ?_
    rotate_left
    ·simp only [Act.put,List.setIfInBounds_toArray,List.set_cons_zero,List.set_cons_succ,i64_w,i32_w]
     rfl
    refine pure_ (i:=19) (N:=some 26) (v:=undef) (a':=?_) #[true,true,true,true,true,true,true,true,true,true,true,true,true,true,true,true,true,true,true,true,false] rfl rfl (any_of HT_.out (by kernel_rfl)) (fun _ _ _ h=>h) (Or.inr ⟨by rfl,rfl⟩) ?_ ?_
    rotate_left
    ·simp only [Act.put,List.setIfInBounds_toArray,List.set_cons_zero,List.set_cons_succ,i64_w,i32_w]
     rfl
    refine pure_ (i:=20) (N:=some 27) (v:=?_) (a':=?_) #[true,true,true,true,true,true,true,true,true,true,true,true,true,true,true,true,true,true,true,true,true] rfl rfl (any_of HT_.out (by kernel_rfl)) (fun _ _ _ h=>h) (Or.inl ⟨by rfl,?_⟩) ?_ ?_
    rotate_left
    ·intro w'
     go_simp
     with_reducible rfl
    rotate_left
    ·simp only [Act.put,List.setIfInBounds_toArray,List.set_cons_zero,List.set_cons_succ,i64_w,i32_w]
     rfl
    refine done_ (done_of HT_.out (by kernel_rfl)) ?_
    try go_wp2
    go_meet
    case rel=>exact ⟨_,(true),(by first|rfl|(simp;done)|(simp [*];done)),H',⟨by first|omega|exact Nat.le_refl _⟩,⟨by (with_reducible repeat (first|refine kN11_ ?_ _|refine kD11_ ?_|refine blk_alloc ?_ _));exact BK258.out⟩,⟨by repeat (first|(with_reducible first|exact HB.out|apply bA11_|apply bN11_|apply bD11_|refine bS11_ ?_ GE258.out)|exact HB.out)⟩⟩
   ·rw [if_neg c6] at H
    have c6b0 : decide ((l0_8.length : Int) < 1) = false := decide_eq_false c6
    have c6b1 : decide (l0_8.length < 1) = false := decide_eq_false (by omega)
    clear c6
    (first | rw [c6b0] | (simp only [i64_w, i32_w]; rw [c6b0]) | skip)
    replace H := Option.bind_eq_some_iff.mp H
    obtain ⟨t260, A90, H⟩ := H
    replace H:(spec_ValidDevice.j0 k (decide ((l0_8.length:Int) > t260)) a0_0 a0_1 a0_2 l0_3 a0_4 a0_5 a0_6 a0_7 l0_8)=some r:=H
    have A9 := Aside0.mk A90
    clear A90
    have H' := Aside0.mk H
    clear H
    try go_wp2
    have n0_ := Aside0.mk (blk_drew BK258.out)
    have n1_ := Aside0.mk (below_drew1 HB.out)
    clear BK258
    clear HB
    have BK258 := n0_
    have HB := n1_
    clear n0_ n1_
    refine start_ (n:=21) (S:=fun w'=>w'.cell? ⟨gb258,0,none⟩=some (.int .i64 a0_0)∧w'.cell? ⟨gb258,1,none⟩=some (.int .i64 a0_1)∧w'.cell? ⟨gb258,2,none⟩=some (.int .i64 a0_2)∧w'.cell? ⟨gb258,3,none⟩=some (.slice A0_3 l0_3.length c0_3)∧w'.cell? ⟨gb258,4,none⟩=some (.int .i64 a0_4)∧w'.cell? ⟨gb258,5,none⟩=some (.int .i64 a0_5)∧w'.cell? ⟨gb258,6,none⟩=some (.bool a0_6)∧w'.cell? ⟨gb258,7,none⟩=some (.int .i64 a0_7)∧w'.cell? ⟨gb258,8,none⟩=some (.slice A0_8 l0_8.length c0_8)) (ds:=[]) #[false,false,false,false,false,false,false,false,false,false,false,false,false,false,false,false,false,false,false,false,false] (by kernel_rfl) rfl rfl ⟨(blk_cell BK258.out 0).trans rfl,(blk_cell BK258.out 1).trans rfl,(blk_cell BK258.out 2).trans rfl,(blk_cell BK258.out 3).trans rfl,(blk_cell BK258.out 4).trans rfl,(blk_cell BK258.out 5).trans rfl,(blk_cell BK258.out 6).trans rfl,(blk_cell BK258.out 7).trans rfl,(blk_cell BK258.out 8).trans rfl⟩ (fun hHeld=>?_);refine with_tabW spec_ValidDevice.tab1 spec_ValidDevice.bits1 (fun HT_ HW_=>?_)
    generalize w3.drew = w10 at BK258 HB hHeld ⊢
    refine pure_ (i:=0) (N:=some 7) (v:=?_) (a':=?_) #[true,false,false,false,false,false,false,false,false,false,false,false,false,false,false,false,false,false,false,false,false] rfl rfl (any_of HT_.out (by kernel_rfl)) (fun _ _ _ h=>h) (Or.inl ⟨by rfl,?_⟩) ?_ ?_
    rotate_left
    ·intro w'
     go_simp
     with_reducible rfl
    rotate_left
    ·simp only [Act.put,List.setIfInBounds_toArray,List.set_cons_zero,List.set_cons_succ,i64_w,i32_w]
     rfl
    refine take_ (i:=1) (N:=some 8) (v:=?_) (a':=?_) #[true,true,false,false,false,false,false,false,false,false,false,false,false,false,false,false,false,false,false,false,false] rfl rfl (take_ofW HT_.out HW_.out (by kernel_rfl)) (fun _ _ _ h=>h) (Or.inl ⟨by rfl,?_⟩) hHeld ?_ ?_
    rotate_left
    ·rintro w' ⟨s0, s1, s2, s3, s4, s5, s6, s7, s8⟩
     go_simp
     with_reducible rfl
    rotate_left
    ·simp only [Act.put,List.setIfInBounds_toArray,List.set_cons_zero,List.set_cons_succ,i64_w,i32_w]
     rfl
    refine one_ (i:=2) (N:=some 9) #[true,true,true,false,false,false,false,false,false,false,false,false,false,false,false,false,false,false,false,false,false] rfl rfl (one_of HT_.out (by kernel_rfl)) (by decide) (fun K hK=>?_)
    refine goes_ Try.func14 (by kernel_rfl) rfl #[.agg #[.int .i64 a0_0,.int .i64 a0_1,.int .i64 a0_2,.slice A0_3 l0_3.length c0_3,.int .i64 a0_4,.int .i64 a0_5,.bool a0_6,.int .i64 a0_7]] (by rfl) rfl rfl (by (try simp only [List.map_toArray,List.map_cons,List.map_nil]);first|done|rfl|(simp only [List.length_drop,List.length_take];rfl)) ?_
    with_reducible refine (spec_ValidFlash.calls k a0_0 a0_1 a0_2 _ _ l0_3 a0_4 a0_5 a0_6 a0_7 true _ ?side1 ?side2 A4.out).mono ?_
    (case side1=>repeat (first|exact (Kd.C_below HR0_3.out HB.out)|(with_reducible refine Kd.C_alloc ?_ _)|(with_reducible refine Kd.C_drewN ?_ _)|(with_reducible refine Kd.C_drew ?_)))
    (case side2 => exact HC0_3.out)
    rintro e w11 ⟨rfl, hb⟩
    refine ⟨_, rfl, ?_⟩
    have n0_:=mk11_ (blk_below (g:=gb258) (o:=.cells #[.int .i64 a0_0,.int .i64 a0_1,.int .i64 a0_2,.slice A0_3 l0_3.length c0_3,.int .i64 a0_4,.int .i64 a0_5,.bool a0_6,.int .i64 a0_7,.slice A0_8 l0_8.length c0_8] 38 (0,0)) (by (with_reducible repeat (first|refine kN11_ ?_ _|refine kD11_ ?_|refine blk_alloc ?_ _));exact BK258.out) hb)
    have n1_:=mk11_ (bT11_ (by repeat (first|(with_reducible first|exact HB.out|apply bA11_|apply bN11_|apply bD11_|refine bS11_ ?_ GE258.out)|exact HB.out)) hb)
    clear BK258
    clear HB
    have BK258 := n0_
    have HB := n1_
    clear n0_ n1_
    (try clear hb)
    (try clear hb2)
    (try clear hk)
    (try clear hi)
    refine hK.out _ _ ⟨(blk_cell BK258.out 0).trans rfl,(blk_cell BK258.out 1).trans rfl,(blk_cell BK258.out 2).trans rfl,(blk_cell BK258.out 3).trans rfl,(blk_cell BK258.out 4).trans rfl,(blk_cell BK258.out 5).trans rfl,(blk_cell BK258.out 6).trans rfl,(blk_cell BK258.out 7).trans rfl,(blk_cell BK258.out 8).trans rfl⟩ (fun hHeld=>?_)
    clear hK K
    refine norm_ (a' := ?_) ?_ ?_
    rotate_left
    ·show Act.put _ (some 9) _ = _
     simp only [Act.put,List.setIfInBounds_toArray,List.set_cons_zero,List.set_cons_succ,i64_w,i32_w]
     rfl
    refine pure_ (i:=3) (N:=some 10) (v:=?_) (a':=?_) #[true,true,true,true,false,false,false,false,false,false,false,false,false,false,false,false,false,false,false,false,false] rfl rfl (any_of HT_.out (by kernel_rfl)) (fun _ _ _ h=>h) (Or.inl ⟨by rfl,?_⟩) ?_ ?_
    rotate_left
    ·intro w'
     go_simp
     with_reducible rfl
    rotate_left
    ·simp only [Act.put,List.setIfInBounds_toArray,List.set_cons_zero,List.set_cons_succ,i64_w,i32_w]
     rfl
    refine pure_ (i:=4) (N:=some 11) (v:=?_) (a':=?_) #[true,true,true,true,true,false,false,false,false,false,false,false,false,false,false,false,false,false,false,false,false] rfl rfl (any_of HT_.out (by kernel_rfl)) (fun _ _ _ h=>h) (Or.inl ⟨by rfl,?_⟩) ?_ ?_
    rotate_left
    ·intro w'
     go_simp
     with_reducible rfl
    rotate_left
    ·simp only [Act.put,List.setIfInBounds_toArray,List.set_cons_zero,List.set_cons_succ,i64_w,i32_w]
     rfl
    refine pure_ (i:=5) (N:=some 12) (v:=?_) (a':=?_) #[true,true,true,true,true,true,false,false,false,false,false,false,false,false,false,false,false,false,false,false,false] rfl rfl (any_of HT_.out (by kernel_rfl)) (fun _ _ _ h=>h) (Or.inl ⟨by rfl,?_⟩) ?_ ?_
    rotate_left
    ·intro w'
     go_simp
     with_reducible rfl
    rotate_left
    ·simp only [Act.put,List.setIfInBounds_toArray,List.set_cons_zero,List.set_cons_succ,i64_w,i32_w]
     rfl
    refine take_ (i:=6) (N:=some 13) (v:=?_) (a':=?_) #[true,true,true,true,true,true,true,false,false,false,false,false,false,false,false,false,false,false,false,false,false] rfl rfl (take_ofW HT_.out HW_.out (by kernel_rfl)) (fun _ _ _ h=>h) (Or.inl ⟨by rfl,?_⟩) hHeld ?_ ?_
    rotate_left
    ·rintro w' ⟨s0, s1, s2, s3, s4, s5, s6, s7, s8⟩
     go_simp
     with_reducible rfl
    rotate_left
    ·simp only [Act.put,List.setIfInBounds_toArray,List.set_cons_zero,List.set_cons_succ,i64_w,i32_w]
     rfl
    refine pure_ (i:=7) (N:=some 14) (v:=?_) (a':=?_) #[true,true,true,true,true,true,true,true,false,false,false,false,false,false,false,false,false,false,false,false,false] rfl rfl (any_of HT_.out (by kernel_rfl)) (fun _ _ _ h=>h) (Or.inl ⟨by rfl,?_⟩) ?_ ?_
    rotate_left
    ·intro w'
     go_simp
     with_reducible rfl
    rotate_left
    ·simp only [Act.put,List.setIfInBounds_toArray,List.set_cons_zero,List.set_cons_succ,i64_w,i32_w]
     rfl
    refine pure_ (i:=8) (N:=some 15) (v:=?_) (a':=?_) #[true,true,true,true,true,true,true,true,true,false,false,false,false,false,false,false,false,false,false,false,false] rfl rfl (any_of HT_.out (by kernel_rfl)) (fun _ _ _ h=>h) (Or.inl ⟨by rfl,?_⟩) ?_ ?_
    rotate_left
    ·intro w'
     go_simp
     with_reducible rfl
    rotate_left
    ·simp only [Act.put,List.setIfInBounds_toArray,List.set_cons_zero,List.set_cons_succ,i64_w,i32_w]
     rfl
    refine pure_ (i:=9) (N:=some 16) (v:=?_) (a':=?_) #[true,true,true,true,true,true,true,true,true,true,false,false,false,false,false,false,false,false,false,false,false] rfl rfl (any_of HT_.out (by kernel_rfl)) (fun _ _ _ h=>h) (Or.inl ⟨by rfl,?_⟩) ?_ ?_
    rotate_left
    ·intro w'
     go_simp
     with_reducible rfl
    rotate_left
    ·simp only [Act.put,List.setIfInBounds_toArray,List.set_cons_zero,List.set_cons_succ,i64_w,i32_w]
     rfl
    refine pure_ (i:=10) (N:=some 17) (v:=?_) (a':=?_) #[true,true,true,true,true,true,true,true,true,true,true,false,false,false,false,false,false,false,false,false,false] rfl rfl (any_of HT_.out (by kernel_rfl)) (fun _ _ _ h=>h) (Or.inl ⟨by rfl,?_⟩) ?_ ?_
    rotate_left
    ·intro w'
     go_simp
     with_reducible rfl
    rotate_left
    ·simp only [Act.put,List.setIfInBounds_toArray,List.set_cons_zero,List.set_cons_succ,i64_w,i32_w]
     rfl
    refine pure_ (i:=11) (N:=some 18) (v:=?_) (a':=?_) #[true,true,true,true,true,true,true,true,true,true,true,true,false,false,false,false,false,false,false,false,false] rfl rfl (any_of HT_.out (by kernel_rfl)) (fun _ _ _ h=>h) (Or.inl ⟨by rfl,?_⟩) ?_ ?_
    rotate_left
    ·intro w'
     go_simp
     with_reducible rfl
    rotate_left
    ·simp only [Act.put,List.setIfInBounds_toArray,List.set_cons_zero,List.set_cons_succ,i64_w,i32_w]
     rfl
    refine pure_ (i:=14) (N:=some 21) (v:=?_) (a':=?_) #[true,true,true,true,true,true,true,true,true,true,true,true,false,false,true,false,false,false,false,false,false] rfl rfl (any_of HT_.out (by kernel_rfl)) (fun _ _ _ h=>h) (Or.inl ⟨by rfl,?_⟩) ?_ ?_
    rotate_left
    ·intro w'
     go_simp
     with_reducible rfl
    rotate_left
    ·simp only [Act.put,List.setIfInBounds_toArray,List.set_cons_zero,List.set_cons_succ,i64_w,i32_w]
     rfl
    refine pure_ (i:=15) (N:=some 22) (v:=?_) (a':=?_) #[true,true,true,true,true,true,true,true,true,true,true,true,false,false,true,true,false,false,false,false,false] rfl rfl (any_of HT_.out (by kernel_rfl)) (fun _ _ _ h=>h) (Or.inl ⟨by rfl,?_⟩) ?_ ?_
    rotate_left
    ·intro w'
     go_simp
     with_reducible rfl
    rotate_left
    ·simp only [Act.put,List.setIfInBounds_toArray,List.set_cons_zero,List.set_cons_succ,i64_w,i32_w]
     rfl
    refine pure_ (i:=16) (N:=some 23) (v:=?_) (a':=?_) #[true,true,true,true,true,true,true,true,true,true,true,true,false,false,true,true,true,false,false,false,false] rfl rfl (any_of HT_.out (by kernel_rfl)) (fun _ _ _ h=>h) (Or.inl ⟨by rfl,?_⟩) ?_ ?_
    rotate_left
    ·intro w'
     go_simp
     with_reducible rfl
    rotate_left
    ·simp only [Act.put,List.setIfInBounds_toArray,List.set_cons_zero,List.set_cons_succ,i64_w,i32_w]
     rfl
    refine take_ (i:=12) (N:=some 19) (v:=?_) (a':=?_) #[true,true,true,true,true,true,true,true,true,true,true,true,true,false,true,true,true,false,false,false,false] rfl rfl (take_ofW HT_.out HW_.out (by kernel_rfl)) (fun _ _ _ h=>h) (Or.inl ⟨by rfl,?_⟩) hHeld ?_ ?_
    rotate_left
    ·rintro w' ⟨s0, s1, s2, s3, s4, s5, s6, s7, s8⟩
     go_simp
     with_reducible rfl
    rotate_left
    ·simp only [Act.put,List.setIfInBounds_toArray,List.set_cons_zero,List.set_cons_succ,i64_w,i32_w]
     rfl
    refine pure_ (i:=13) (N:=some 20) (v:=?_) (a':=?_) #[true,true,true,true,true,true,true,true,true,true,true,true,true,true,true,true,true,false,false,false,false] rfl rfl (any_of HT_.out (by kernel_rfl)) (fun _ _ _ h=>h) (Or.inl ⟨by rfl,?_⟩) ?_ ?_
    rotate_left
    ·intro w'
     go_simp
     with_reducible rfl
    rotate_left
    ·simp only [Act.put,List.setIfInBounds_toArray,List.set_cons_zero,List.set_cons_succ,i64_w,i32_w]
     rfl
    refine take_ (i:=17) (N:=some 24) (v:=?_) (a':=?_) #[true,true,true,true,true,true,true,true,true,true,true,true,true,true,true,true,true,true,false,false,false] rfl rfl (take_ofW HT_.out HW_.out (by kernel_rfl)) (fun _ _ _ h=>h) (Or.inl ⟨by rfl,?_⟩) hHeld ?_ ?_
    rotate_left
    ·rintro w' ⟨s0, s1, s2, s3, s4, s5, s6, s7, s8⟩
     go_simp
     with_reducible rfl
    rotate_left
    ·simp only [Act.put,List.setIfInBounds_toArray,List.set_cons_zero,List.set_cons_succ,i64_w,i32_w]
     rfl
    refine one_ (i:=18) (N:=some 25) #[true,true,true,true,true,true,true,true,true,true,true,true,true,true,true,true,true,true,true,false,false] rfl rfl (one_of HT_.out (by kernel_rfl)) (by decide) (fun K hK=>?_)
    refine goes_ Try.func15 (by kernel_rfl) rfl #[.int .i64 12,.int .i64 a0_1] (by rfl) rfl rfl (by (try simp only [List.map_toArray,List.map_cons,List.map_nil]);first|done|rfl|(simp only [List.length_drop,List.length_take];rfl)) ?_
    with_reducible refine (spec_l00Min.calls 12 a0_1 t260 _ A9.out).mono ?_
    rintro e w' ⟨rfl, ⟨nd, rfl⟩⟩
    refine ⟨_, rfl, ?_⟩
    refine hK.out _ _ ⟨(blk_cell BK258.out 0).trans rfl,(blk_cell BK258.out 1).trans rfl,(blk_cell BK258.out 2).trans rfl,(blk_cell BK258.out 3).trans rfl,(blk_cell BK258.out 4).trans rfl,(blk_cell BK258.out 5).trans rfl,(blk_cell BK258.out 6).trans rfl,(blk_cell BK258.out 7).trans rfl,(blk_cell BK258.out 8).trans rfl⟩ (fun hHeld=>?_)
    clear hK K
    refine norm_ (a' := ?_) ?_ ?_
    rotate_left
    ·show Act.put _ (some 25) _ = _
     simp only [Act.put,List.setIfInBounds_toArray,List.set_cons_zero,List.set_cons_succ,i64_w,i32_w]
     rfl
    refine pure_ (i:=19) (N:=some 26) (v:=?_) (a':=?_) #[true,true,true,true,true,true,true,true,true,true,true,true,true,true,true,true,true,true,true,true,false] rfl rfl (any_of HT_.out (by kernel_rfl)) (fun _ _ _ h=>h) (Or.inl ⟨by rfl,?_⟩) ?_ ?_
    rotate_left
    ·intro w'
     go_simp
     with_reducible rfl
    rotate_left
    ·simp only [Act.put,List.setIfInBounds_toArray,List.set_cons_zero,List.set_cons_succ,i64_w,i32_w]
     rfl
    refine pure_ (i:=20) (N:=some 27) (v:=?_) (a':=?_) #[true,true,true,true,true,true,true,true,true,true,true,true,true,true,true,true,true,true,true,true,true] rfl rfl (any_of HT_.out (by kernel_rfl)) (fun _ _ _ h=>h) (Or.inl ⟨by rfl,?_⟩) ?_ ?_
    rotate_left
    ·intro w'
     go_simp
     with_reducible rfl
    rotate_left
    ·simp only [Act.put,List.setIfInBounds_toArray,List.set_cons_zero,List.set_cons_succ,i64_w,i32_w]
     rfl
    refine done_ (done_of HT_.out (by kernel_rfl)) ?_
    try go_wp2
    go_meet
    case rel=>exact ⟨_,(decide ((l0_8.length:Int) > t260)),(by first|rfl|(simp;done)|(simp [*];done)),H',⟨by first|omega|exact Nat.le_refl _⟩,⟨by (with_reducible repeat (first|refine kN11_ ?_ _|refine kD11_ ?_|refine blk_alloc ?_ _));exact BK258.out⟩,⟨by repeat (first|(with_reducible first|exact HB.out|apply bA11_|apply bN11_|apply bD11_|refine bS11_ ?_ GE258.out)|exact HB.out)⟩⟩
  ·replace c5 := Bool.eq_false_iff.mpr c5
   subst c5
   have H1:(spec_ValidDevice.j0 k true a0_0 a0_1 a0_2 l0_3 a0_4 a0_5 a0_6 a0_7 l0_8)=some r:=by rw [if_neg (show ¬ (false=true) by decide)] at H;exact H
   clear H
   have H := H1
   clear H1
   have H' := Aside0.mk H
   clear H
   try go_wp2
   have n0_ := Aside0.mk (blk_drew BK258.out)
   have n1_ := Aside0.mk (below_drew1 HB.out)
   clear BK258
   clear HB
   have BK258 := n0_
   have HB := n1_
   clear n0_ n1_
   refine start_ (n:=21) (S:=fun w'=>w'.cell? ⟨gb258,0,none⟩=some (.int .i64 a0_0)∧w'.cell? ⟨gb258,1,none⟩=some (.int .i64 a0_1)∧w'.cell? ⟨gb258,2,none⟩=some (.int .i64 a0_2)∧w'.cell? ⟨gb258,3,none⟩=some (.slice A0_3 l0_3.length c0_3)∧w'.cell? ⟨gb258,4,none⟩=some (.int .i64 a0_4)∧w'.cell? ⟨gb258,5,none⟩=some (.int .i64 a0_5)∧w'.cell? ⟨gb258,6,none⟩=some (.bool a0_6)∧w'.cell? ⟨gb258,7,none⟩=some (.int .i64 a0_7)∧w'.cell? ⟨gb258,8,none⟩=some (.slice A0_8 l0_8.length c0_8)) (ds:=[]) #[false,false,false,false,false,false,false,false,false,false,false,false,false,false,false,false,false,false,false,false,false] (by kernel_rfl) rfl rfl ⟨(blk_cell BK258.out 0).trans rfl,(blk_cell BK258.out 1).trans rfl,(blk_cell BK258.out 2).trans rfl,(blk_cell BK258.out 3).trans rfl,(blk_cell BK258.out 4).trans rfl,(blk_cell BK258.out 5).trans rfl,(blk_cell BK258.out 6).trans rfl,(blk_cell BK258.out 7).trans rfl,(blk_cell BK258.out 8).trans rfl⟩ (fun hHeld=>?_);refine with_tabW spec_ValidDevice.tab1 spec_ValidDevice.bits1 (fun HT_ HW_=>?_)
   generalize w3.drew = w12 at BK258 HB hHeld ⊢
   refine pure_ (i:=0) (N:=some 7) (v:=?_) (a':=?_) #[true,false,false,false,false,false,false,false,false,false,false,false,false,false,false,false,false,false,false,false,false] rfl rfl (any_of HT_.out (by kernel_rfl)) (fun _ _ _ h=>h) (Or.inl ⟨by rfl,?_⟩) ?_ ?_
   rotate_left
   ·intro w'
    go_simp
    with_reducible rfl
   rotate_left
   ·simp only [Act.put,List.setIfInBounds_toArray,List.set_cons_zero,List.set_cons_succ,i64_w,i32_w]
    rfl
   refine take_ (i:=1) (N:=some 8) (v:=?_) (a':=?_) #[true,true,false,false,false,false,false,false,false,false,false,false,false,false,false,false,false,false,false,false,false] rfl rfl (take_ofW HT_.out HW_.out (by kernel_rfl)) (fun _ _ _ h=>h) (Or.inl ⟨by rfl,?_⟩) hHeld ?_ ?_
   rotate_left
   ·rintro w' ⟨s0, s1, s2, s3, s4, s5, s6, s7, s8⟩
    go_simp
    with_reducible rfl
   rotate_left
   ·simp only [Act.put,List.setIfInBounds_toArray,List.set_cons_zero,List.set_cons_succ,i64_w,i32_w]
    rfl
   refine one_ (i:=2) (N:=some 9) #[true,true,true,false,false,false,false,false,false,false,false,false,false,false,false,false,false,false,false,false,false] rfl rfl (one_of HT_.out (by kernel_rfl)) (by decide) (fun K hK=>?_)
   refine goes_ Try.func14 (by kernel_rfl) rfl #[.agg #[.int .i64 a0_0,.int .i64 a0_1,.int .i64 a0_2,.slice A0_3 l0_3.length c0_3,.int .i64 a0_4,.int .i64 a0_5,.bool a0_6,.int .i64 a0_7]] (by rfl) rfl rfl (by (try simp only [List.map_toArray,List.map_cons,List.map_nil]);first|done|rfl|(simp only [List.length_drop,List.length_take];rfl)) ?_
   with_reducible refine (spec_ValidFlash.calls k a0_0 a0_1 a0_2 _ _ l0_3 a0_4 a0_5 a0_6 a0_7 false _ ?side1 ?side2 A4.out).mono ?_
   (case side1=>repeat (first|exact (Kd.C_below HR0_3.out HB.out)|(with_reducible refine Kd.C_alloc ?_ _)|(with_reducible refine Kd.C_drewN ?_ _)|(with_reducible refine Kd.C_drew ?_)))
   (case side2 => exact HC0_3.out)
   rintro e w13 ⟨rfl, hb⟩
   refine ⟨_, rfl, ?_⟩
   have n0_:=mk11_ (blk_below (g:=gb258) (o:=.cells #[.int .i64 a0_0,.int .i64 a0_1,.int .i64 a0_2,.slice A0_3 l0_3.length c0_3,.int .i64 a0_4,.int .i64 a0_5,.bool a0_6,.int .i64 a0_7,.slice A0_8 l0_8.length c0_8] 38 (0,0)) (by (with_reducible repeat (first|refine kN11_ ?_ _|refine kD11_ ?_|refine blk_alloc ?_ _));exact BK258.out) hb)
   have n1_:=mk11_ (bT11_ (by repeat (first|(with_reducible first|exact HB.out|apply bA11_|apply bN11_|apply bD11_|refine bS11_ ?_ GE258.out)|exact HB.out)) hb)
   clear BK258
   clear HB
   have BK258 := n0_
   have HB := n1_
   clear n0_ n1_
   (try clear hb)
   (try clear hb2)
   (try clear hk)
   (try clear hi)
   refine hK.out _ _ ⟨(blk_cell BK258.out 0).trans rfl,(blk_cell BK258.out 1).trans rfl,(blk_cell BK258.out 2).trans rfl,(blk_cell BK258.out 3).trans rfl,(blk_cell BK258.out 4).trans rfl,(blk_cell BK258.out 5).trans rfl,(blk_cell BK258.out 6).trans rfl,(blk_cell BK258.out 7).trans rfl,(blk_cell BK258.out 8).trans rfl⟩ (fun hHeld=>?_)
   clear hK K
   refine norm_ (a' := ?_) ?_ ?_
   rotate_left
   ·show Act.put _ (some 9) _ = _
    simp only [Act.put,List.setIfInBounds_toArray,List.set_cons_zero,List.set_cons_succ,i64_w,i32_w]
    rfl
   refine pure_ (i:=3) (N:=some 10) (v:=?_) (a':=?_) #[true,true,true,true,false,false,false,false,false,false,false,false,false,false,false,false,false,false,false,false,false] rfl rfl (any_of HT_.out (by kernel_rfl)) (fun _ _ _ h=>h) (Or.inl ⟨by rfl,?_⟩) ?_ ?_
   rotate_left
   ·intro w'
    go_simp
    with_reducible rfl
   rotate_left
   ·simp only [Act.put,List.setIfInBounds_toArray,List.set_cons_zero,List.set_cons_succ,i64_w,i32_w]
    rfl
   refine pure_ (i:=4) (N:=some 11) (v:=?_) (a':=?_) #[true,true,true,true,true,false,false,false,false,false,false,false,false,false,false,false,false,false,false,false,false] rfl rfl (any_of HT_.out (by kernel_rfl)) (fun _ _ _ h=>h) (Or.inl ⟨by rfl,?_⟩) ?_ ?_
   rotate_left
   ·intro w'
    go_simp
    with_reducible rfl
   rotate_left
   ·simp only [Act.put,List.setIfInBounds_toArray,List.set_cons_zero,List.set_cons_succ,i64_w,i32_w]
    rfl
   refine pure_ (i:=5) (N:=some 12) (v:=undef) (a':=?_) #[true,true,true,true,true,true,false,false,false,false,false,false,false,false,false,false,false,false,false,false,false] rfl rfl (any_of HT_.out (by kernel_rfl)) (fun _ _ _ h=>h) (Or.inr ⟨by rfl,rfl⟩) ?_ ?_
   rotate_left
   ·simp only [Act.put,List.setIfInBounds_toArray,List.set_cons_zero,List.set_cons_succ,i64_w,i32_w]
    rfl
   refine pure_ (i:=6) (N:=some 13) (v:=undef) (a':=?_) #[true,true,true,true,true,true,true,false,false,false,false,false,false,false,false,false,false,false,false,false,false] rfl rfl (any_of HT_.out (by kernel_rfl)) (fun _ _ _ h=>h) (Or.inr ⟨by rfl,rfl⟩) ?_ ?_
   rotate_left
   ·simp only [Act.put,List.setIfInBounds_toArray,List.set_cons_zero,List.set_cons_succ,i64_w,i32_w]
    rfl
   refine pure_ (i:=7) (N:=some 14) (v:=undef) (a':=?_) #[true,true,true,true,true,true,true,true,false,false,false,false,false,false,false,false,false,false,false,false,false] rfl rfl (any_of HT_.out (by kernel_rfl)) (fun _ _ _ h=>h) (Or.inr ⟨by rfl,rfl⟩) ?_ ?_
   rotate_left
   ·simp only [Act.put,List.setIfInBounds_toArray,List.set_cons_zero,List.set_cons_succ,i64_w,i32_w]
    rfl
   refine pure_ (i:=8) (N:=some 15) (v:=undef) (a':=?_) #[true,true,true,true,true,true,true,true,true,false,false,false,false,false,false,false,false,false,false,false,false] rfl rfl (any_of HT_.out (by kernel_rfl)) (fun _ _ _ h=>h) (Or.inr ⟨by rfl,rfl⟩) ?_ ?_
   rotate_left
   ·simp only [Act.put,List.setIfInBounds_toArray,List.set_cons_zero,List.set_cons_succ,i64_w,i32_w]
    rfl
   refine pure_ (i:=9) (N:=some 16) (v:=?_) (a':=?_) #[true,true,true,true,true,true,true,true,true,true,false,false,false,false,false,false,false,false,false,false,false] rfl rfl (any_of HT_.out (by kernel_rfl)) (fun _ _ _ h=>h) (Or.inl ⟨by rfl,?_⟩) ?_ ?_
   rotate_left
   ·intro w'
    go_simp
    with_reducible rfl
   rotate_left
   ·simp only [Act.put,List.setIfInBounds_toArray,List.set_cons_zero,List.set_cons_succ,i64_w,i32_w]
    rfl
   refine pure_ (i:=10) (N:=some 17) (v:=?_) (a':=?_) #[true,true,true,true,true,true,true,true,true,true,true,false,false,false,false,false,false,false,false,false,false] rfl rfl (any_of HT_.out (by kernel_rfl)) (fun _ _ _ h=>h) (Or.inl ⟨by rfl,?_⟩) ?_ ?_
   rotate_left
   ·intro w'
    go_simp
    with_reducible rfl
   rotate_left
   ·simp only [Act.put,List.setIfInBounds_toArray,List.set_cons_zero,List.set_cons_succ,i64_w,i32_w]
    rfl
   refine pure_ (i:=11) (N:=some 18) (v:=undef) (a':=?_) #[true,true,true,true,true,true,true,true,true,true,true,true,false,false,false,false,false,false,false,false,false] rfl rfl (any_of HT_.out (by kernel_rfl)) (fun _ _ _ h=>h) (Or.inr ⟨by rfl,rfl⟩) ?_ ?_
   rotate_left
   ·simp only [Act.put,List.setIfInBounds_toArray,List.set_cons_zero,List.set_cons_succ,i64_w,i32_w]
    rfl
   refine pure_ (i:=12) (N:=some 19) (v:=undef) (a':=?_) #[true,true,true,true,true,true,true,true,true,true,true,true,true,false,false,false,false,false,false,false,false] rfl rfl (any_of HT_.out (by kernel_rfl)) (fun _ _ _ h=>h) (Or.inr ⟨by rfl,rfl⟩) ?_ ?_
   rotate_left
   ·simp only [Act.put,List.setIfInBounds_toArray,List.set_cons_zero,List.set_cons_succ,i64_w,i32_w]
    rfl
   refine pure_ (i:=13) (N:=some 20) (v:=undef) (a':=?_) #[true,true,true,true,true,true,true,true,true,true,true,true,true,true,false,false,false,false,false,false,false] rfl rfl (any_of HT_.out (by kernel_rfl)) (fun _ _ _ h=>h) (Or.inr ⟨by rfl,rfl⟩) ?_ ?_
   rotate_left
   ·simp only [Act.put,List.setIfInBounds_toArray,List.set_cons_zero,List.set_cons_succ,i64_w,i32_w]
    rfl
   refine pure_ (i:=14) (N:=some 21) (v:=undef) (a':=?_) #[true,true,true,true,true,true,true,true,true,true,true,true,true,true,true,false,false,false,false,false,false] rfl rfl (any_of HT_.out (by kernel_rfl)) (fun _ _ _ h=>h) (Or.inr ⟨by rfl,rfl⟩) ?_ ?_
   rotate_left
   ·simp only [Act.put,List.setIfInBounds_toArray,List.set_cons_zero,List.set_cons_succ,i64_w,i32_w]
    rfl
   refine pure_ (i:=15) (N:=some 22) (v:=undef) (a':=?_) #[true,true,true,true,true,true,true,true,true,true,true,true,true,true,true,true,false,false,false,false,false] rfl rfl (any_of HT_.out (by kernel_rfl)) (fun _ _ _ h=>h) (Or.inr ⟨by rfl,rfl⟩) ?_ ?_
   rotate_left
   ·simp only [Act.put,List.setIfInBounds_toArray,List.set_cons_zero,List.set_cons_succ,i64_w,i32_w]
    rfl
   refine pure_ (i:=16) (N:=some 23) (v:=undef) (a':=?_) #[true,true,true,true,true,true,true,true,true,true,true,true,true,true,true,true,true,false,false,false,false] rfl rfl (any_of HT_.out (by kernel_rfl)) (fun _ _ _ h=>h) (Or.inr ⟨by rfl,rfl⟩) ?_ ?_
   rotate_left
   ·simp only [Act.put,List.setIfInBounds_toArray,List.set_cons_zero,List.set_cons_succ,i64_w,i32_w]
    rfl
   refine pure_ (i:=17) (N:=some 24) (v:=undef) (a':=?_) #[true,true,true,true,true,true,true,true,true,true,true,true,true,true,true,true,true,true,false,false,false] rfl rfl (any_of HT_.out (by kernel_rfl)) (fun _ _ _ h=>h) (Or.inr ⟨by rfl,rfl⟩) ?_ ?_
   rotate_left
   ·simp only [Act.put,List.setIfInBounds_toArray,List.set_cons_zero,List.set_cons_succ,i64_w,i32_w]
    rfl
   refine pure_ (i:=18) (N:=some 25) (v:=undef) (a':=?_) #[true,true,true,true,true,true,true,true,true,true,true,true,true,true,true,true,true,true,true,false,false] rfl rfl (any_of HT_.out (by kernel_rfl)) (fun _ _ _ h=>h) (Or.inr ⟨by rfl,rfl⟩) ?_ ?_
   rotate_left
   ·simp only [Act.put,List.setIfInBounds_toArray,List.set_cons_zero,List.set_cons_succ,i64_w,i32_w]
    rfl
   refine pure_ (i:=19) (N:=some 26) (v:=undef) (a':=?_) #[true,true,true,true,true,true,true,true,true,true,true,true,true,true,true,true,true,true,true,true,false] rfl rfl (any_of HT_.out (by kernel_rfl)) (fun _ _ _ h=>h) (Or.inr ⟨by rfl,rfl⟩) ?_ ?_
   rotate_left
   ·simp only [Act.put,List.setIfInBounds_toArray,List.set_cons_zero,List.set_cons_succ,i64_w,i32_w]
    rfl
   refine pure_ (i:=20) (N:=some 27) (v:=?_) (a':=?_) #[true,true,true,true,true,true,true,true,true,true,true,true,true,true,true,true,true,true,true,true,true] rfl rfl (any_of HT_.out (by kernel_rfl)) (fun _ _ _ h=>h) (Or.inl ⟨by rfl,?_⟩) ?_ ?_
   rotate_left
   ·intro w'
    go_simp
    with_reducible rfl
   rotate_left
   ·simp only [Act.put,List.setIfInBounds_toArray,List.set_cons_zero,List.set_cons_succ,i64_w,i32_w]
    rfl
   refine done_ (done_of HT_.out (by kernel_rfl)) ?_
   try go_wp2
   go_meet
   case rel=>exact ⟨_,(true),(by first|rfl|(simp;done)|(simp [*];done)),H',⟨by first|omega|exact Nat.le_refl _⟩,⟨by (with_reducible repeat (first|refine kN11_ ?_ _|refine kD11_ ?_|refine blk_alloc ?_ _));exact BK258.out⟩,⟨by repeat (first|(with_reducible first|exact HB.out|apply bA11_|apply bN11_|apply bD11_|refine bS11_ ?_ GE258.out)|exact HB.out)⟩⟩
 case rest =>
  clear HC2
  try clear c1
  try clear p2
  try clear c5
  try clear c6
  try clear c6b0
  try clear c6b1
  obtain ⟨kq, x27_1, rfl, HA, HJ1, BK258, HB⟩ := hcut
  cases kq with
  | zero => exact absurd HA.out (by simp [spec_ValidDevice.j0])
  | succ kj1 =>
   have H := HA.out
   clear HA
   simp only [spec_ValidDevice.j0] at H
   by_cases c14 : x27_1 = true
   ·subst c14
    have H1 : (some false) = some r := by rw [if_pos rfl] at H; exact H
    clear H
    have H := H1
    clear H1
    obtain rfl := Option.some.inj H
    go_wp2
    go_ret
    exact ⟨by first|rfl|(simp [errW_none,errW_some] <;> rfl)|(simp [*,errW_none,errW_some] <;> rfl),by repeat (first|(with_reducible first|exact HB.out|apply bA11_|apply bN11_|apply bD11_|refine bS11_ ?_ GE258.out)|exact HB.out)⟩
   ·replace c14 := Bool.eq_false_iff.mpr c14
    subst c14
    have H1:(spec_ValidDevice.l0 kj1 (([]:List Int)) 0 a0_0 a0_1 a0_2 l0_3 a0_4 a0_5 a0_6 a0_7 l0_8)=some r:=by rw [if_neg (show ¬ (false=true) by decide)] at H;exact H
    clear H
    have H := H1
    clear H1
    obtain ⟨y261, hy261⟩ : ∃ y_ : List Int, y_ = (([] : List Int)) := ⟨_, rfl⟩
    replace H:(spec_ValidDevice.l0 kj1 y261 0 a0_0 a0_1 a0_2 l0_3 a0_4 a0_5 a0_6 a0_7 l0_8)=some r:=by first|(rw [hy261];with_reducible exact H)|(have H2_:=(Option.bind_some _ _).symm.trans H;rw [hy261];with_reducible exact H2_)|(have H2_:=(Option.bind_some _ _).symm.trans H;with_reducible exact H2_)|with_reducible exact H|(rw [hy261];exact H)|exact H
    have Ny261 := Aside0.mk hy261
    clear hy261
    have H' := Aside0.mk H
    clear H
    go_wp2_with (first|((with_reducible refine gate_dst (N:=28) rfl ?_);(try (refine gate_guard (by rfl) ?_;dsimp only));refine Kd.R_lit (Kd.int .i64) _ 2 ?hg (N:=28) ?hd (xs:=([]:List Int)) (inner:=[]) (ok:=fun _=>True) (okp:=fun _=>True) ?hr ?hp (fun _ hk=>hk) trivial (Below.refl _ _) (Nat.le_refl _) (by simp) ?_;(case hd=>rfl);(case hg=>rfl);(case hr=>first|(go_simp;done)|(go_simp;rfl));(case hp=>exact (Reps.none _ _));intro v262 w15 ho16 hb hg_ hnew_;clear hg_ hnew_;(first|rw [← Ny261.out] at ho16|(simp only [Int.reduceToNat] at ho16;rw [← Ny261.out] at ho16));have n0_:=mk11_ (Kd.R_lower ho16 (bZ11_ (by repeat (first|(with_reducible first|exact HB.out|apply bA11_|apply bN11_|apply bD11_|refine bS11_ ?_ GE258.out)|exact HB.out))));have n1_:=mk11_ (blk_below (g:=gb258) (o:=.cells #[.int .i64 a0_0,.int .i64 a0_1,.int .i64 a0_2,.slice A0_3 l0_3.length c0_3,.int .i64 a0_4,.int .i64 a0_5,.bool a0_6,.int .i64 a0_7,.slice A0_8 l0_8.length c0_8] 38 (0,0)) (by (with_reducible repeat (first|refine kN11_ ?_ _|refine kD11_ ?_|refine blk_alloc ?_ _));exact BK258.out) hb);have n2_:=mk11_ (bT11_ (by repeat (first|(with_reducible first|exact HB.out|apply bA11_|apply bN11_|apply bD11_|refine bS11_ ?_ GE258.out)|exact HB.out)) hb);clear BK258;clear HB;have HO263:=n0_;have BK258:=n1_;have HB:=n2_;clear n0_ n1_ n2_;clear hb ho16))
    go_loopg [3,4] kj1 (fun kq v3 v4 w'=>∃ (x3_2:List Int) (x4_2:Int),v4=.int .i64 x4_2∧Aside0 (spec_ValidDevice.l0 kq x3_2 x4_2 a0_0 a0_1 a0_2 l0_3 a0_4 a0_5 a0_6 a0_7 l0_8=some r)∧Aside0 (kq≤kj1)∧Aside0 (Kd.R (Kd.int .i64) 2 w' w.heap.size (fun _=>True) v3 x3_2)∧Aside0 (w'.heap[gb258]?=some (.cells #[.int .i64 a0_0,.int .i64 a0_1,.int .i64 a0_2,(.slice A0_3 l0_3.length c0_3),.int .i64 a0_4,.int .i64 a0_5,.bool a0_6,.int .i64 a0_7,(.slice A0_8 l0_8.length c0_8)] 38 (0,0)))∧Aside0 (Below w.heap.size w w'))
    case atStart=>exact ⟨(y261),(0),(by first|rfl|(simp;done)|(simp [*];done)),H',⟨Nat.le_refl _⟩,⟨by (with_reducible repeat (first|apply Kd.R_alloc|apply rN11_|apply Kd.R_drew));exact HO263.out⟩,⟨by (with_reducible repeat (first|refine kN11_ ?_ _|refine kD11_ ?_|refine blk_alloc ?_ _));exact BK258.out⟩,⟨by repeat (first|(with_reducible first|exact HB.out|apply bA11_|apply bN11_|apply bD11_|refine bS11_ ?_ GE258.out)|exact HB.out)⟩⟩
    case round =>
     clear H'
     try clear c1
     try clear p2
     try clear c5
     try clear c6
     try clear c6b0
     try clear c6b1
     try clear c14
     try clear c15
     try clear p2
     obtain ⟨x3_2, x4_2, rfl, HA, HK2, HO_3, BK258, HB⟩ := hrel
     cases gk with
     | zero => exact absurd HA.out (by simp [spec_ValidDevice.l0])
     | succ k2 =>
      have H := HA.out
      clear HA
      simp only [spec_ValidDevice.l0] at H
      by_cases c17 : x4_2 < (l0_8.length : Int)
      ·rw [if_pos c17] at H
       have c17b0 : decide (x4_2 < (l0_8.length : Int)) = true := decide_eq_true c17
       clear c17
       by_cases c18 : 0 ≤ x4_2
       ·rw [if_pos c18] at H
        have c18b0 : decide (0 ≤ x4_2) = true := decide_eq_true c18
        clear c18
        have HC19 := Aside0.mk H
        clear H
        have hcz20_0:wr.cell? ⟨gb258,0,none⟩=some (.int .i64 a0_0):=(blk_cell BK258.out 0).trans rfl
        have hcz20_1:wr.cell? ⟨gb258,1,none⟩=some (.int .i64 a0_1):=(blk_cell BK258.out 1).trans rfl
        have hcz20_2:wr.cell? ⟨gb258,2,none⟩=some (.int .i64 a0_2):=(blk_cell BK258.out 2).trans rfl
        have hcz20_3:wr.cell? ⟨gb258,3,none⟩=some (.slice A0_3 l0_3.length c0_3):=(blk_cell BK258.out 3).trans rfl
        have hcz20_4:wr.cell? ⟨gb258,4,none⟩=some (.int .i64 a0_4):=(blk_cell BK258.out 4).trans rfl
        have hcz20_5:wr.cell? ⟨gb258,5,none⟩=some (.int .i64 a0_5):=(blk_cell BK258.out 5).trans rfl
        have hcz20_6:wr.cell? ⟨gb258,6,none⟩=some (.bool a0_6):=(blk_cell BK258.out 6).trans rfl
        have hcz20_7:wr.cell? ⟨gb258,7,none⟩=some (.int .i64 a0_7):=(blk_cell BK258.out 7).trans rfl
        have hcz20_8:wr.cell? ⟨gb258,8,none⟩=some (.slice A0_8 l0_8.length c0_8):=(blk_cell BK258.out 8).trans rfl
        have hfz20_0 := blk_frozen BK258.out 0
        have hfz20_1 := blk_frozen BK258.out 1
        have hfz20_2 := blk_frozen BK258.out 2
        have hfz20_3 := blk_frozen BK258.out 3
        have hfz20_4 := blk_frozen BK258.out 4
        have hfz20_5 := blk_frozen BK258.out 5
        have hfz20_6 := blk_frozen BK258.out 6
        have hfz20_7 := blk_frozen BK258.out 7
        have hfz20_8 := blk_frozen BK258.out 8
        have p264:0≤(x4_2:Int):=of_decide_eq_true (by first|(with_reducible assumption)|assumption)
        have q264:x4_2 < (l0_8.length:Int):=of_decide_eq_true (by first|(with_reducible assumption)|assumption)
        obtain ⟨ad264,A264_1,c264_1,A264_4,c264_4,A264_5,c264_5,e264,hx264_0,hx264_1,hx264_2,hx264_3,hx264_4,hx264_5,hl264_1,hi264_1,hl264_4,hi264_4,hl264_5,hi264_5⟩:=at_T50 HR0_8.out x4_2 p264 q264
        cases e264
        replace hx264_0:=(HB.out.cell (World.block_lt_of_cell? w _ hx264_0)).trans hx264_0
        replace hx264_1:=(HB.out.cell (World.block_lt_of_cell? w _ hx264_1)).trans hx264_1
        replace hx264_2:=(HB.out.cell (World.block_lt_of_cell? w _ hx264_2)).trans hx264_2
        replace hx264_3:=(HB.out.cell (World.block_lt_of_cell? w _ hx264_3)).trans hx264_3
        replace hx264_4:=(HB.out.cell (World.block_lt_of_cell? w _ hx264_4)).trans hx264_4
        replace hx264_5:=(HB.out.cell (World.block_lt_of_cell? w _ hx264_5)).trans hx264_5
        have HR264_1 := Aside0.mk hi264_1
        have HC264_1 := Aside0.mk hl264_1
        clear hi264_1 hl264_1
        have HR264_4 := Aside0.mk hi264_4
        have HC264_4 := Aside0.mk hl264_4
        clear hi264_4 hl264_4
        have HR264_5 := Aside0.mk hi264_5
        have HC264_5 := Aside0.mk hl264_5
        clear hi264_5 hl264_5
        replace p264 := eq_true p264
        replace q264 := eq_true q264
        go_upto_region 8 with (first|((with_reducible refine gate_dst (N:=5) rfl ?_);(try (refine gate_guard (by rfl) ?_;dsimp only));refine box_event ?hg (N:=5) ?hd (cs:=#[.int .i64 0,.slice none 0 0,.int .i64 0,.int .i64 0,.slice none 0 0,.slice none 0 0]) (t:=50) ?hr ?_;(case hd=>rfl);(case hg=>rfl);(case hr=>first|(go_simp;done)|(go_simp;rfl));intro gb265 hg w21 hbox hb;have n0_:=mk11_ (Kd.R_below (by (with_reducible repeat (first|apply Kd.R_alloc|apply rN11_|apply Kd.R_drew));exact HO_3.out) hb);have n1_:=mk11_ (blk_below (g:=gb258) (o:=.cells #[.int .i64 a0_0,.int .i64 a0_1,.int .i64 a0_2,.slice A0_3 l0_3.length c0_3,.int .i64 a0_4,.int .i64 a0_5,.bool a0_6,.int .i64 a0_7,.slice (some ad264) l0_8.length c0_8] 38 (0,0)) (by (with_reducible repeat (first|refine kN11_ ?_ _|refine kD11_ ?_|refine blk_alloc ?_ _));exact BK258.out) hb);have n2_:=mk11_ (bT11_ (by repeat (first|(with_reducible first|exact HB.out|apply bA11_|apply bN11_|apply bD11_|refine bS11_ ?_ GE258.out)|exact HB.out)) hb);have n3_:=mk11_ (hbox);have n4_:=mk11_ ((by rw [hg];exact (bZ11_ (by repeat (first|(with_reducible first|exact HB.out|apply bA11_|apply bN11_|apply bD11_|refine bS11_ ?_ GE258.out)|exact HB.out))):w.heap.size≤gb265));have n5_:=mk11_ ((by rw [hg];exact (bZ11_ (by repeat (first|(with_reducible first|exact HB.out|apply bA11_|apply bN11_|apply bD11_|refine bS11_ ?_ GE258.out)|exact HB.out))):w.heap.size≤gb265));have n6_:=mk11_ ((by rw [hg];exact Nat.ne_of_lt (blk_lt (g:=gb258) (o:=.cells #[.int .i64 a0_0,.int .i64 a0_1,.int .i64 a0_2,.slice A0_3 l0_3.length c0_3,.int .i64 a0_4,.int .i64 a0_5,.bool a0_6,.int .i64 a0_7,.slice (some ad264) l0_8.length c0_8] 38 (0,0)) (by (with_reducible repeat (first|refine kN11_ ?_ _|refine kD11_ ?_|refine blk_alloc ?_ _));exact BK258.out)):gb258≠gb265));have n7_:=mk11_ ((by rw [hg];exact Nat.ne_of_gt (blk_lt (g:=gb258) (o:=.cells #[.int .i64 a0_0,.int .i64 a0_1,.int .i64 a0_2,.slice A0_3 l0_3.length c0_3,.int .i64 a0_4,.int .i64 a0_5,.bool a0_6,.int .i64 a0_7,.slice (some ad264) l0_8.length c0_8] 38 (0,0)) (by (with_reducible repeat (first|refine kN11_ ?_ _|refine kD11_ ?_|refine blk_alloc ?_ _));exact BK258.out)):gb265≠gb258));clear HO_3;clear BK258;clear HB;have HO_3:=n0_;have BK258:=n1_;have HB:=n2_;have BK265:=n3_;have GW265:=n4_;have GE265:=n5_;have NB258_265:=n6_;have NB265_258:=n7_;clear n0_ n1_ n2_ n3_ n4_ n5_ n6_ n7_;clear hb hbox hg;have hnb22:=NB265_258.out;have hnc22:=NB258_265.out;have hcz23_0:w21.cell? ⟨gb265,0,none⟩=some (.int .i64 0):=(blk_cell BK265.out 0).trans rfl;have hcz23_1:w21.cell? ⟨gb265,1,none⟩=some (.slice none 0 0):=(blk_cell BK265.out 1).trans rfl;have hcz23_2:w21.cell? ⟨gb265,2,none⟩=some (.int .i64 0):=(blk_cell BK265.out 2).trans rfl;have hcz23_3:w21.cell? ⟨gb265,3,none⟩=some (.int .i64 0):=(blk_cell BK265.out 3).trans rfl;have hcz23_4:w21.cell? ⟨gb265,4,none⟩=some (.slice none 0 0):=(blk_cell BK265.out 4).trans rfl;have hcz23_5:w21.cell? ⟨gb265,5,none⟩=some (.slice none 0 0):=(blk_cell BK265.out 5).trans rfl;have hfz23_0:=fZ11_ BK265.out 0;have hfz23_1:=fZ11_ BK265.out 1;have hfz23_2:=fZ11_ BK265.out 2;have hfz23_3:=fZ11_ BK265.out 3;have hfz23_4:=fZ11_ BK265.out 4;have hfz23_5:=fZ11_ BK265.out 5))
        (try simp only [Act.put,List.setIfInBounds_toArray,List.set_cons_zero,List.set_cons_succ])
        go_cut [61] (fun v61 wc=>∃ (kq:Nat) (x61_18:Bool),v61=.bool x61_18∧Aside0 (spec_ValidDevice.j2 kq x3_2 x4_2 x61_18 a0_0 a0_1 a0_2 l0_3 a0_4 a0_5 a0_6 a0_7 l0_8 ((rd_T50 l0_8 x4_2).f0) ((rd_T50 l0_8 x4_2).f1) ((rd_T50 l0_8 x4_2).f2) ((rd_T50 l0_8 x4_2).f3) ((rd_T50 l0_8 x4_2).f4) ((rd_T50 l0_8 x4_2).f5)=some r)∧Aside0 (kq≤k2)∧Aside0 (Kd.R (Kd.int .i64) 2 wc w.heap.size (fun _=>True) u3 x3_2)∧Aside0 (wc.heap[gb258]?=some (.cells #[.int .i64 a0_0,.int .i64 a0_1,.int .i64 a0_2,(.slice A0_3 l0_3.length c0_3),.int .i64 a0_4,.int .i64 a0_5,.bool a0_6,.int .i64 a0_7,(.slice (some ad264) l0_8.length c0_8)] 38 (0,0)))∧Aside0 (wc.heap[gb265]?=some (.cells #[.int .i64 ((rd_T50 l0_8 x4_2).f0),(.slice A264_1 ((rd_T50 l0_8 x4_2).f1).length c264_1),.int .i64 ((rd_T50 l0_8 x4_2).f2),.int .i64 ((rd_T50 l0_8 x4_2).f3),(.slice A264_4 ((rd_T50 l0_8 x4_2).f4).length c264_4),(.slice A264_5 ((rd_T50 l0_8 x4_2).f5).length c264_5)] 50 (0,0)))∧Aside0 (Below w.heap.size w wc))
        case first =>
         have H := HC19.out
         clear HC19
         replace H := Option.bind_eq_some_iff.mp H
         obtain ⟨t266, A240, H⟩ := H
         replace H:(if t266=true then ((spec_l16Counts.f k2 a0_0 a0_1 a0_2 ((rd_T50 l0_8 x4_2).f0) ((rd_T50 l0_8 x4_2).f1) ((rd_T50 l0_8 x4_2).f2) ((rd_T50 l0_8 x4_2).f3) ((rd_T50 l0_8 x4_2).f4) ((rd_T50 l0_8 x4_2).f5)).bind fun t267=>(if t267=true then ((spec_l16State.f k2 a0_0 a0_1 a0_2 l0_3 a0_4 a0_5 a0_6 a0_7 ((rd_T50 l0_8 x4_2).f0) ((rd_T50 l0_8 x4_2).f1) ((rd_T50 l0_8 x4_2).f2) ((rd_T50 l0_8 x4_2).f3) ((rd_T50 l0_8 x4_2).f4) ((rd_T50 l0_8 x4_2).f5)).bind fun t268=>(spec_ValidDevice.j2 k2 x3_2 x4_2 (!t268) a0_0 a0_1 a0_2 l0_3 a0_4 a0_5 a0_6 a0_7 l0_8 ((rd_T50 l0_8 x4_2).f0) ((rd_T50 l0_8 x4_2).f1) ((rd_T50 l0_8 x4_2).f2) ((rd_T50 l0_8 x4_2).f3) ((rd_T50 l0_8 x4_2).f4) ((rd_T50 l0_8 x4_2).f5))) else (spec_ValidDevice.j2 k2 x3_2 x4_2 true a0_0 a0_1 a0_2 l0_3 a0_4 a0_5 a0_6 a0_7 l0_8 ((rd_T50 l0_8 x4_2).f0) ((rd_T50 l0_8 x4_2).f1) ((rd_T50 l0_8 x4_2).f2) ((rd_T50 l0_8 x4_2).f3) ((rd_T50 l0_8 x4_2).f4) ((rd_T50 l0_8 x4_2).f5)))) else (spec_ValidDevice.j2 k2 x3_2 x4_2 true a0_0 a0_1 a0_2 l0_3 a0_4 a0_5 a0_6 a0_7 l0_8 ((rd_T50 l0_8 x4_2).f0) ((rd_T50 l0_8 x4_2).f1) ((rd_T50 l0_8 x4_2).f2) ((rd_T50 l0_8 x4_2).f3) ((rd_T50 l0_8 x4_2).f4) ((rd_T50 l0_8 x4_2).f5)))=some r:=H
         have A24 := Aside0.mk A240
         clear A240
         by_cases c25 : t266 = true
         ·subst c25
          have H1:((spec_l16Counts.f k2 a0_0 a0_1 a0_2 ((rd_T50 l0_8 x4_2).f0) ((rd_T50 l0_8 x4_2).f1) ((rd_T50 l0_8 x4_2).f2) ((rd_T50 l0_8 x4_2).f3) ((rd_T50 l0_8 x4_2).f4) ((rd_T50 l0_8 x4_2).f5)).bind fun t267=>(if t267=true then ((spec_l16State.f k2 a0_0 a0_1 a0_2 l0_3 a0_4 a0_5 a0_6 a0_7 ((rd_T50 l0_8 x4_2).f0) ((rd_T50 l0_8 x4_2).f1) ((rd_T50 l0_8 x4_2).f2) ((rd_T50 l0_8 x4_2).f3) ((rd_T50 l0_8 x4_2).f4) ((rd_T50 l0_8 x4_2).f5)).bind fun t268=>(spec_ValidDevice.j2 k2 x3_2 x4_2 (!t268) a0_0 a0_1 a0_2 l0_3 a0_4 a0_5 a0_6 a0_7 l0_8 ((rd_T50 l0_8 x4_2).f0) ((rd_T50 l0_8 x4_2).f1) ((rd_T50 l0_8 x4_2).f2) ((rd_T50 l0_8 x4_2).f3) ((rd_T50 l0_8 x4_2).f4) ((rd_T50 l0_8 x4_2).f5))) else (spec_ValidDevice.j2 k2 x3_2 x4_2 true a0_0 a0_1 a0_2 l0_3 a0_4 a0_5 a0_6 a0_7 l0_8 ((rd_T50 l0_8 x4_2).f0) ((rd_T50 l0_8 x4_2).f1) ((rd_T50 l0_8 x4_2).f2) ((rd_T50 l0_8 x4_2).f3) ((rd_T50 l0_8 x4_2).f4) ((rd_T50 l0_8 x4_2).f5))))=some r:=by rw [if_pos rfl] at H;exact H
          clear H
          have H := H1
          clear H1
          replace H := Option.bind_eq_some_iff.mp H
          obtain ⟨t267, A260, H⟩ := H
          replace H:(if t267=true then ((spec_l16State.f k2 a0_0 a0_1 a0_2 l0_3 a0_4 a0_5 a0_6 a0_7 ((rd_T50 l0_8 x4_2).f0) ((rd_T50 l0_8 x4_2).f1) ((rd_T50 l0_8 x4_2).f2) ((rd_T50 l0_8 x4_2).f3) ((rd_T50 l0_8 x4_2).f4) ((rd_T50 l0_8 x4_2).f5)).bind fun t268=>(spec_ValidDevice.j2 k2 x3_2 x4_2 (!t268) a0_0 a0_1 a0_2 l0_3 a0_4 a0_5 a0_6 a0_7 l0_8 ((rd_T50 l0_8 x4_2).f0) ((rd_T50 l0_8 x4_2).f1) ((rd_T50 l0_8 x4_2).f2) ((rd_T50 l0_8 x4_2).f3) ((rd_T50 l0_8 x4_2).f4) ((rd_T50 l0_8 x4_2).f5))) else (spec_ValidDevice.j2 k2 x3_2 x4_2 true a0_0 a0_1 a0_2 l0_3 a0_4 a0_5 a0_6 a0_7 l0_8 ((rd_T50 l0_8 x4_2).f0) ((rd_T50 l0_8 x4_2).f1) ((rd_T50 l0_8 x4_2).f2) ((rd_T50 l0_8 x4_2).f3) ((rd_T50 l0_8 x4_2).f4) ((rd_T50 l0_8 x4_2).f5)))=some r:=H
          have A26 := Aside0.mk A260
          clear A260
          by_cases c27 : t267 = true
          ·subst c27
           have H1:((spec_l16State.f k2 a0_0 a0_1 a0_2 l0_3 a0_4 a0_5 a0_6 a0_7 ((rd_T50 l0_8 x4_2).f0) ((rd_T50 l0_8 x4_2).f1) ((rd_T50 l0_8 x4_2).f2) ((rd_T50 l0_8 x4_2).f3) ((rd_T50 l0_8 x4_2).f4) ((rd_T50 l0_8 x4_2).f5)).bind fun t268=>(spec_ValidDevice.j2 k2 x3_2 x4_2 (!t268) a0_0 a0_1 a0_2 l0_3 a0_4 a0_5 a0_6 a0_7 l0_8 ((rd_T50 l0_8 x4_2).f0) ((rd_T50 l0_8 x4_2).f1) ((rd_T50 l0_8 x4_2).f2) ((rd_T50 l0_8 x4_2).f3) ((rd_T50 l0_8 x4_2).f4) ((rd_T50 l0_8 x4_2).f5)))=some r:=by rw [if_pos rfl] at H;exact H
           clear H
           have H := H1
           clear H1
           replace H := Option.bind_eq_some_iff.mp H
           obtain ⟨t268, A280, H⟩ := H
           replace H:(spec_ValidDevice.j2 k2 x3_2 x4_2 (!t268) a0_0 a0_1 a0_2 l0_3 a0_4 a0_5 a0_6 a0_7 l0_8 ((rd_T50 l0_8 x4_2).f0) ((rd_T50 l0_8 x4_2).f1) ((rd_T50 l0_8 x4_2).f2) ((rd_T50 l0_8 x4_2).f3) ((rd_T50 l0_8 x4_2).f4) ((rd_T50 l0_8 x4_2).f5))=some r:=H
           have A28 := Aside0.mk A280
           clear A280
           have H' := Aside0.mk H
           clear H
           have hnb29 := NB258_265.out
           have hnc29 := NB265_258.out
           have hcz30_0:w21.cell? ⟨gb258,0,none⟩=some (.int .i64 a0_0):=(blk_cell BK258.out 0).trans rfl
           have hcz30_1:w21.cell? ⟨gb258,1,none⟩=some (.int .i64 a0_1):=(blk_cell BK258.out 1).trans rfl
           have hcz30_2:w21.cell? ⟨gb258,2,none⟩=some (.int .i64 a0_2):=(blk_cell BK258.out 2).trans rfl
           have hcz30_3:w21.cell? ⟨gb258,3,none⟩=some (.slice A0_3 l0_3.length c0_3):=(blk_cell BK258.out 3).trans rfl
           have hcz30_4:w21.cell? ⟨gb258,4,none⟩=some (.int .i64 a0_4):=(blk_cell BK258.out 4).trans rfl
           have hcz30_5:w21.cell? ⟨gb258,5,none⟩=some (.int .i64 a0_5):=(blk_cell BK258.out 5).trans rfl
           have hcz30_6:w21.cell? ⟨gb258,6,none⟩=some (.bool a0_6):=(blk_cell BK258.out 6).trans rfl
           have hcz30_7:w21.cell? ⟨gb258,7,none⟩=some (.int .i64 a0_7):=(blk_cell BK258.out 7).trans rfl
           have hcz30_8:w21.cell? ⟨gb258,8,none⟩=some (.slice (some ad264) l0_8.length c0_8):=(blk_cell BK258.out 8).trans rfl
           have hfz30_0 := blk_frozen BK258.out 0
           have hfz30_1 := blk_frozen BK258.out 1
           have hfz30_2 := blk_frozen BK258.out 2
           have hfz30_3 := blk_frozen BK258.out 3
           have hfz30_4 := blk_frozen BK258.out 4
           have hfz30_5 := blk_frozen BK258.out 5
           have hfz30_6 := blk_frozen BK258.out 6
           have hfz30_7 := blk_frozen BK258.out 7
           have hfz30_8 := blk_frozen BK258.out 8
           have hcz31_0:w21.cell? ⟨gb265,0,none⟩=some (.int .i64 0):=(blk_cell BK265.out 0).trans rfl
           have hcz31_1:w21.cell? ⟨gb265,1,none⟩=some (.slice none 0 0):=(blk_cell BK265.out 1).trans rfl
           have hcz31_2:w21.cell? ⟨gb265,2,none⟩=some (.int .i64 0):=(blk_cell BK265.out 2).trans rfl
           have hcz31_3:w21.cell? ⟨gb265,3,none⟩=some (.int .i64 0):=(blk_cell BK265.out 3).trans rfl
           have hcz31_4:w21.cell? ⟨gb265,4,none⟩=some (.slice none 0 0):=(blk_cell BK265.out 4).trans rfl
           have hcz31_5:w21.cell? ⟨gb265,5,none⟩=some (.slice none 0 0):=(blk_cell BK265.out 5).trans rfl
           have hfz31_0 := blk_frozen BK265.out 0
           have hfz31_1 := blk_frozen BK265.out 1
           have hfz31_2 := blk_frozen BK265.out 2
           have hfz31_3 := blk_frozen BK265.out 3
           have hfz31_4 := blk_frozen BK265.out 4
           have hfz31_5 := blk_frozen BK265.out 5
           go_wp2_with (first|((with_reducible refine gate_callee (f:=16) rfl ?_);refine goesL_ (some 45) rfl rfl Try.func16 (by kernel_rfl) rfl #[.agg #[.int .i64 a0_0,.int .i64 a0_1,.int .i64 a0_2],.agg #[.int .i64 ((rd_T50 l0_8 x4_2).f0),.slice A264_1 ((rd_T50 l0_8 x4_2).f1).length c264_1,.int .i64 ((rd_T50 l0_8 x4_2).f2),.int .i64 ((rd_T50 l0_8 x4_2).f3),.slice A264_4 ((rd_T50 l0_8 x4_2).f4).length c264_4,.slice A264_5 ((rd_T50 l0_8 x4_2).f5).length c264_5]] rfl (by (try simp only [List.map_toArray,List.map_cons,List.map_nil]);first|done|rfl|(simp only [List.length_drop,List.length_take];rfl)) ?_;(with_reducible refine (spec_l16Blocks.calls k2 a0_0 a0_1 a0_2 ((rd_T50 l0_8 x4_2).f0) _ _ ((rd_T50 l0_8 x4_2).f1) ((rd_T50 l0_8 x4_2).f2) ((rd_T50 l0_8 x4_2).f3) _ _ ((rd_T50 l0_8 x4_2).f4) _ _ ((rd_T50 l0_8 x4_2).f5) true _ ?side1 ?side2 ?side3 ?side4 ?side5 ?side6 A24.out).mono ?_);(case side1=>exact Kd.C_below HR264_1.out (by repeat (first|(with_reducible first|exact HB.out|apply bA11_|apply bN11_|apply bD11_|refine bS11_ ?_ GE258.out|refine bS11_ ?_ GE265.out)|exact HB.out)));(case side2=>exact HC264_1.out);(case side3=>exact Kd.C_below HR264_4.out (by repeat (first|(with_reducible first|exact HB.out|apply bA11_|apply bN11_|apply bD11_|refine bS11_ ?_ GE258.out|refine bS11_ ?_ GE265.out)|exact HB.out)));(case side4=>exact HC264_4.out);(case side5=>exact Kd.C_below HR264_5.out (by repeat (first|(with_reducible first|exact HB.out|apply bA11_|apply bN11_|apply bD11_|refine bS11_ ?_ GE258.out|refine bS11_ ?_ GE265.out)|exact HB.out)));(case side6=>exact HC264_5.out);rintro e w32 ⟨rfl,hb⟩;refine ⟨_,rfl,?_⟩;have n0_:=mk11_ (Kd.R_below (by (with_reducible repeat (first|apply Kd.R_alloc|apply rN11_|apply Kd.R_drew));exact (Kd.R_mono (Kd.R_far (p:=⟨gb265,5,none⟩) (Kd.R_far (p:=⟨gb265,4,none⟩) (Kd.R_far (p:=⟨gb265,3,none⟩) (Kd.R_far (p:=⟨gb265,2,none⟩) (Kd.R_far (p:=⟨gb265,1,none⟩) (Kd.R_far (p:=⟨gb265,0,none⟩) (Kd.R_types HO_3.out BK265.out (by decide)) (fun _ hk=>hk.2) (.int .i64 ((rd_T50 l0_8 x4_2).f0))) (fun _ hk=>hk.2) (.slice A264_1 ((rd_T50 l0_8 x4_2).f1).length c264_1)) (fun _ hk=>hk.2) (.int .i64 ((rd_T50 l0_8 x4_2).f2))) (fun _ hk=>hk.2) (.int .i64 ((rd_T50 l0_8 x4_2).f3))) (fun _ hk=>hk.2) (.slice A264_4 ((rd_T50 l0_8 x4_2).f4).length c264_4)) (fun _ hk=>hk.2) (.slice A264_5 ((rd_T50 l0_8 x4_2).f5).length c264_5)) (fun _ h_=>h_.1))) hb);have n1_:=mk11_ (blk_below (g:=gb258) (o:=.cells #[.int .i64 a0_0,.int .i64 a0_1,.int .i64 a0_2,.slice A0_3 l0_3.length c0_3,.int .i64 a0_4,.int .i64 a0_5,.bool a0_6,.int .i64 a0_7,.slice (some ad264) l0_8.length c0_8] 38 (0,0)) (by (with_reducible repeat (first|refine kN11_ ?_ _|refine kD11_ ?_|refine blk_alloc ?_ _));refine blk_far ?_ NB258_265.out _;(with_reducible repeat (first|refine kN11_ ?_ _|refine kD11_ ?_|refine blk_alloc ?_ _));refine blk_far ?_ NB258_265.out _;(with_reducible repeat (first|refine kN11_ ?_ _|refine kD11_ ?_|refine blk_alloc ?_ _));refine blk_far ?_ NB258_265.out _;(with_reducible repeat (first|refine kN11_ ?_ _|refine kD11_ ?_|refine blk_alloc ?_ _));refine blk_far ?_ NB258_265.out _;(with_reducible repeat (first|refine kN11_ ?_ _|refine kD11_ ?_|refine blk_alloc ?_ _));refine blk_far ?_ NB258_265.out _;(with_reducible repeat (first|refine kN11_ ?_ _|refine kD11_ ?_|refine blk_alloc ?_ _));refine blk_far ?_ NB258_265.out _;(with_reducible repeat (first|refine kN11_ ?_ _|refine kD11_ ?_|refine blk_alloc ?_ _));exact BK258.out) hb);have n2_:=mk11_ (blk_below (g:=gb265) (o:=.cells #[.int .i64 ((rd_T50 l0_8 x4_2).f0),.slice A264_1 ((rd_T50 l0_8 x4_2).f1).length c264_1,.int .i64 ((rd_T50 l0_8 x4_2).f2),.int .i64 ((rd_T50 l0_8 x4_2).f3),.slice A264_4 ((rd_T50 l0_8 x4_2).f4).length c264_4,.slice A264_5 ((rd_T50 l0_8 x4_2).f5).length c264_5] 50 (0,0)) (by (with_reducible repeat (first|refine kN11_ ?_ _|refine kD11_ ?_|refine blk_alloc ?_ _));refine blk_put (cs:=#[.int .i64 ((rd_T50 l0_8 x4_2).f0),.slice A264_1 ((rd_T50 l0_8 x4_2).f1).length c264_1,.int .i64 ((rd_T50 l0_8 x4_2).f2),.int .i64 ((rd_T50 l0_8 x4_2).f3),.slice A264_4 ((rd_T50 l0_8 x4_2).f4).length c264_4,.slice none 0 0]) ?_ 5 _ rfl;(with_reducible repeat (first|refine kN11_ ?_ _|refine kD11_ ?_|refine blk_alloc ?_ _));refine blk_put (cs:=#[.int .i64 ((rd_T50 l0_8 x4_2).f0),.slice A264_1 ((rd_T50 l0_8 x4_2).f1).length c264_1,.int .i64 ((rd_T50 l0_8 x4_2).f2),.int .i64 ((rd_T50 l0_8 x4_2).f3),.slice none 0 0,.slice none 0 0]) ?_ 4 _ rfl;(with_reducible repeat (first|refine kN11_ ?_ _|refine kD11_ ?_|refine blk_alloc ?_ _));refine blk_put (cs:=#[.int .i64 ((rd_T50 l0_8 x4_2).f0),.slice A264_1 ((rd_T50 l0_8 x4_2).f1).length c264_1,.int .i64 ((rd_T50 l0_8 x4_2).f2),.int .i64 0,.slice none 0 0,.slice none 0 0]) ?_ 3 _ rfl;(with_reducible repeat (first|refine kN11_ ?_ _|refine kD11_ ?_|refine blk_alloc ?_ _));refine blk_put (cs:=#[.int .i64 ((rd_T50 l0_8 x4_2).f0),.slice A264_1 ((rd_T50 l0_8 x4_2).f1).length c264_1,.int .i64 0,.int .i64 0,.slice none 0 0,.slice none 0 0]) ?_ 2 _ rfl;(with_reducible repeat (first|refine kN11_ ?_ _|refine kD11_ ?_|refine blk_alloc ?_ _));refine blk_put (cs:=#[.int .i64 ((rd_T50 l0_8 x4_2).f0),.slice none 0 0,.int .i64 0,.int .i64 0,.slice none 0 0,.slice none 0 0]) ?_ 1 _ rfl;(with_reducible repeat (first|refine kN11_ ?_ _|refine kD11_ ?_|refine blk_alloc ?_ _));refine blk_put (cs:=#[.int .i64 0,.slice none 0 0,.int .i64 0,.int .i64 0,.slice none 0 0,.slice none 0 0]) ?_ 0 _ rfl;(with_reducible repeat (first|refine kN11_ ?_ _|refine kD11_ ?_|refine blk_alloc ?_ _));exact BK265.out) hb);have n3_:=mk11_ (bT11_ (by repeat (first|(with_reducible first|exact HB.out|apply bA11_|apply bN11_|apply bD11_|refine bS11_ ?_ GE258.out|refine bS11_ ?_ GE265.out)|exact HB.out)) hb);clear HO_3;clear BK258;clear BK265;clear HB;have HO_3:=n0_;have BK258:=n1_;have BK265:=n2_;have HB:=n3_;clear n0_ n1_ n2_ n3_;(try clear hb);(try clear hb2);(try clear hk);(try clear hi);have hcz33_0:w32.cell? ⟨gb258,0,none⟩=some (.int .i64 a0_0):=(blk_cell BK258.out 0).trans rfl;have hcz33_1:w32.cell? ⟨gb258,1,none⟩=some (.int .i64 a0_1):=(blk_cell BK258.out 1).trans rfl;have hcz33_2:w32.cell? ⟨gb258,2,none⟩=some (.int .i64 a0_2):=(blk_cell BK258.out 2).trans rfl;have hcz33_3:w32.cell? ⟨gb258,3,none⟩=some (.slice A0_3 l0_3.length c0_3):=(blk_cell BK258.out 3).trans rfl;have hcz33_4:w32.cell? ⟨gb258,4,none⟩=some (.int .i64 a0_4):=(blk_cell BK258.out 4).trans rfl;have hcz33_5:w32.cell? ⟨gb258,5,none⟩=some (.int .i64 a0_5):=(blk_cell BK258.out 5).trans rfl;have hcz33_6:w32.cell? ⟨gb258,6,none⟩=some (.bool a0_6):=(blk_cell BK258.out 6).trans rfl;have hcz33_7:w32.cell? ⟨gb258,7,none⟩=some (.int .i64 a0_7):=(blk_cell BK258.out 7).trans rfl;have hcz33_8:w32.cell? ⟨gb258,8,none⟩=some (.slice (some ad264) l0_8.length c0_8):=(blk_cell BK258.out 8).trans rfl;have hfz33_0:=fZ11_ BK258.out 0;have hfz33_1:=fZ11_ BK258.out 1;have hfz33_2:=fZ11_ BK258.out 2;have hfz33_3:=fZ11_ BK258.out 3;have hfz33_4:=fZ11_ BK258.out 4;have hfz33_5:=fZ11_ BK258.out 5;have hfz33_6:=fZ11_ BK258.out 6;have hfz33_7:=fZ11_ BK258.out 7;have hfz33_8:=fZ11_ BK258.out 8;have hcz34_0:w32.cell? ⟨gb265,0,none⟩=some (.int .i64 ((rd_T50 l0_8 x4_2).f0)):=(blk_cell BK265.out 0).trans rfl;have hcz34_1:w32.cell? ⟨gb265,1,none⟩=some (.slice A264_1 ((rd_T50 l0_8 x4_2).f1).length c264_1):=(blk_cell BK265.out 1).trans rfl;have hcz34_2:w32.cell? ⟨gb265,2,none⟩=some (.int .i64 ((rd_T50 l0_8 x4_2).f2)):=(blk_cell BK265.out 2).trans rfl;have hcz34_3:w32.cell? ⟨gb265,3,none⟩=some (.int .i64 ((rd_T50 l0_8 x4_2).f3)):=(blk_cell BK265.out 3).trans rfl;have hcz34_4:w32.cell? ⟨gb265,4,none⟩=some (.slice A264_4 ((rd_T50 l0_8 x4_2).f4).length c264_4):=(blk_cell BK265.out 4).trans rfl;have hcz34_5:w32.cell? ⟨gb265,5,none⟩=some (.slice A264_5 ((rd_T50 l0_8 x4_2).f5).length c264_5):=(blk_cell BK265.out 5).trans rfl;have hfz34_0:=fZ11_ BK265.out 0;have hfz34_1:=fZ11_ BK265.out 1;have hfz34_2:=fZ11_ BK265.out 2;have hfz34_3:=fZ11_ BK265.out 3;have hfz34_4:=fZ11_ BK265.out 4;have hfz34_5:=fZ11_ BK265.out 5)|(go_at_call 17;(with_reducible refine (spec_l16Counts.calls k2 a0_0 a0_1 a0_2 ((rd_T50 l0_8 x4_2).f0) _ _ ((rd_T50 l0_8 x4_2).f1) ((rd_T50 l0_8 x4_2).f2) ((rd_T50 l0_8 x4_2).f3) _ _ ((rd_T50 l0_8 x4_2).f4) _ _ ((rd_T50 l0_8 x4_2).f5) true _ ?side1 ?side2 ?side3 ?side4 ?side5 ?side6 A26.out).mono ?_);(case side1=>repeat (first|exact (Kd.C_below HR264_1.out HB.out)|(with_reducible refine Kd.C_alloc ?_ _)|(with_reducible refine Kd.C_drewN ?_ _)|(with_reducible refine Kd.C_drew ?_)));(case side2=>exact HC264_1.out);(case side3=>repeat (first|exact (Kd.C_below HR264_4.out HB.out)|(with_reducible refine Kd.C_alloc ?_ _)|(with_reducible refine Kd.C_drewN ?_ _)|(with_reducible refine Kd.C_drew ?_)));(case side4=>exact HC264_4.out);(case side5=>repeat (first|exact (Kd.C_below HR264_5.out HB.out)|(with_reducible refine Kd.C_alloc ?_ _)|(with_reducible refine Kd.C_drewN ?_ _)|(with_reducible refine Kd.C_drew ?_)));(case side6=>exact HC264_5.out);rintro e w35 ⟨rfl,hb⟩;have n0_:=mk11_ (Kd.R_below (by (with_reducible repeat (first|apply Kd.R_alloc|apply rN11_|apply Kd.R_drew));exact HO_3.out) hb);have n1_:=mk11_ (blk_below (g:=gb258) (o:=.cells #[.int .i64 a0_0,.int .i64 a0_1,.int .i64 a0_2,.slice A0_3 l0_3.length c0_3,.int .i64 a0_4,.int .i64 a0_5,.bool a0_6,.int .i64 a0_7,.slice (some ad264) l0_8.length c0_8] 38 (0,0)) (by (with_reducible repeat (first|refine kN11_ ?_ _|refine kD11_ ?_|refine blk_alloc ?_ _));exact BK258.out) hb);have n2_:=mk11_ (blk_below (g:=gb265) (o:=.cells #[.int .i64 ((rd_T50 l0_8 x4_2).f0),.slice A264_1 ((rd_T50 l0_8 x4_2).f1).length c264_1,.int .i64 ((rd_T50 l0_8 x4_2).f2),.int .i64 ((rd_T50 l0_8 x4_2).f3),.slice A264_4 ((rd_T50 l0_8 x4_2).f4).length c264_4,.slice A264_5 ((rd_T50 l0_8 x4_2).f5).length c264_5] 50 (0,0)) (by (with_reducible repeat (first|refine kN11_ ?_ _|refine kD11_ ?_|refine blk_alloc ?_ _));exact BK265.out) hb);have n3_:=mk11_ (bT11_ (by repeat (first|(with_reducible first|exact HB.out|apply bA11_|apply bN11_|apply bD11_|refine bS11_ ?_ GE258.out|refine bS11_ ?_ GE265.out)|exact HB.out)) hb);clear HO_3;clear BK258;clear BK265;clear HB;have HO_3:=n0_;have BK258:=n1_;have BK265:=n2_;have HB:=n3_;clear n0_ n1_ n2_ n3_;(try clear hb);(try clear hb2);(try clear hk);(try clear hi);have hcz36_0:w35.cell? ⟨gb258,0,none⟩=some (.int .i64 a0_0):=(blk_cell BK258.out 0).trans rfl;have hcz36_1:w35.cell? ⟨gb258,1,none⟩=some (.int .i64 a0_1):=(blk_cell BK258.out 1).trans rfl;have hcz36_2:w35.cell? ⟨gb258,2,none⟩=some (.int .i64 a0_2):=(blk_cell BK258.out 2).trans rfl;have hcz36_3:w35.cell? ⟨gb258,3,none⟩=some (.slice A0_3 l0_3.length c0_3):=(blk_cell BK258.out 3).trans rfl;have hcz36_4:w35.cell? ⟨gb258,4,none⟩=some (.int .i64 a0_4):=(blk_cell BK258.out 4).trans rfl;have hcz36_5:w35.cell? ⟨gb258,5,none⟩=some (.int .i64 a0_5):=(blk_cell BK258.out 5).trans rfl;have hcz36_6:w35.cell? ⟨gb258,6,none⟩=some (.bool a0_6):=(blk_cell BK258.out 6).trans rfl;have hcz36_7:w35.cell? ⟨gb258,7,none⟩=some (.int .i64 a0_7):=(blk_cell BK258.out 7).trans rfl;have hcz36_8:w35.cell? ⟨gb258,8,none⟩=some (.slice (some ad264) l0_8.length c0_8):=(blk_cell BK258.out 8).trans rfl;have hfz36_0:=fZ11_ BK258.out 0;have hfz36_1:=fZ11_ BK258.out 1;have hfz36_2:=fZ11_ BK258.out 2;have hfz36_3:=fZ11_ BK258.out 3;have hfz36_4:=fZ11_ BK258.out 4;have hfz36_5:=fZ11_ BK258.out 5;have hfz36_6:=fZ11_ BK258.out 6;have hfz36_7:=fZ11_ BK258.out 7;have hfz36_8:=fZ11_ BK258.out 8;have hcz37_0:w35.cell? ⟨gb265,0,none⟩=some (.int .i64 ((rd_T50 l0_8 x4_2).f0)):=(blk_cell BK265.out 0).trans rfl;have hcz37_1:w35.cell? ⟨gb265,1,none⟩=some (.slice A264_1 ((rd_T50 l0_8 x4_2).f1).length c264_1):=(blk_cell BK265.out 1).trans rfl;have hcz37_2:w35.cell? ⟨gb265,2,none⟩=some (.int .i64 ((rd_T50 l0_8 x4_2).f2)):=(blk_cell BK265.out 2).trans rfl;have hcz37_3:w35.cell? ⟨gb265,3,none⟩=some (.int .i64 ((rd_T50 l0_8 x4_2).f3)):=(blk_cell BK265.out 3).trans rfl;have hcz37_4:w35.cell? ⟨gb265,4,none⟩=some (.slice A264_4 ((rd_T50 l0_8 x4_2).f4).length c264_4):=(blk_cell BK265.out 4).trans rfl;have hcz37_5:w35.cell? ⟨gb265,5,none⟩=some (.slice A264_5 ((rd_T50 l0_8 x4_2).f5).length c264_5):=(blk_cell BK265.out 5).trans rfl;have hfz37_0:=fZ11_ BK265.out 0;have hfz37_1:=fZ11_ BK265.out 1;have hfz37_2:=fZ11_ BK265.out 2;have hfz37_3:=fZ11_ BK265.out 3;have hfz37_4:=fZ11_ BK265.out 4;have hfz37_5:=fZ11_ BK265.out 5)|(go_at_call 18;(with_reducible refine (spec_l16State.calls k2 a0_0 a0_1 a0_2 _ _ l0_3 a0_4 a0_5 a0_6 a0_7 ((rd_T50 l0_8 x4_2).f0) _ _ ((rd_T50 l0_8 x4_2).f1) ((rd_T50 l0_8 x4_2).f2) ((rd_T50 l0_8 x4_2).f3) _ _ ((rd_T50 l0_8 x4_2).f4) _ _ ((rd_T50 l0_8 x4_2).f5) t268 _ ?side1 ?side2 ?side3 ?side4 ?side5 ?side6 ?side7 ?side8 A28.out).mono ?_);(case side1=>repeat (first|exact (Kd.C_below HR0_3.out HB.out)|(with_reducible refine Kd.C_alloc ?_ _)|(with_reducible refine Kd.C_drewN ?_ _)|(with_reducible refine Kd.C_drew ?_)));(case side2=>exact HC0_3.out);(case side3=>repeat (first|exact (Kd.C_below HR264_1.out HB.out)|(with_reducible refine Kd.C_alloc ?_ _)|(with_reducible refine Kd.C_drewN ?_ _)|(with_reducible refine Kd.C_drew ?_)));(case side4=>exact HC264_1.out);(case side5=>repeat (first|exact (Kd.C_below HR264_4.out HB.out)|(with_reducible refine Kd.C_alloc ?_ _)|(with_reducible refine Kd.C_drewN ?_ _)|(with_reducible refine Kd.C_drew ?_)));(case side6=>exact HC264_4.out);(case side7=>repeat (first|exact (Kd.C_below HR264_5.out HB.out)|(with_reducible refine Kd.C_alloc ?_ _)|(with_reducible refine Kd.C_drewN ?_ _)|(with_reducible refine Kd.C_drew ?_)));(case side8=>exact HC264_5.out);rintro e w38 ⟨rfl,hb⟩;have n0_:=mk11_ (Kd.R_below (by (with_reducible repeat (first|apply Kd.R_alloc|apply rN11_|apply Kd.R_drew));exact HO_3.out) hb);have n1_:=mk11_ (blk_below (g:=gb258) (o:=.cells #[.int .i64 a0_0,.int .i64 a0_1,.int .i64 a0_2,.slice A0_3 l0_3.length c0_3,.int .i64 a0_4,.int .i64 a0_5,.bool a0_6,.int .i64 a0_7,.slice (some ad264) l0_8.length c0_8] 38 (0,0)) (by (with_reducible repeat (first|refine kN11_ ?_ _|refine kD11_ ?_|refine blk_alloc ?_ _));exact BK258.out) hb);have n2_:=mk11_ (blk_below (g:=gb265) (o:=.cells #[.int .i64 ((rd_T50 l0_8 x4_2).f0),.slice A264_1 ((rd_T50 l0_8 x4_2).f1).length c264_1,.int .i64 ((rd_T50 l0_8 x4_2).f2),.int .i64 ((rd_T50 l0_8 x4_2).f3),.slice A264_4 ((rd_T50 l0_8 x4_2).f4).length c264_4,.slice A264_5 ((rd_T50 l0_8 x4_2).f5).length c264_5] 50 (0,0)) (by (with_reducible repeat (first|refine kN11_ ?_ _|refine kD11_ ?_|refine blk_alloc ?_ _));exact BK265.out) hb);have n3_:=mk11_ (bT11_ (by repeat (first|(with_reducible first|exact HB.out|apply bA11_|apply bN11_|apply bD11_|refine bS11_ ?_ GE258.out|refine bS11_ ?_ GE265.out)|exact HB.out)) hb);clear HO_3;clear BK258;clear BK265;clear HB;have HO_3:=n0_;have BK258:=n1_;have BK265:=n2_;have HB:=n3_;clear n0_ n1_ n2_ n3_;(try clear hb);(try clear hb2);(try clear hk);(try clear hi)))
           go_meet
           case rel=>exact ⟨_,(!t268),(by first|rfl|(simp;done)|(simp [*];done)),H',⟨by have:=HJ1.out;have:=HK2.out;first|omega|exact Nat.le_refl _⟩,⟨by (with_reducible repeat (first|apply Kd.R_alloc|apply rN11_|apply Kd.R_drew));exact HO_3.out⟩,⟨by (with_reducible repeat (first|refine kN11_ ?_ _|refine kD11_ ?_|refine blk_alloc ?_ _));exact BK258.out⟩,⟨by (with_reducible repeat (first|refine kN11_ ?_ _|refine kD11_ ?_|refine blk_alloc ?_ _));exact BK265.out⟩,⟨by repeat (first|(with_reducible first|exact HB.out|apply bA11_|apply bN11_|apply bD11_|refine bS11_ ?_ GE258.out|refine bS11_ ?_ GE265.out)|exact HB.out)⟩⟩
          ·replace c27 := Bool.eq_false_iff.mpr c27
           subst c27
           have H1:(spec_ValidDevice.j2 k2 x3_2 x4_2 true a0_0 a0_1 a0_2 l0_3 a0_4 a0_5 a0_6 a0_7 l0_8 ((rd_T50 l0_8 x4_2).f0) ((rd_T50 l0_8 x4_2).f1) ((rd_T50 l0_8 x4_2).f2) ((rd_T50 l0_8 x4_2).f3) ((rd_T50 l0_8 x4_2).f4) ((rd_T50 l0_8 x4_2).f5))=some r:=by rw [if_neg (show ¬ (false=true) by decide)] at H;exact H
           clear H
           have H := H1
           clear H1
           have H' := Aside0.mk H
           clear H
           have hnb39 := NB258_265.out
           have hnc39 := NB265_258.out
           have hcz40_0:w21.cell? ⟨gb258,0,none⟩=some (.int .i64 a0_0):=(blk_cell BK258.out 0).trans rfl
           have hcz40_1:w21.cell? ⟨gb258,1,none⟩=some (.int .i64 a0_1):=(blk_cell BK258.out 1).trans rfl
           have hcz40_2:w21.cell? ⟨gb258,2,none⟩=some (.int .i64 a0_2):=(blk_cell BK258.out 2).trans rfl
           have hcz40_3:w21.cell? ⟨gb258,3,none⟩=some (.slice A0_3 l0_3.length c0_3):=(blk_cell BK258.out 3).trans rfl
           have hcz40_4:w21.cell? ⟨gb258,4,none⟩=some (.int .i64 a0_4):=(blk_cell BK258.out 4).trans rfl
           have hcz40_5:w21.cell? ⟨gb258,5,none⟩=some (.int .i64 a0_5):=(blk_cell BK258.out 5).trans rfl
           have hcz40_6:w21.cell? ⟨gb258,6,none⟩=some (.bool a0_6):=(blk_cell BK258.out 6).trans rfl
           have hcz40_7:w21.cell? ⟨gb258,7,none⟩=some (.int .i64 a0_7):=(blk_cell BK258.out 7).trans rfl
           have hcz40_8:w21.cell? ⟨gb258,8,none⟩=some (.slice (some ad264) l0_8.length c0_8):=(blk_cell BK258.out 8).trans rfl
           have hfz40_0 := blk_frozen BK258.out 0
           have hfz40_1 := blk_frozen BK258.out 1
           have hfz40_2 := blk_frozen BK258.out 2
           have hfz40_3 := blk_frozen BK258.out 3
           have hfz40_4 := blk_frozen BK258.out 4
           have hfz40_5 := blk_frozen BK258.out 5
           have hfz40_6 := blk_frozen BK258.out 6
           have hfz40_7 := blk_frozen BK258.out 7
           have hfz40_8 := blk_frozen BK258.out 8
           have hcz41_0:w21.cell? ⟨gb265,0,none⟩=some (.int .i64 0):=(blk_cell BK265.out 0).trans rfl
           have hcz41_1:w21.cell? ⟨gb265,1,none⟩=some (.slice none 0 0):=(blk_cell BK265.out 1).trans rfl
           have hcz41_2:w21.cell? ⟨gb265,2,none⟩=some (.int .i64 0):=(blk_cell BK265.out 2).trans rfl
           have hcz41_3:w21.cell? ⟨gb265,3,none⟩=some (.int .i64 0):=(blk_cell BK265.out 3).trans rfl
           have hcz41_4:w21.cell? ⟨gb265,4,none⟩=some (.slice none 0 0):=(blk_cell BK265.out 4).trans rfl
           have hcz41_5:w21.cell? ⟨gb265,5,none⟩=some (.slice none 0 0):=(blk_cell BK265.out 5).trans rfl
           have hfz41_0 := blk_frozen BK265.out 0
           have hfz41_1 := blk_frozen BK265.out 1
           have hfz41_2 := blk_frozen BK265.out 2
           have hfz41_3 := blk_frozen BK265.out 3
           have hfz41_4 := blk_frozen BK265.out 4
           have hfz41_5 := blk_frozen BK265.out 5
           go_wp2_with (first|((with_reducible refine gate_callee (f:=16) rfl ?_);refine goesL_ (some 45) rfl rfl Try.func16 (by kernel_rfl) rfl #[.agg #[.int .i64 a0_0,.int .i64 a0_1,.int .i64 a0_2],.agg #[.int .i64 ((rd_T50 l0_8 x4_2).f0),.slice A264_1 ((rd_T50 l0_8 x4_2).f1).length c264_1,.int .i64 ((rd_T50 l0_8 x4_2).f2),.int .i64 ((rd_T50 l0_8 x4_2).f3),.slice A264_4 ((rd_T50 l0_8 x4_2).f4).length c264_4,.slice A264_5 ((rd_T50 l0_8 x4_2).f5).length c264_5]] rfl (by (try simp only [List.map_toArray,List.map_cons,List.map_nil]);first|done|rfl|(simp only [List.length_drop,List.length_take];rfl)) ?_;(with_reducible refine (spec_l16Blocks.calls k2 a0_0 a0_1 a0_2 ((rd_T50 l0_8 x4_2).f0) _ _ ((rd_T50 l0_8 x4_2).f1) ((rd_T50 l0_8 x4_2).f2) ((rd_T50 l0_8 x4_2).f3) _ _ ((rd_T50 l0_8 x4_2).f4) _ _ ((rd_T50 l0_8 x4_2).f5) true _ ?side1 ?side2 ?side3 ?side4 ?side5 ?side6 A24.out).mono ?_);(case side1=>exact Kd.C_below HR264_1.out (by repeat (first|(with_reducible first|exact HB.out|apply bA11_|apply bN11_|apply bD11_|refine bS11_ ?_ GE258.out|refine bS11_ ?_ GE265.out)|exact HB.out)));(case side2=>exact HC264_1.out);(case side3=>exact Kd.C_below HR264_4.out (by repeat (first|(with_reducible first|exact HB.out|apply bA11_|apply bN11_|apply bD11_|refine bS11_ ?_ GE258.out|refine bS11_ ?_ GE265.out)|exact HB.out)));(case side4=>exact HC264_4.out);(case side5=>exact Kd.C_below HR264_5.out (by repeat (first|(with_reducible first|exact HB.out|apply bA11_|apply bN11_|apply bD11_|refine bS11_ ?_ GE258.out|refine bS11_ ?_ GE265.out)|exact HB.out)));(case side6=>exact HC264_5.out);rintro e w42 ⟨rfl,hb⟩;refine ⟨_,rfl,?_⟩;have n0_:=mk11_ (Kd.R_below (by (with_reducible repeat (first|apply Kd.R_alloc|apply rN11_|apply Kd.R_drew));exact (Kd.R_mono (Kd.R_far (p:=⟨gb265,5,none⟩) (Kd.R_far (p:=⟨gb265,4,none⟩) (Kd.R_far (p:=⟨gb265,3,none⟩) (Kd.R_far (p:=⟨gb265,2,none⟩) (Kd.R_far (p:=⟨gb265,1,none⟩) (Kd.R_far (p:=⟨gb265,0,none⟩) (Kd.R_types HO_3.out BK265.out (by decide)) (fun _ hk=>hk.2) (.int .i64 ((rd_T50 l0_8 x4_2).f0))) (fun _ hk=>hk.2) (.slice A264_1 ((rd_T50 l0_8 x4_2).f1).length c264_1)) (fun _ hk=>hk.2) (.int .i64 ((rd_T50 l0_8 x4_2).f2))) (fun _ hk=>hk.2) (.int .i64 ((rd_T50 l0_8 x4_2).f3))) (fun _ hk=>hk.2) (.slice A264_4 ((rd_T50 l0_8 x4_2).f4).length c264_4)) (fun _ hk=>hk.2) (.slice A264_5 ((rd_T50 l0_8 x4_2).f5).length c264_5)) (fun _ h_=>h_.1))) hb);have n1_:=mk11_ (blk_below (g:=gb258) (o:=.cells #[.int .i64 a0_0,.int .i64 a0_1,.int .i64 a0_2,.slice A0_3 l0_3.length c0_3,.int .i64 a0_4,.int .i64 a0_5,.bool a0_6,.int .i64 a0_7,.slice (some ad264) l0_8.length c0_8] 38 (0,0)) (by (with_reducible repeat (first|refine kN11_ ?_ _|refine kD11_ ?_|refine blk_alloc ?_ _));refine blk_far ?_ NB258_265.out _;(with_reducible repeat (first|refine kN11_ ?_ _|refine kD11_ ?_|refine blk_alloc ?_ _));refine blk_far ?_ NB258_265.out _;(with_reducible repeat (first|refine kN11_ ?_ _|refine kD11_ ?_|refine blk_alloc ?_ _));refine blk_far ?_ NB258_265.out _;(with_reducible repeat (first|refine kN11_ ?_ _|refine kD11_ ?_|refine blk_alloc ?_ _));refine blk_far ?_ NB258_265.out _;(with_reducible repeat (first|refine kN11_ ?_ _|refine kD11_ ?_|refine blk_alloc ?_ _));refine blk_far ?_ NB258_265.out _;(with_reducible repeat (first|refine kN11_ ?_ _|refine kD11_ ?_|refine blk_alloc ?_ _));refine blk_far ?_ NB258_265.out _;(with_reducible repeat (first|refine kN11_ ?_ _|refine kD11_ ?_|refine blk_alloc ?_ _));exact BK258.out) hb);have n2_:=mk11_ (blk_below (g:=gb265) (o:=.cells #[.int .i64 ((rd_T50 l0_8 x4_2).f0),.slice A264_1 ((rd_T50 l0_8 x4_2).f1).length c264_1,.int .i64 ((rd_T50 l0_8 x4_2).f2),.int .i64 ((rd_T50 l0_8 x4_2).f3),.slice A264_4 ((rd_T50 l0_8 x4_2).f4).length c264_4,.slice A264_5 ((rd_T50 l0_8 x4_2).f5).length c264_5] 50 (0,0)) (by (with_reducible repeat (first|refine kN11_ ?_ _|refine kD11_ ?_|refine blk_alloc ?_ _));refine blk_put (cs:=#[.int .i64 ((rd_T50 l0_8 x4_2).f0),.slice A264_1 ((rd_T50 l0_8 x4_2).f1).length c264_1,.int .i64 ((rd_T50 l0_8 x4_2).f2),.int .i64 ((rd_T50 l0_8 x4_2).f3),.slice A264_4 ((rd_T50 l0_8 x4_2).f4).length c264_4,.slice none 0 0]) ?_ 5 _ rfl;(with_reducible repeat (first|refine kN11_ ?_ _|refine kD11_ ?_|refine blk_alloc ?_ _));refine blk_put (cs:=#[.int .i64 ((rd_T50 l0_8 x4_2).f0),.slice A264_1 ((rd_T50 l0_8 x4_2).f1).length c264_1,.int .i64 ((rd_T50 l0_8 x4_2).f2),.int .i64 ((rd_T50 l0_8 x4_2).f3),.slice none 0 0,.slice none 0 0]) ?_ 4 _ rfl;(with_reducible repeat (first|refine kN11_ ?_ _|refine kD11_ ?_|refine blk_alloc ?_ _));refine blk_put (cs:=#[.int .i64 ((rd_T50 l0_8 x4_2).f0),.slice A264_1 ((rd_T50 l0_8 x4_2).f1).length c264_1,.int .i64 ((rd_T50 l0_8 x4_2).f2),.int .i64 0,.slice none 0 0,.slice none 0 0]) ?_ 3 _ rfl;(with_reducible repeat (first|refine kN11_ ?_ _|refine kD11_ ?_|refine blk_alloc ?_ _));refine blk_put (cs:=#[.int .i64 ((rd_T50 l0_8 x4_2).f0),.slice A264_1 ((rd_T50 l0_8 x4_2).f1).length c264_1,.int .i64 0,.int .i64 0,.slice none 0 0,.slice none 0 0]) ?_ 2 _ rfl;(with_reducible repeat (first|refine kN11_ ?_ _|refine kD11_ ?_|refine blk_alloc ?_ _));refine blk_put (cs:=#[.int .i64 ((rd_T50 l0_8 x4_2).f0),.slice none 0 0,.int .i64 0,.int .i64 0,.slice none 0 0,.slice none 0 0]) ?_ 1 _ rfl;(with_reducible repeat (first|refine kN11_ ?_ _|refine kD11_ ?_|refine blk_alloc ?_ _));refine blk_put (cs:=#[.int .i64 0,.slice none 0 0,.int .i64 0,.int .i64 0,.slice none 0 0,.slice none 0 0]) ?_ 0 _ rfl;(with_reducible repeat (first|refine kN11_ ?_ _|refine kD11_ ?_|refine blk_alloc ?_ _));exact BK265.out) hb);have n3_:=mk11_ (bT11_ (by repeat (first|(with_reducible first|exact HB.out|apply bA11_|apply bN11_|apply bD11_|refine bS11_ ?_ GE258.out|refine bS11_ ?_ GE265.out)|exact HB.out)) hb);clear HO_3;clear BK258;clear BK265;clear HB;have HO_3:=n0_;have BK258:=n1_;have BK265:=n2_;have HB:=n3_;clear n0_ n1_ n2_ n3_;(try clear hb);(try clear hb2);(try clear hk);(try clear hi);have hcz43_0:w42.cell? ⟨gb258,0,none⟩=some (.int .i64 a0_0):=(blk_cell BK258.out 0).trans rfl;have hcz43_1:w42.cell? ⟨gb258,1,none⟩=some (.int .i64 a0_1):=(blk_cell BK258.out 1).trans rfl;have hcz43_2:w42.cell? ⟨gb258,2,none⟩=some (.int .i64 a0_2):=(blk_cell BK258.out 2).trans rfl;have hcz43_3:w42.cell? ⟨gb258,3,none⟩=some (.slice A0_3 l0_3.length c0_3):=(blk_cell BK258.out 3).trans rfl;have hcz43_4:w42.cell? ⟨gb258,4,none⟩=some (.int .i64 a0_4):=(blk_cell BK258.out 4).trans rfl;have hcz43_5:w42.cell? ⟨gb258,5,none⟩=some (.int .i64 a0_5):=(blk_cell BK258.out 5).trans rfl;have hcz43_6:w42.cell? ⟨gb258,6,none⟩=some (.bool a0_6):=(blk_cell BK258.out 6).trans rfl;have hcz43_7:w42.cell? ⟨gb258,7,none⟩=some (.int .i64 a0_7):=(blk_cell BK258.out 7).trans rfl;have hcz43_8:w42.cell? ⟨gb258,8,none⟩=some (.slice (some ad264) l0_8.length c0_8):=(blk_cell BK258.out 8).trans rfl;have hfz43_0:=fZ11_ BK258.out 0;have hfz43_1:=fZ11_ BK258.out 1;have hfz43_2:=fZ11_ BK258.out 2;have hfz43_3:=fZ11_ BK258.out 3;have hfz43_4:=fZ11_ BK258.out 4;have hfz43_5:=fZ11_ BK258.out 5;have hfz43_6:=fZ11_ BK258.out 6;have hfz43_7:=fZ11_ BK258.out 7;have hfz43_8:=fZ11_ BK258.out 8;have hcz44_0:w42.cell? ⟨gb265,0,none⟩=some (.int .i64 ((rd_T50 l0_8 x4_2).f0)):=(blk_cell BK265.out 0).trans rfl;have hcz44_1:w42.cell? ⟨gb265,1,none⟩=some (.slice A264_1 ((rd_T50 l0_8 x4_2).f1).length c264_1):=(blk_cell BK265.out 1).trans rfl;have hcz44_2:w42.cell? ⟨gb265,2,none⟩=some (.int .i64 ((rd_T50 l0_8 x4_2).f2)):=(blk_cell BK265.out 2).trans rfl;have hcz44_3:w42.cell? ⟨gb265,3,none⟩=some (.int .i64 ((rd_T50 l0_8 x4_2).f3)):=(blk_cell BK265.out 3).trans rfl;have hcz44_4:w42.cell? ⟨gb265,4,none⟩=some (.slice A264_4 ((rd_T50 l0_8 x4_2).f4).length c264_4):=(blk_cell BK265.out 4).trans rfl;have hcz44_5:w42.cell? ⟨gb265,5,none⟩=some (.slice A264_5 ((rd_T50 l0_8 x4_2).f5).length c264_5):=(blk_cell BK265.out 5).trans rfl;have hfz44_0:=fZ11_ BK265.out 0;have hfz44_1:=fZ11_ BK265.out 1;have hfz44_2:=fZ11_ BK265.out 2;have hfz44_3:=fZ11_ BK265.out 3;have hfz44_4:=fZ11_ BK265.out 4;have hfz44_5:=fZ11_ BK265.out 5)|(go_at_call 17;(with_reducible refine (spec_l16Counts.calls k2 a0_0 a0_1 a0_2 ((rd_T50 l0_8 x4_2).f0) _ _ ((rd_T50 l0_8 x4_2).f1) ((rd_T50 l0_8 x4_2).f2) ((rd_T50 l0_8 x4_2).f3) _ _ ((rd_T50 l0_8 x4_2).f4) _ _ ((rd_T50 l0_8 x4_2).f5) false _ ?side1 ?side2 ?side3 ?side4 ?side5 ?side6 A26.out).mono ?_);(case side1=>repeat (first|exact (Kd.C_below HR264_1.out HB.out)|(with_reducible refine Kd.C_alloc ?_ _)|(with_reducible refine Kd.C_drewN ?_ _)|(with_reducible refine Kd.C_drew ?_)));(case side2=>exact HC264_1.out);(case side3=>repeat (first|exact (Kd.C_below HR264_4.out HB.out)|(with_reducible refine Kd.C_alloc ?_ _)|(with_reducible refine Kd.C_drewN ?_ _)|(with_reducible refine Kd.C_drew ?_)));(case side4=>exact HC264_4.out);(case side5=>repeat (first|exact (Kd.C_below HR264_5.out HB.out)|(with_reducible refine Kd.C_alloc ?_ _)|(with_reducible refine Kd.C_drewN ?_ _)|(with_reducible refine Kd.C_drew ?_)));(case side6=>exact HC264_5.out);rintro e w45 ⟨rfl,hb⟩;have n0_:=mk11_ (Kd.R_below (by (with_reducible repeat (first|apply Kd.R_alloc|apply rN11_|apply Kd.R_drew));exact HO_3.out) hb);have n1_:=mk11_ (blk_below (g:=gb258) (o:=.cells #[.int .i64 a0_0,.int .i64 a0_1,.int .i64 a0_2,.slice A0_3 l0_3.length c0_3,.int .i64 a0_4,.int .i64 a0_5,.bool a0_6,.int .i64 a0_7,.slice (some ad264) l0_8.length c0_8] 38 (0,0)) (by (with_reducible repeat (first|refine kN11_ ?_ _|refine kD11_ ?_|refine blk_alloc ?_ _));exact BK258.out) hb);have n2_:=mk11_ (blk_below (g:=gb265) (o:=.cells #[.int .i64 ((rd_T50 l0_8 x4_2).f0),.slice A264_1 ((rd_T50 l0_8 x4_2).f1).length c264_1,.int .i64 ((rd_T50 l0_8 x4_2).f2),.int .i64 ((rd_T50 l0_8 x4_2).f3),.slice A264_4 ((rd_T50 l0_8 x4_2).f4).length c264_4,.slice A264_5 ((rd_T50 l0_8 x4_2).f5).length c264_5] 50 (0,0)) (by (with_reducible repeat (first|refine kN11_ ?_ _|refine kD11_ ?_|refine blk_alloc ?_ _));exact BK265.out) hb);have n3_:=mk11_ (bT11_ (by repeat (first|(with_reducible first|exact HB.out|apply bA11_|apply bN11_|apply bD11_|refine bS11_ ?_ GE258.out|refine bS11_ ?_ GE265.out)|exact HB.out)) hb);clear HO_3;clear BK258;clear BK265;clear HB;have HO_3:=n0_;have BK258:=n1_;have BK265:=n2_;have HB:=n3_;clear n0_ n1_ n2_ n3_;(try clear hb);(try clear hb2);(try clear hk);(try clear hi)))
           go_meet
           case rel=>exact ⟨_,(true),(by first|rfl|(simp;done)|(simp [*];done)),H',⟨by have:=HJ1.out;have:=HK2.out;first|omega|exact Nat.le_refl _⟩,⟨by (with_reducible repeat (first|apply Kd.R_alloc|apply rN11_|apply Kd.R_drew));exact HO_3.out⟩,⟨by (with_reducible repeat (first|refine kN11_ ?_ _|refine kD11_ ?_|refine blk_alloc ?_ _));exact BK258.out⟩,⟨by (with_reducible repeat (first|refine kN11_ ?_ _|refine kD11_ ?_|refine blk_alloc ?_ _));exact BK265.out⟩,⟨by repeat (first|(with_reducible first|exact HB.out|apply bA11_|apply bN11_|apply bD11_|refine bS11_ ?_ GE258.out|refine bS11_ ?_ GE265.out)|exact HB.out)⟩⟩
         ·replace c25 := Bool.eq_false_iff.mpr c25
          subst c25
          have H1:(spec_ValidDevice.j2 k2 x3_2 x4_2 true a0_0 a0_1 a0_2 l0_3 a0_4 a0_5 a0_6 a0_7 l0_8 ((rd_T50 l0_8 x4_2).f0) ((rd_T50 l0_8 x4_2).f1) ((rd_T50 l0_8 x4_2).f2) ((rd_T50 l0_8 x4_2).f3) ((rd_T50 l0_8 x4_2).f4) ((rd_T50 l0_8 x4_2).f5))=some r:=by rw [if_neg (show ¬ (false=true) by decide)] at H;exact H
          clear H
          have H := H1
          clear H1
          have H' := Aside0.mk H
          clear H
          have hnb46 := NB258_265.out
          have hnc46 := NB265_258.out
          have hcz47_0:w21.cell? ⟨gb258,0,none⟩=some (.int .i64 a0_0):=(blk_cell BK258.out 0).trans rfl
          have hcz47_1:w21.cell? ⟨gb258,1,none⟩=some (.int .i64 a0_1):=(blk_cell BK258.out 1).trans rfl
          have hcz47_2:w21.cell? ⟨gb258,2,none⟩=some (.int .i64 a0_2):=(blk_cell BK258.out 2).trans rfl
          have hcz47_3:w21.cell? ⟨gb258,3,none⟩=some (.slice A0_3 l0_3.length c0_3):=(blk_cell BK258.out 3).trans rfl
          have hcz47_4:w21.cell? ⟨gb258,4,none⟩=some (.int .i64 a0_4):=(blk_cell BK258.out 4).trans rfl
          have hcz47_5:w21.cell? ⟨gb258,5,none⟩=some (.int .i64 a0_5):=(blk_cell BK258.out 5).trans rfl
          have hcz47_6:w21.cell? ⟨gb258,6,none⟩=some (.bool a0_6):=(blk_cell BK258.out 6).trans rfl
          have hcz47_7:w21.cell? ⟨gb258,7,none⟩=some (.int .i64 a0_7):=(blk_cell BK258.out 7).trans rfl
          have hcz47_8:w21.cell? ⟨gb258,8,none⟩=some (.slice (some ad264) l0_8.length c0_8):=(blk_cell BK258.out 8).trans rfl
          have hfz47_0 := blk_frozen BK258.out 0
          have hfz47_1 := blk_frozen BK258.out 1
          have hfz47_2 := blk_frozen BK258.out 2
          have hfz47_3 := blk_frozen BK258.out 3
          have hfz47_4 := blk_frozen BK258.out 4
          have hfz47_5 := blk_frozen BK258.out 5
          have hfz47_6 := blk_frozen BK258.out 6
          have hfz47_7 := blk_frozen BK258.out 7
          have hfz47_8 := blk_frozen BK258.out 8
          have hcz48_0:w21.cell? ⟨gb265,0,none⟩=some (.int .i64 0):=(blk_cell BK265.out 0).trans rfl
          have hcz48_1:w21.cell? ⟨gb265,1,none⟩=some (.slice none 0 0):=(blk_cell BK265.out 1).trans rfl
          have hcz48_2:w21.cell? ⟨gb265,2,none⟩=some (.int .i64 0):=(blk_cell BK265.out 2).trans rfl
          have hcz48_3:w21.cell? ⟨gb265,3,none⟩=some (.int .i64 0):=(blk_cell BK265.out 3).trans rfl
          have hcz48_4:w21.cell? ⟨gb265,4,none⟩=some (.slice none 0 0):=(blk_cell BK265.out 4).trans rfl
          have hcz48_5:w21.cell? ⟨gb265,5,none⟩=some (.slice none 0 0):=(blk_cell BK265.out 5).trans rfl
          have hfz48_0 := blk_frozen BK265.out 0
          have hfz48_1 := blk_frozen BK265.out 1
          have hfz48_2 := blk_frozen BK265.out 2
          have hfz48_3 := blk_frozen BK265.out 3
          have hfz48_4 := blk_frozen BK265.out 4
          have hfz48_5 := blk_frozen BK265.out 5
          go_wp2_with (first|((with_reducible refine gate_callee (f:=16) rfl ?_);refine goesL_ (some 45) rfl rfl Try.func16 (by kernel_rfl) rfl #[.agg #[.int .i64 a0_0,.int .i64 a0_1,.int .i64 a0_2],.agg #[.int .i64 ((rd_T50 l0_8 x4_2).f0),.slice A264_1 ((rd_T50 l0_8 x4_2).f1).length c264_1,.int .i64 ((rd_T50 l0_8 x4_2).f2),.int .i64 ((rd_T50 l0_8 x4_2).f3),.slice A264_4 ((rd_T50 l0_8 x4_2).f4).length c264_4,.slice A264_5 ((rd_T50 l0_8 x4_2).f5).length c264_5]] rfl (by (try simp only [List.map_toArray,List.map_cons,List.map_nil]);first|done|rfl|(simp only [List.length_drop,List.length_take];rfl)) ?_;(with_reducible refine (spec_l16Blocks.calls k2 a0_0 a0_1 a0_2 ((rd_T50 l0_8 x4_2).f0) _ _ ((rd_T50 l0_8 x4_2).f1) ((rd_T50 l0_8 x4_2).f2) ((rd_T50 l0_8 x4_2).f3) _ _ ((rd_T50 l0_8 x4_2).f4) _ _ ((rd_T50 l0_8 x4_2).f5) false _ ?side1 ?side2 ?side3 ?side4 ?side5 ?side6 A24.out).mono ?_);(case side1=>exact Kd.C_below HR264_1.out (by repeat (first|(with_reducible first|exact HB.out|apply bA11_|apply bN11_|apply bD11_|refine bS11_ ?_ GE258.out|refine bS11_ ?_ GE265.out)|exact HB.out)));(case side2=>exact HC264_1.out);(case side3=>exact Kd.C_below HR264_4.out (by repeat (first|(with_reducible first|exact HB.out|apply bA11_|apply bN11_|apply bD11_|refine bS11_ ?_ GE258.out|refine bS11_ ?_ GE265.out)|exact HB.out)));(case side4=>exact HC264_4.out);(case side5=>exact Kd.C_below HR264_5.out (by repeat (first|(with_reducible first|exact HB.out|apply bA11_|apply bN11_|apply bD11_|refine bS11_ ?_ GE258.out|refine bS11_ ?_ GE265.out)|exact HB.out)));(case side6=>exact HC264_5.out);rintro e w49 ⟨rfl,hb⟩;refine ⟨_,rfl,?_⟩;have n0_:=mk11_ (Kd.R_below (by (with_reducible repeat (first|apply Kd.R_alloc|apply rN11_|apply Kd.R_drew));exact (Kd.R_mono (Kd.R_far (p:=⟨gb265,5,none⟩) (Kd.R_far (p:=⟨gb265,4,none⟩) (Kd.R_far (p:=⟨gb265,3,none⟩) (Kd.R_far (p:=⟨gb265,2,none⟩) (Kd.R_far (p:=⟨gb265,1,none⟩) (Kd.R_far (p:=⟨gb265,0,none⟩) (Kd.R_types HO_3.out BK265.out (by decide)) (fun _ hk=>hk.2) (.int .i64 ((rd_T50 l0_8 x4_2).f0))) (fun _ hk=>hk.2) (.slice A264_1 ((rd_T50 l0_8 x4_2).f1).length c264_1)) (fun _ hk=>hk.2) (.int .i64 ((rd_T50 l0_8 x4_2).f2))) (fun _ hk=>hk.2) (.int .i64 ((rd_T50 l0_8 x4_2).f3))) (fun _ hk=>hk.2) (.slice A264_4 ((rd_T50 l0_8 x4_2).f4).length c264_4)) (fun _ hk=>hk.2) (.slice A264_5 ((rd_T50 l0_8 x4_2).f5).length c264_5)) (fun _ h_=>h_.1))) hb);have n1_:=mk11_ (blk_below (g:=gb258) (o:=.cells #[.int .i64 a0_0,.int .i64 a0_1,.int .i64 a0_2,.slice A0_3 l0_3.length c0_3,.int .i64 a0_4,.int .i64 a0_5,.bool a0_6,.int .i64 a0_7,.slice (some ad264) l0_8.length c0_8] 38 (0,0)) (by (with_reducible repeat (first|refine kN11_ ?_ _|refine kD11_ ?_|refine blk_alloc ?_ _));refine blk_far ?_ NB258_265.out _;(with_reducible repeat (first|refine kN11_ ?_ _|refine kD11_ ?_|refine blk_alloc ?_ _));refine blk_far ?_ NB258_265.out _;(with_reducible repeat (first|refine kN11_ ?_ _|refine kD11_ ?_|refine blk_alloc ?_ _));refine blk_far ?_ NB258_265.out _;(with_reducible repeat (first|refine kN11_ ?_ _|refine kD11_ ?_|refine blk_alloc ?_ _));refine blk_far ?_ NB258_265.out _;(with_reducible repeat (first|refine kN11_ ?_ _|refine kD11_ ?_|refine blk_alloc ?_ _));refine blk_far ?_ NB258_265.out _;(with_reducible repeat (first|refine kN11_ ?_ _|refine kD11_ ?_|refine blk_alloc ?_ _));refine blk_far ?_ NB258_265.out _;(with_reducible repeat (first|refine kN11_ ?_ _|refine kD11_ ?_|refine blk_alloc ?_ _));exact BK258.out) hb);have n2_:=mk11_ (blk_below (g:=gb265) (o:=.cells #[.int .i64 ((rd_T50 l0_8 x4_2).f0),.slice A264_1 ((rd_T50 l0_8 x4_2).f1).length c264_1,.int .i64 ((rd_T50 l0_8 x4_2).f2),.int .i64 ((rd_T50 l0_8 x4_2).f3),.slice A264_4 ((rd_T50 l0_8 x4_2).f4).length c264_4,.slice A264_5 ((rd_T50 l0_8 x4_2).f5).length c264_5] 50 (0,0)) (by (with_reducible repeat (first|refine kN11_ ?_ _|refine kD11_ ?_|refine blk_alloc ?_ _));refine blk_put (cs:=#[.int .i64 ((rd_T50 l0_8 x4_2).f0),.slice A264_1 ((rd_T50 l0_8 x4_2).f1).length c264_1,.int .i64 ((rd_T50 l0_8 x4_2).f2),.int .i64 ((rd_T50 l0_8 x4_2).f3),.slice A264_4 ((rd_T50 l0_8 x4_2).f4).length c264_4,.slice none 0 0]) ?_ 5 _ rfl;(with_reducible repeat (first|refine kN11_ ?_ _|refine kD11_ ?_|refine blk_alloc ?_ _));refine blk_put (cs:=#[.int .i64 ((rd_T50 l0_8 x4_2).f0),.slice A264_1 ((rd_T50 l0_8 x4_2).f1).length c264_1,.int .i64 ((rd_T50 l0_8 x4_2).f2),.int .i64 ((rd_T50 l0_8 x4_2).f3),.slice none 0 0,.slice none 0 0]) ?_ 4 _ rfl;(with_reducible repeat (first|refine kN11_ ?_ _|refine kD11_ ?_|refine blk_alloc ?_ _));refine blk_put (cs:=#[.int .i64 ((rd_T50 l0_8 x4_2).f0),.slice A264_1 ((rd_T50 l0_8 x4_2).f1).length c264_1,.int .i64 ((rd_T50 l0_8 x4_2).f2),.int .i64 0,.slice none 0 0,.slice none 0 0]) ?_ 3 _ rfl;(with_reducible repeat (first|refine kN11_ ?_ _|refine kD11_ ?_|refine blk_alloc ?_ _));refine blk_put (cs:=#[.int .i64 ((rd_T50 l0_8 x4_2).f0),.slice A264_1 ((rd_T50 l0_8 x4_2).f1).length c264_1,.int .i64 0,.int .i64 0,.slice none 0 0,.slice none 0 0]) ?_ 2 _ rfl;(with_reducible repeat (first|refine kN11_ ?_ _|refine kD11_ ?_|refine blk_alloc ?_ _));refine blk_put (cs:=#[.int .i64 ((rd_T50 l0_8 x4_2).f0),.slice none 0 0,.int .i64 0,.int .i64 0,.slice none 0 0,.slice none 0 0]) ?_ 1 _ rfl;(with_reducible repeat (first|refine kN11_ ?_ _|refine kD11_ ?_|refine blk_alloc ?_ _));refine blk_put (cs:=#[.int .i64 0,.slice none 0 0,.int .i64 0,.int .i64 0,.slice none 0 0,.slice none 0 0]) ?_ 0 _ rfl;(with_reducible repeat (first|refine kN11_ ?_ _|refine kD11_ ?_|refine blk_alloc ?_ _));exact BK265.out) hb);have n3_:=mk11_ (bT11_ (by repeat (first|(with_reducible first|exact HB.out|apply bA11_|apply bN11_|apply bD11_|refine bS11_ ?_ GE258.out|refine bS11_ ?_ GE265.out)|exact HB.out)) hb);clear HO_3;clear BK258;clear BK265;clear HB;have HO_3:=n0_;have BK258:=n1_;have BK265:=n2_;have HB:=n3_;clear n0_ n1_ n2_ n3_;(try clear hb);(try clear hb2);(try clear hk);(try clear hi)))
          go_meet
          case rel=>exact ⟨_,(true),(by first|rfl|(simp;done)|(simp [*];done)),H',⟨by have:=HJ1.out;have:=HK2.out;first|omega|exact Nat.le_refl _⟩,⟨by (with_reducible repeat (first|apply Kd.R_alloc|apply rN11_|apply Kd.R_drew));exact HO_3.out⟩,⟨by (with_reducible repeat (first|refine kN11_ ?_ _|refine kD11_ ?_|refine blk_alloc ?_ _));exact BK258.out⟩,⟨by (with_reducible repeat (first|refine kN11_ ?_ _|refine kD11_ ?_|refine blk_alloc ?_ _));exact BK265.out⟩,⟨by repeat (first|(with_reducible first|exact HB.out|apply bA11_|apply bN11_|apply bD11_|refine bS11_ ?_ GE258.out|refine bS11_ ?_ GE265.out)|exact HB.out)⟩⟩
        case rest =>
         clear HC19
         try clear c1
         try clear c2
         try clear p2
         try clear q2
         try clear hx2
         try clear c3
         try clear c4
         try clear c5
         try clear c6
         try clear c6b0
         try clear c6b1
         try clear c14
         try clear c15
         try clear c16
         try clear c17
         try clear c17b0
         try clear c18
         try clear c18b0
         try clear c22
         try clear c25
         try clear c26
         try clear p26
         try clear q26
         try clear hx26
         try clear c27
         try clear c29
         try clear c39
         try clear c46
         try clear hcz20_0
         try clear hcz20_1
         try clear hcz20_2
         try clear hcz20_3
         try clear hcz20_4
         try clear hcz20_5
         try clear hcz20_6
         try clear hcz20_7
         try clear hcz20_8
         try clear hcz23_0
         try clear hcz23_1
         try clear hcz23_2
         try clear hcz23_3
         try clear hcz23_4
         try clear hcz23_5
         try clear hcz30_0
         try clear hcz30_1
         try clear hcz30_2
         try clear hcz30_3
         try clear hcz30_4
         try clear hcz30_5
         try clear hcz30_6
         try clear hcz30_7
         try clear hcz30_8
         try clear hcz31_0
         try clear hcz31_1
         try clear hcz31_2
         try clear hcz31_3
         try clear hcz31_4
         try clear hcz31_5
         try clear hcz33_0
         try clear hcz33_1
         try clear hcz33_2
         try clear hcz33_3
         try clear hcz33_4
         try clear hcz33_5
         try clear hcz33_6
         try clear hcz33_7
         try clear hcz33_8
         try clear hcz34_0
         try clear hcz34_1
         try clear hcz34_2
         try clear hcz34_3
         try clear hcz34_4
         try clear hcz34_5
         try clear hcz36_0
         try clear hcz36_1
         try clear hcz36_2
         try clear hcz36_3
         try clear hcz36_4
         try clear hcz36_5
         try clear hcz36_6
         try clear hcz36_7
         try clear hcz36_8
         try clear hcz37_0
         try clear hcz37_1
         try clear hcz37_2
         try clear hcz37_3
         try clear hcz37_4
         try clear hcz37_5
         try clear hcz40_0
         try clear hcz40_1
         try clear hcz40_2
         try clear hcz40_3
         try clear hcz40_4
         try clear hcz40_5
         try clear hcz40_6
         try clear hcz40_7
         try clear hcz40_8
         try clear hcz41_0
         try clear hcz41_1
         try clear hcz41_2
         try clear hcz41_3
         try clear hcz41_4
         try clear hcz41_5
         try clear hcz43_0
         try clear hcz43_1
         try clear hcz43_2
         try clear hcz43_3
         try clear hcz43_4
         try clear hcz43_5
         try clear hcz43_6
         try clear hcz43_7
         try clear hcz43_8
         try clear hcz44_0
         try clear hcz44_1
         try clear hcz44_2
         try clear hcz44_3
         try clear hcz44_4
         try clear hcz44_5
         try clear hcz47_0
         try clear hcz47_1
         try clear hcz47_2
         try clear hcz47_3
         try clear hcz47_4
         try clear hcz47_5
         try clear hcz47_6
         try clear hcz47_7
         try clear hcz47_8
         try clear hcz48_0
         try clear hcz48_1
         try clear hcz48_2
         try clear hcz48_3
         try clear hcz48_4
         try clear hcz48_5
         try clear hfz20_0
         try clear hfz20_1
         try clear hfz20_2
         try clear hfz20_3
         try clear hfz20_4
         try clear hfz20_5
         try clear hfz20_6
         try clear hfz20_7
         try clear hfz20_8
         try clear hfz23_0
         try clear hfz23_1
         try clear hfz23_2
         try clear hfz23_3
         try clear hfz23_4
         try clear hfz23_5
         try clear hfz30_0
         try clear hfz30_1
         try clear hfz30_2
         try clear hfz30_3
         try clear hfz30_4
         try clear hfz30_5
         try clear hfz30_6
         try clear hfz30_7
         try clear hfz30_8
         try clear hfz31_0
         try clear hfz31_1
         try clear hfz31_2
         try clear hfz31_3
         try clear hfz31_4
         try clear hfz31_5
         try clear hfz33_0
         try clear hfz33_1
         try clear hfz33_2
         try clear hfz33_3
         try clear hfz33_4
         try clear hfz33_5
         try clear hfz33_6
         try clear hfz33_7
         try clear hfz33_8
         try clear hfz34_0
         try clear hfz34_1
         try clear hfz34_2
         try clear hfz34_3
         try clear hfz34_4
         try clear hfz34_5
         try clear hfz36_0
         try clear hfz36_1
         try clear hfz36_2
         try clear hfz36_3
         try clear hfz36_4
         try clear hfz36_5
         try clear hfz36_6
         try clear hfz36_7
         try clear hfz36_8
         try clear hfz37_0
         try clear hfz37_1
         try clear hfz37_2
         try clear hfz37_3
         try clear hfz37_4
         try clear hfz37_5
         try clear hfz40_0
         try clear hfz40_1
         try clear hfz40_2
         try clear hfz40_3
         try clear hfz40_4
         try clear hfz40_5
         try clear hfz40_6
         try clear hfz40_7
         try clear hfz40_8
         try clear hfz41_0
         try clear hfz41_1
         try clear hfz41_2
         try clear hfz41_3
         try clear hfz41_4
         try clear hfz41_5
         try clear hfz43_0
         try clear hfz43_1
         try clear hfz43_2
         try clear hfz43_3
         try clear hfz43_4
         try clear hfz43_5
         try clear hfz43_6
         try clear hfz43_7
         try clear hfz43_8
         try clear hfz44_0
         try clear hfz44_1
         try clear hfz44_2
         try clear hfz44_3
         try clear hfz44_4
         try clear hfz44_5
         try clear hfz47_0
         try clear hfz47_1
         try clear hfz47_2
         try clear hfz47_3
         try clear hfz47_4
         try clear hfz47_5
         try clear hfz47_6
         try clear hfz47_7
         try clear hfz47_8
         try clear hfz48_0
         try clear hfz48_1
         try clear hfz48_2
         try clear hfz48_3
         try clear hfz48_4
         try clear hfz48_5
         try clear hx264_0
         try clear hx264_1
         try clear hx264_2
         try clear hx264_3
         try clear hx264_4
         try clear hx264_5
         try clear p2
         try clear p264
         try clear q264
         obtain ⟨kq, x61_18, rfl, HA, HJ18, HO_3, BK258, BK265, HB⟩ := hcut
         cases kq with
         | zero => exact absurd HA.out (by simp [spec_ValidDevice.j2])
         | succ kj18 =>
          have H := HA.out
          clear HA
          simp only [spec_ValidDevice.j2] at H
          by_cases c50 : x61_18 = true
          ·subst c50
           have H1 : (some false) = some r := by rw [if_pos rfl] at H; exact H
           clear H
           have H := H1
           clear H1
           obtain rfl := Option.some.inj H
           go_wp2
           go_ret
           exact ⟨by first|rfl|(simp [errW_none,errW_some] <;> rfl)|(simp [*,errW_none,errW_some] <;> rfl),by repeat (first|(with_reducible first|exact HB.out|apply bA11_|apply bN11_|apply bD11_|refine bS11_ ?_ GE258.out|refine bS11_ ?_ GE265.out)|exact HB.out)⟩
          ·replace c50 := Bool.eq_false_iff.mpr c50
           subst c50
           have H1:(spec_ValidDevice.l1 kj18 x3_2 x4_2 0 a0_0 a0_1 a0_2 l0_3 a0_4 a0_5 a0_6 a0_7 l0_8 ((rd_T50 l0_8 x4_2).f0) ((rd_T50 l0_8 x4_2).f1) ((rd_T50 l0_8 x4_2).f2) ((rd_T50 l0_8 x4_2).f3) ((rd_T50 l0_8 x4_2).f4) ((rd_T50 l0_8 x4_2).f5))=some r:=by rw [if_neg (show ¬ (false=true) by decide)] at H;exact H
           clear H
           have H := H1
           clear H1
           have H' := Aside0.mk H
           clear H
           go_wp2
           go_loopg [3,6] kj18 (fun kq v3 v6 w'=>∃ (x3_4:List Int) (x6_4:Int),v6=.int .i64 x6_4∧Aside0 (spec_ValidDevice.l1 kq x3_4 x4_2 x6_4 a0_0 a0_1 a0_2 l0_3 a0_4 a0_5 a0_6 a0_7 l0_8 ((rd_T50 l0_8 x4_2).f0) ((rd_T50 l0_8 x4_2).f1) ((rd_T50 l0_8 x4_2).f2) ((rd_T50 l0_8 x4_2).f3) ((rd_T50 l0_8 x4_2).f4) ((rd_T50 l0_8 x4_2).f5)=some r)∧Aside0 (kq≤kj18)∧Aside0 (Kd.R (Kd.int .i64) 2 w' w.heap.size (fun _=>True) v3 x3_4)∧Aside0 (w'.heap[gb258]?=some (.cells #[.int .i64 a0_0,.int .i64 a0_1,.int .i64 a0_2,(.slice A0_3 l0_3.length c0_3),.int .i64 a0_4,.int .i64 a0_5,.bool a0_6,.int .i64 a0_7,(.slice (some ad264) l0_8.length c0_8)] 38 (0,0)))∧Aside0 (w'.heap[gb265]?=some (.cells #[.int .i64 ((rd_T50 l0_8 x4_2).f0),(.slice A264_1 ((rd_T50 l0_8 x4_2).f1).length c264_1),.int .i64 ((rd_T50 l0_8 x4_2).f2),.int .i64 ((rd_T50 l0_8 x4_2).f3),(.slice A264_4 ((rd_T50 l0_8 x4_2).f4).length c264_4),(.slice A264_5 ((rd_T50 l0_8 x4_2).f5).length c264_5)] 50 (0,0)))∧Aside0 (Below w.heap.size w w'))
           case atStart=>exact ⟨(x3_2),(0),(by first|rfl|(simp;done)|(simp [*];done)),H',⟨Nat.le_refl _⟩,⟨by (with_reducible repeat (first|apply Kd.R_alloc|apply rN11_|apply Kd.R_drew));exact HO_3.out⟩,⟨by (with_reducible repeat (first|refine kN11_ ?_ _|refine kD11_ ?_|refine blk_alloc ?_ _));exact BK258.out⟩,⟨by (with_reducible repeat (first|refine kN11_ ?_ _|refine kD11_ ?_|refine blk_alloc ?_ _));exact BK265.out⟩,⟨by repeat (first|(with_reducible first|exact HB.out|apply bA11_|apply bN11_|apply bD11_|refine bS11_ ?_ GE258.out|refine bS11_ ?_ GE265.out)|exact HB.out)⟩⟩
           case round =>
            clear H'
            try clear c1
            try clear c2
            try clear p2
            try clear q2
            try clear hx2
            try clear c3
            try clear c4
            try clear c5
            try clear c6
            try clear c6b0
            try clear c6b1
            try clear c14
            try clear c15
            try clear c16
            try clear c17
            try clear c17b0
            try clear c18
            try clear c18b0
            try clear c22
            try clear c25
            try clear c26
            try clear p26
            try clear q26
            try clear hx26
            try clear c27
            try clear c29
            try clear c39
            try clear c46
            try clear c50
            try clear hcz20_0
            try clear hcz20_1
            try clear hcz20_2
            try clear hcz20_3
            try clear hcz20_4
            try clear hcz20_5
            try clear hcz20_6
            try clear hcz20_7
            try clear hcz20_8
            try clear hcz23_0
            try clear hcz23_1
            try clear hcz23_2
            try clear hcz23_3
            try clear hcz23_4
            try clear hcz23_5
            try clear hcz30_0
            try clear hcz30_1
            try clear hcz30_2
            try clear hcz30_3
            try clear hcz30_4
            try clear hcz30_5
            try clear hcz30_6
            try clear hcz30_7
            try clear hcz30_8
            try clear hcz31_0
            try clear hcz31_1
            try clear hcz31_2
            try clear hcz31_3
            try clear hcz31_4
            try clear hcz31_5
            try clear hcz33_0
            try clear hcz33_1
            try clear hcz33_2
            try clear hcz33_3
            try clear hcz33_4
            try clear hcz33_5
            try clear hcz33_6
            try clear hcz33_7
            try clear hcz33_8
            try clear hcz34_0
            try clear hcz34_1
            try clear hcz34_2
            try clear hcz34_3
            try clear hcz34_4
            try clear hcz34_5
            try clear hcz36_0
            try clear hcz36_1
            try clear hcz36_2
            try clear hcz36_3
            try clear hcz36_4
            try clear hcz36_5
            try clear hcz36_6
            try clear hcz36_7
            try clear hcz36_8
            try clear hcz37_0
            try clear hcz37_1
            try clear hcz37_2
            try clear hcz37_3
            try clear hcz37_4
            try clear hcz37_5
            try clear hcz40_0
            try clear hcz40_1
            try clear hcz40_2
            try clear hcz40_3
            try clear hcz40_4
            try clear hcz40_5
            try clear hcz40_6
            try clear hcz40_7
            try clear hcz40_8
            try clear hcz41_0
            try clear hcz41_1
            try clear hcz41_2
            try clear hcz41_3
            try clear hcz41_4
            try clear hcz41_5
            try clear hcz43_0
            try clear hcz43_1
            try clear hcz43_2
            try clear hcz43_3
            try clear hcz43_4
            try clear hcz43_5
            try clear hcz43_6
            try clear hcz43_7
            try clear hcz43_8
            try clear hcz44_0
            try clear hcz44_1
            try clear hcz44_2
            try clear hcz44_3
            try clear hcz44_4
            try clear hcz44_5
            try clear hcz47_0
            try clear hcz47_1
            try clear hcz47_2
            try clear hcz47_3
            try clear hcz47_4
            try clear hcz47_5
            try clear hcz47_6
            try clear hcz47_7
            try clear hcz47_8
            try clear hcz48_0
            try clear hcz48_1
            try clear hcz48_2
            try clear hcz48_3
            try clear hcz48_4
            try clear hcz48_5
            try clear hfz20_0
            try clear hfz20_1
            try clear hfz20_2
            try clear hfz20_3
            try clear hfz20_4
            try clear hfz20_5
            try clear hfz20_6
            try clear hfz20_7
            try clear hfz20_8
            try clear hfz23_0
            try clear hfz23_1
            try clear hfz23_2
            try clear hfz23_3
            try clear hfz23_4
            try clear hfz23_5
            try clear hfz30_0
            try clear hfz30_1
            try clear hfz30_2
            try clear hfz30_3
            try clear hfz30_4
            try clear hfz30_5
            try clear hfz30_6
            try clear hfz30_7
            try clear hfz30_8
            try clear hfz31_0
            try clear hfz31_1
            try clear hfz31_2
            try clear hfz31_3
            try clear hfz31_4
            try clear hfz31_5
            try clear hfz33_0
            try clear hfz33_1
            try clear hfz33_2
            try clear hfz33_3
            try clear hfz33_4
            try clear hfz33_5
            try clear hfz33_6
            try clear hfz33_7
            try clear hfz33_8
            try clear hfz34_0
            try clear hfz34_1
            try clear hfz34_2
            try clear hfz34_3
            try clear hfz34_4
            try clear hfz34_5
            try clear hfz36_0
            try clear hfz36_1
            try clear hfz36_2
            try clear hfz36_3
            try clear hfz36_4
            try clear hfz36_5
            try clear hfz36_6
            try clear hfz36_7
            try clear hfz36_8
            try clear hfz37_0
            try clear hfz37_1
            try clear hfz37_2
            try clear hfz37_3
            try clear hfz37_4
            try clear hfz37_5
            try clear hfz40_0
            try clear hfz40_1
            try clear hfz40_2
            try clear hfz40_3
            try clear hfz40_4
            try clear hfz40_5
            try clear hfz40_6
            try clear hfz40_7
            try clear hfz40_8
            try clear hfz41_0
            try clear hfz41_1
            try clear hfz41_2
            try clear hfz41_3
            try clear hfz41_4
            try clear hfz41_5
            try clear hfz43_0
            try clear hfz43_1
            try clear hfz43_2
            try clear hfz43_3
            try clear hfz43_4
            try clear hfz43_5
            try clear hfz43_6
            try clear hfz43_7
            try clear hfz43_8
            try clear hfz44_0
            try clear hfz44_1
            try clear hfz44_2
            try clear hfz44_3
            try clear hfz44_4
            try clear hfz44_5
            try clear hfz47_0
            try clear hfz47_1
            try clear hfz47_2
            try clear hfz47_3
            try clear hfz47_4
            try clear hfz47_5
            try clear hfz47_6
            try clear hfz47_7
            try clear hfz47_8
            try clear hfz48_0
            try clear hfz48_1
            try clear hfz48_2
            try clear hfz48_3
            try clear hfz48_4
            try clear hfz48_5
            try clear hx264_0
            try clear hx264_1
            try clear hx264_2
            try clear hx264_3
            try clear hx264_4
            try clear hx264_5
            try clear p2
            try clear p26
            try clear p264
            try clear q2
            try clear q26
            try clear q264
            obtain ⟨x3_4, x6_4, rfl, HA, HK4, HO_3, BK258, BK265, HB⟩ := hrel
            cases gk with
            | zero => exact absurd HA.out (by simp [spec_ValidDevice.l1])
            | succ k4 =>
             have H := HA.out
             clear HA
             simp only [spec_ValidDevice.l1] at H
             by_cases c51 : x6_4 < (((rd_T50 l0_8 x4_2).f1).length : Int)
             ·rw [if_pos c51] at H
              have c51b0:decide (x6_4 < (((rd_T50 l0_8 x4_2).f1).length:Int))=true:=decide_eq_true c51
              clear c51
              by_cases c52 : 0 ≤ x6_4
              ·rw [if_pos c52] at H
               have c52b0 : decide (0 ≤ x6_4) = true := decide_eq_true c52
               clear c52
               replace H := Option.bind_eq_some_iff.mp H
               obtain ⟨t270, A530, H⟩ := H
               replace H:(if t270=true then (some false) else (if x3_4.length < 17592186044416 then (spec_ValidDevice.l1 k4 (x3_4 ++ [rd ((rd_T50 l0_8 x4_2).f1) x6_4]) x4_2 (wrap64 (x6_4+1)) a0_0 a0_1 a0_2 l0_3 a0_4 a0_5 a0_6 a0_7 l0_8 ((rd_T50 l0_8 x4_2).f0) ((rd_T50 l0_8 x4_2).f1) ((rd_T50 l0_8 x4_2).f2) ((rd_T50 l0_8 x4_2).f3) ((rd_T50 l0_8 x4_2).f4) ((rd_T50 l0_8 x4_2).f5)) else (none)))=some r:=H
               have A53 := Aside0.mk A530
               clear A530
               by_cases c54 : t270 = true
               ·subst c54
                have H1 : (some false) = some r := by rw [if_pos rfl] at H; exact H
                clear H
                have H := H1
                clear H1
                obtain rfl := Option.some.inj H
                have hnb55 := NB265_258.out
                have hnc55 := NB258_265.out
                have hcz56_0:wr.cell? ⟨gb265,0,none⟩=some (.int .i64 ((rd_T50 l0_8 x4_2).f0)):=(blk_cell BK265.out 0).trans rfl
                have hcz56_1:wr.cell? ⟨gb265,1,none⟩=some (.slice A264_1 ((rd_T50 l0_8 x4_2).f1).length c264_1):=(blk_cell BK265.out 1).trans rfl
                have hcz56_2:wr.cell? ⟨gb265,2,none⟩=some (.int .i64 ((rd_T50 l0_8 x4_2).f2)):=(blk_cell BK265.out 2).trans rfl
                have hcz56_3:wr.cell? ⟨gb265,3,none⟩=some (.int .i64 ((rd_T50 l0_8 x4_2).f3)):=(blk_cell BK265.out 3).trans rfl
                have hcz56_4:wr.cell? ⟨gb265,4,none⟩=some (.slice A264_4 ((rd_T50 l0_8 x4_2).f4).length c264_4):=(blk_cell BK265.out 4).trans rfl
                have hcz56_5:wr.cell? ⟨gb265,5,none⟩=some (.slice A264_5 ((rd_T50 l0_8 x4_2).f5).length c264_5):=(blk_cell BK265.out 5).trans rfl
                have hfz56_0 := blk_frozen BK265.out 0
                have hfz56_1 := blk_frozen BK265.out 1
                have hfz56_2 := blk_frozen BK265.out 2
                have hfz56_3 := blk_frozen BK265.out 3
                have hfz56_4 := blk_frozen BK265.out 4
                have hfz56_5 := blk_frozen BK265.out 5
                have p269:0≤(x6_4:Int):=of_decide_eq_true (by first|(with_reducible assumption)|assumption)
                have q269:x6_4 < (((rd_T50 l0_8 x4_2).f1).length:Int):=of_decide_eq_true (by first|(with_reducible assumption)|assumption)
                obtain ⟨ad269,e269,hx269_0⟩:=Kd.at_int HR264_1.out x6_4 p269 q269
                cases e269
                replace hx269_0:=(HB.out.cell (World.block_lt_of_cell? w _ hx269_0)).trans hx269_0
                replace p269 := eq_true p269
                replace q269 := eq_true q269
                obtain ⟨Ao57, co57, eo57⟩ := Kd.R_slice HO_3.out
                subst eo57
                go_wp2_with (first|((with_reducible refine gate_callee (f:=19) rfl ?_);refine goesL_ (some 75) rfl rfl Try.func19 (by kernel_rfl) rfl #[.slice Ao57 x3_4.length co57,.int .i64 (rd ((rd_T50 l0_8 x4_2).f1) x6_4)] rfl (by (try simp only [List.map_toArray,List.map_cons,List.map_nil]);first|done|rfl|(simp only [List.length_drop,List.length_take];rfl)) ?_;(with_reducible refine (spec_l00Has.calls k4 _ _ x3_4 (rd ((rd_T50 l0_8 x4_2).f1) x6_4) true _ ?side1 ?side2 A53.out).mono ?_);(case side1=>repeat (first|exact (Kd.R_reads' HO_3.out).2.2|(with_reducible refine Kd.C_alloc ?_ _)|(with_reducible refine Kd.C_drewN ?_ _)|(with_reducible refine Kd.C_drew ?_)));(case side2=>exact (Kd.R_reads' HO_3.out).2.1);rintro e w' ⟨rfl,⟨nd,rfl⟩⟩;refine ⟨_,rfl,?_⟩))
                go_ret
                exact ⟨by first|rfl|(simp [errW_none,errW_some] <;> rfl)|(simp [*,errW_none,errW_some] <;> rfl),by repeat (first|(with_reducible first|exact HB.out|apply bA11_|apply bN11_|apply bD11_|refine bS11_ ?_ GE258.out|refine bS11_ ?_ GE265.out)|exact HB.out)⟩
               ·replace c54 := Bool.eq_false_iff.mpr c54
                subst c54
                have H1:(if x3_4.length < 17592186044416 then (spec_ValidDevice.l1 k4 (x3_4 ++ [rd ((rd_T50 l0_8 x4_2).f1) x6_4]) x4_2 (wrap64 (x6_4+1)) a0_0 a0_1 a0_2 l0_3 a0_4 a0_5 a0_6 a0_7 l0_8 ((rd_T50 l0_8 x4_2).f0) ((rd_T50 l0_8 x4_2).f1) ((rd_T50 l0_8 x4_2).f2) ((rd_T50 l0_8 x4_2).f3) ((rd_T50 l0_8 x4_2).f4) ((rd_T50 l0_8 x4_2).f5)) else (none))=some r:=by rw [if_neg (show ¬ (false=true) by decide)] at H;exact H
                clear H
                have H := H1
                clear H1
                by_cases c58 : x3_4.length < 17592186044416
                ·rw [if_pos c58] at H
                 have LMc58 := Aside0.mk c58
                 clear c58
                 obtain ⟨y272,hy272⟩:∃ y_:List Int,y_=(x3_4 ++ [rd ((rd_T50 l0_8 x4_2).f1) x6_4]):=⟨_,rfl⟩
                 replace H:(spec_ValidDevice.l1 k4 y272 x4_2 (wrap64 (x6_4+1)) a0_0 a0_1 a0_2 l0_3 a0_4 a0_5 a0_6 a0_7 l0_8 ((rd_T50 l0_8 x4_2).f0) ((rd_T50 l0_8 x4_2).f1) ((rd_T50 l0_8 x4_2).f2) ((rd_T50 l0_8 x4_2).f3) ((rd_T50 l0_8 x4_2).f4) ((rd_T50 l0_8 x4_2).f5))=some r:=by first|(rw [hy272];with_reducible exact H)|(have H2_:=(Option.bind_some _ _).symm.trans H;rw [hy272];with_reducible exact H2_)|(have H2_:=(Option.bind_some _ _).symm.trans H;with_reducible exact H2_)|with_reducible exact H|(rw [hy272];exact H)|exact H
                 have Ny272 := Aside0.mk hy272
                 clear hy272
                 have H' := Aside0.mk H
                 clear H
                 have hnb59 := NB265_258.out
                 have hnc59 := NB258_265.out
                 have hcz60_0:wr.cell? ⟨gb265,0,none⟩=some (.int .i64 ((rd_T50 l0_8 x4_2).f0)):=(blk_cell BK265.out 0).trans rfl
                 have hcz60_1:wr.cell? ⟨gb265,1,none⟩=some (.slice A264_1 ((rd_T50 l0_8 x4_2).f1).length c264_1):=(blk_cell BK265.out 1).trans rfl
                 have hcz60_2:wr.cell? ⟨gb265,2,none⟩=some (.int .i64 ((rd_T50 l0_8 x4_2).f2)):=(blk_cell BK265.out 2).trans rfl
                 have hcz60_3:wr.cell? ⟨gb265,3,none⟩=some (.int .i64 ((rd_T50 l0_8 x4_2).f3)):=(blk_cell BK265.out 3).trans rfl
                 have hcz60_4:wr.cell? ⟨gb265,4,none⟩=some (.slice A264_4 ((rd_T50 l0_8 x4_2).f4).length c264_4):=(blk_cell BK265.out 4).trans rfl
                 have hcz60_5:wr.cell? ⟨gb265,5,none⟩=some (.slice A264_5 ((rd_T50 l0_8 x4_2).f5).length c264_5):=(blk_cell BK265.out 5).trans rfl
                 have hfz60_0 := blk_frozen BK265.out 0
                 have hfz60_1 := blk_frozen BK265.out 1
                 have hfz60_2 := blk_frozen BK265.out 2
                 have hfz60_3 := blk_frozen BK265.out 3
                 have hfz60_4 := blk_frozen BK265.out 4
                 have hfz60_5 := blk_frozen BK265.out 5
                 have p269:0≤(x6_4:Int):=of_decide_eq_true (by first|(with_reducible assumption)|assumption)
                 have q269:x6_4 < (((rd_T50 l0_8 x4_2).f1).length:Int):=of_decide_eq_true (by first|(with_reducible assumption)|assumption)
                 obtain ⟨ad269,e269,hx269_0⟩:=Kd.at_int HR264_1.out x6_4 p269 q269
                 cases e269
                 replace hx269_0:=(HB.out.cell (World.block_lt_of_cell? w _ hx269_0)).trans hx269_0
                 replace p269 := eq_true p269
                 replace q269 := eq_true q269
                 obtain ⟨Ao61, co61, eo61⟩ := Kd.R_slice HO_3.out
                 subst eo61
                 go_wp2_with (first|((with_reducible refine gate_callee (f:=19) rfl ?_);refine goesL_ (some 75) rfl rfl Try.func19 (by kernel_rfl) rfl #[.slice Ao61 x3_4.length co61,.int .i64 (rd ((rd_T50 l0_8 x4_2).f1) x6_4)] rfl (by (try simp only [List.map_toArray,List.map_cons,List.map_nil]);first|done|rfl|(simp only [List.length_drop,List.length_take];rfl)) ?_;(with_reducible refine (spec_l00Has.calls k4 _ _ x3_4 (rd ((rd_T50 l0_8 x4_2).f1) x6_4) false _ ?side1 ?side2 A53.out).mono ?_);(case side1=>repeat (first|exact (Kd.R_reads' HO_3.out).2.2|(with_reducible refine Kd.C_alloc ?_ _)|(with_reducible refine Kd.C_drewN ?_ _)|(with_reducible refine Kd.C_drew ?_)));(case side2=>exact (Kd.R_reads' HO_3.out).2.1);rintro e w' ⟨rfl,⟨nd,rfl⟩⟩;refine ⟨_,rfl,?_⟩;have p271:0≤(x6_4:Int):=of_decide_eq_true (by first|(with_reducible assumption)|assumption);have q271:x6_4 < (((rd_T50 l0_8 x4_2).f1).length:Int):=of_decide_eq_true (by first|(with_reducible assumption)|assumption);obtain ⟨ad271,e271,hx271_0⟩:=Kd.at_int HR264_1.out x6_4 p271 q271;obtain rfl:ad269=ad271:=(by injection e271);replace hx271_0:=(HB.out.cell (World.block_lt_of_cell? w _ hx271_0)).trans hx271_0;replace p271:=eq_true p271;replace q271:=eq_true q271)|((with_reducible refine gate_builtin (b:=.append) (xs:=#[.tmp 76,.tmp 82]) rfl ?_);(try (refine gate_guard (by rfl) ?_;dsimp only));at_builtin;refine Kd.R_append (Kd.int .i64) (w0:=w) w.heap.size rfl (.tmp 76) (.tmp 82) 47 2 (.int .i64 0) 8 rfl Try.underlying47 info2 rfl (by decide) (by omega) (.slice Ao61 x3_4.length co61) x3_4 (rd ((rd_T50 l0_8 x4_2).f1) x6_4) [.int .i64 (rd ((rd_T50 l0_8 x4_2).f1) x6_4)] (fun _=>True) (fun _=>False) rfl rfl ?aP (fun _ hk=>hk.elim) ?aF ?aO ?aB ?aS ?aL ?_;(case aP=>exact rfl);(case aB=>exact (by repeat (first|(with_reducible first|exact HB.out|apply bA11_|apply bN11_|apply bD11_|refine bS11_ ?_ GE258.out|refine bS11_ ?_ GE265.out)|exact HB.out)));(case aF=>exact (fun _ _=>trivial));(case aO=>exact (by (with_reducible repeat (first|apply Kd.R_alloc|apply rN11_|apply Kd.R_drew));exact HO_3.out));(case aS=>exact (bZ11_ (by repeat (first|(with_reducible first|exact HB.out|apply bA11_|apply bN11_|apply bD11_|refine bS11_ ?_ GE258.out|refine bS11_ ?_ GE265.out)|exact HB.out))));(case aL=>have:=LMc58.out;omega);intro v273 w62 ho hb hg hat;rw [← Ny272.out] at ho;have n0_:=mk11_ (blk_grown (g:=gb258) (o:=.cells #[.int .i64 a0_0,.int .i64 a0_1,.int .i64 a0_2,.slice A0_3 l0_3.length c0_3,.int .i64 a0_4,.int .i64 a0_5,.bool a0_6,.int .i64 a0_7,.slice (some ad264) l0_8.length c0_8] 38 (0,0)) (by (with_reducible repeat (first|refine kN11_ ?_ _|refine kD11_ ?_|refine blk_alloc ?_ _));exact BK258.out) hg (Kd.R_ne HO_3.out BK258.out (by decide)));have n1_:=mk11_ (blk_grown (g:=gb265) (o:=.cells #[.int .i64 ((rd_T50 l0_8 x4_2).f0),.slice (some ad269) ((rd_T50 l0_8 x4_2).f1).length c264_1,.int .i64 ((rd_T50 l0_8 x4_2).f2),.int .i64 ((rd_T50 l0_8 x4_2).f3),.slice A264_4 ((rd_T50 l0_8 x4_2).f4).length c264_4,.slice A264_5 ((rd_T50 l0_8 x4_2).f5).length c264_5] 50 (0,0)) (by (with_reducible repeat (first|refine kN11_ ?_ _|refine kD11_ ?_|refine blk_alloc ?_ _));exact BK265.out) hg (Kd.R_ne HO_3.out BK265.out (by decide)));have n2_:=mk11_ (hb);have n3_:=mk11_ (ho);clear BK258;clear BK265;clear HB;clear HO_3;have BK258:=n0_;have BK265:=n1_;have HB:=n2_;have HO274:=n3_;clear n0_ n1_ n2_ n3_;clear ho hb hg hat))
                 go_roundg k4
                 case measure=>have:=HJ1.out;have:=HK2.out;have:=HJ18.out;have:=HK4.out;omega
                 case rel=>exact ⟨(y272),(wrap64 (x6_4+1)),(by first|rfl|(simp;done)|(simp [*];done)),H',⟨by have:=HJ1.out;have:=HK2.out;have:=HJ18.out;have:=HK4.out;omega⟩,⟨by (with_reducible repeat (first|apply Kd.R_alloc|apply rN11_|apply Kd.R_drew));exact HO274.out⟩,⟨by (with_reducible repeat (first|refine kN11_ ?_ _|refine kD11_ ?_|refine blk_alloc ?_ _));exact BK258.out⟩,⟨by (with_reducible repeat (first|refine kN11_ ?_ _|refine kD11_ ?_|refine blk_alloc ?_ _));exact BK265.out⟩,⟨by repeat (first|(with_reducible first|exact HB.out|apply bA11_|apply bN11_|apply bD11_|refine bS11_ ?_ GE258.out|refine bS11_ ?_ GE265.out)|exact HB.out)⟩⟩
                ·rw [if_neg c58] at H
                 exact absurd H (by simp)
              ·rw [if_neg c52] at H
               exact absurd H (by simp)
             ·rw [if_neg c51] at H
              have c51b0:decide (x6_4 < (((rd_T50 l0_8 x4_2).f1).length:Int))=false:=decide_eq_false c51
              clear c51
              have H' := Aside0.mk H
              clear H
              have hnb63 := NB265_258.out
              have hnc63 := NB258_265.out
              have hcz64_0:wr.cell? ⟨gb265,0,none⟩=some (.int .i64 ((rd_T50 l0_8 x4_2).f0)):=(blk_cell BK265.out 0).trans rfl
              have hcz64_1:wr.cell? ⟨gb265,1,none⟩=some (.slice A264_1 ((rd_T50 l0_8 x4_2).f1).length c264_1):=(blk_cell BK265.out 1).trans rfl
              have hcz64_2:wr.cell? ⟨gb265,2,none⟩=some (.int .i64 ((rd_T50 l0_8 x4_2).f2)):=(blk_cell BK265.out 2).trans rfl
              have hcz64_3:wr.cell? ⟨gb265,3,none⟩=some (.int .i64 ((rd_T50 l0_8 x4_2).f3)):=(blk_cell BK265.out 3).trans rfl
              have hcz64_4:wr.cell? ⟨gb265,4,none⟩=some (.slice A264_4 ((rd_T50 l0_8 x4_2).f4).length c264_4):=(blk_cell BK265.out 4).trans rfl
              have hcz64_5:wr.cell? ⟨gb265,5,none⟩=some (.slice A264_5 ((rd_T50 l0_8 x4_2).f5).length c264_5):=(blk_cell BK265.out 5).trans rfl
              have hfz64_0 := blk_frozen BK265.out 0
              have hfz64_1 := blk_frozen BK265.out 1
              have hfz64_2 := blk_frozen BK265.out 2
              have hfz64_3 := blk_frozen BK265.out 3
              have hfz64_4 := blk_frozen BK265.out 4
              have hfz64_5 := blk_frozen BK265.out 5
              go_wp2
              go_roundg k4
              case measure=>have:=HJ1.out;have:=HK2.out;have:=HJ18.out;have:=HK4.out;omega
              case rel=>exact ⟨(x3_4),(wrap64 (x4_2+1)),(by first|rfl|(simp;done)|(simp [*];done)),H',⟨by have:=HJ1.out;have:=HK2.out;have:=HJ18.out;have:=HK4.out;omega⟩,⟨by (with_reducible repeat (first|apply Kd.R_alloc|apply rN11_|apply Kd.R_drew));exact HO_3.out⟩,⟨by (with_reducible repeat (first|refine kN11_ ?_ _|refine kD11_ ?_|refine blk_alloc ?_ _));exact BK258.out⟩,⟨by repeat (first|(with_reducible first|exact HB.out|apply bA11_|apply bN11_|apply bD11_|refine bS11_ ?_ GE258.out|refine bS11_ ?_ GE265.out)|exact HB.out)⟩⟩
       ·rw [if_neg c18] at H
        exact absurd H (by simp)
      ·rw [if_neg c17] at H
       have c17b0 : decide (x4_2 < (l0_8.length : Int)) = false := decide_eq_false c17
       clear c17
       obtain rfl := Option.some.inj H
       have hcz65_0:wr.cell? ⟨gb258,0,none⟩=some (.int .i64 a0_0):=(blk_cell BK258.out 0).trans rfl
       have hcz65_1:wr.cell? ⟨gb258,1,none⟩=some (.int .i64 a0_1):=(blk_cell BK258.out 1).trans rfl
       have hcz65_2:wr.cell? ⟨gb258,2,none⟩=some (.int .i64 a0_2):=(blk_cell BK258.out 2).trans rfl
       have hcz65_3:wr.cell? ⟨gb258,3,none⟩=some (.slice A0_3 l0_3.length c0_3):=(blk_cell BK258.out 3).trans rfl
       have hcz65_4:wr.cell? ⟨gb258,4,none⟩=some (.int .i64 a0_4):=(blk_cell BK258.out 4).trans rfl
       have hcz65_5:wr.cell? ⟨gb258,5,none⟩=some (.int .i64 a0_5):=(blk_cell BK258.out 5).trans rfl
       have hcz65_6:wr.cell? ⟨gb258,6,none⟩=some (.bool a0_6):=(blk_cell BK258.out 6).trans rfl
       have hcz65_7:wr.cell? ⟨gb258,7,none⟩=some (.int .i64 a0_7):=(blk_cell BK258.out 7).trans rfl
       have hcz65_8:wr.cell? ⟨gb258,8,none⟩=some (.slice A0_8 l0_8.length c0_8):=(blk_cell BK258.out 8).trans rfl
       have hfz65_0 := blk_frozen BK258.out 0
       have hfz65_1 := blk_frozen BK258.out 1
       have hfz65_2 := blk_frozen BK258.out 2
       have hfz65_3 := blk_frozen BK258.out 3
       have hfz65_4 := blk_frozen BK258.out 4
       have hfz65_5 := blk_frozen BK258.out 5
       have hfz65_6 := blk_frozen BK258.out 6
       have hfz65_7 := blk_frozen BK258.out 7
       have hfz65_8 := blk_frozen BK258.out 8
       go_wp2
       go_ret
       exact ⟨by first|rfl|(simp [errW_none,errW_some] <;> rfl)|(simp [*,errW_none,errW_some] <;> rfl),by repeat (first|(with_reducible first|exact HB.out|apply bA11_|apply bN11_|apply bD11_|refine bS11_ ?_ GE258.out)|exact HB.out)⟩

end Go.Proofs.Ytdjbphffibcbeaa.Q
