/- The program's functions as Lean functions,and for each the proof that the machine's call comes to what its function says. Conditions: those that stand before each theorem. -/
import Derived.Test.YtdjbphffibcbeaaQ0
import Derived.Test.YtdjbphffibcbeaaQ4
import Derived.Test.YtdjbphffibcbeaaQ7
namespace Go.Proofs.Ytdjbphffibcbeaa.Q
open Go.RowKit Go.Proofs.YtdjbphffibcbeaaW.PrintWords Go.Proofs.YtdjbphffibcbeaaW.PrintLast Go.Proofs.YtdjbphffibcbeaaW.PrintMore
abbrev kN8_ := @blk_drewN
abbrev kD8_ := @blk_drew
abbrev rN8_ := @Kd.R_drewN
abbrev bA8_ := @below_alloc
abbrev bN8_ := @pw_below_drewN
abbrev bD8_ := @below_drew1
abbrev bS8_ := @below_set
abbrev mk8_ := @Aside0.mk
abbrev fZ8_ := @blk_frozen
abbrev sB8_ := @Kd.S_below
abbrev bT8_ := @below_step
abbrev bZ8_ := @below_size
set_option linter.unusedVariables false
set_option linter.unusedSimpArgs false

mutual
def spec_l16Counts.j0:Nat→Bool→Int→Int→Int→Int→List Int→Int→Int→List Int→List ByteArray→Option (Bool)
 | 0, _, _, _, _, _, _, _, _, _, _ => none
 | k+1,x21,x248000,x248001,x248002,x249000,x249001,x249002,x249003,x249004,x249005=>if x21=true then (some false) else (spec_l16Counts.l0 k 0 x248000 x248001 x248002 x249000 x249001 x249002 x249003 x249004 x249005)
def spec_l16Counts.l0:Nat→Int→Int→Int→Int→Int→List Int→Int→Int→List Int→List ByteArray→Option (Bool)
 | 0, _, _, _, _, _, _, _, _, _, _ => none
 | k+1,x5,x248000,x248001,x248002,x249000,x249001,x249002,x249003,x249004,x249005=>if x5 < (x249004.length:Int) then (if 0≤x5 then ((spec_l00In.f (rd x249004 x5) 1 (wrap64 (x248000 - 1))).bind fun t250=>(if t250=true then (spec_l16Counts.l0 k (wrap64 (x5+1)) x248000 x248001 x248002 x249000 x249001 x249002 x249003 x249004 x249005) else (some false))) else (none)) else (spec_l16Counts.l1 k 0 x249000 x249001 x249002 x249003 x249004 x249005)
def spec_l16Counts.l1:Nat→Int→Int→List Int→Int→Int→List Int→List ByteArray→Option (Bool)
 | 0, _, _, _, _, _, _, _ => none
 | k+1,x6,x249000,x249001,x249002,x249003,x249004,x249005=>if x6 < (x249005.length:Int) then (if 0≤x6 then (if ((rdOf ByteArray.empty x249005 x6).size:Int) > 64 then (some false) else (spec_l16Counts.l1 k (wrap64 (x6+1)) x249000 x249001 x249002 x249003 x249004 x249005)) else (none)) else ((spec_l16Sum.f k x249004).bind fun t252=>(if x249003=t252 then (some (x249002 == (wrap64 (x249003+(x249005.length:Int))))) else (some false)))
end
def spec_l16Counts.f (k:Nat) (a0_0:Int) (a0_1:Int) (a0_2:Int) (a1_0:Int) (l1_1:List Int) (a1_2:Int) (a1_3:Int) (l1_4:List Int) (l1_5:List ByteArray):Option (Bool):=if (l1_4.length:Int) > a0_2 then (spec_l16Counts.j0 k true a0_0 a0_1 a0_2 a1_0 l1_1 a1_2 a1_3 l1_4 l1_5) else (spec_l16Counts.j0 k (decide ((l1_5.length:Int) ≥ (wrap64 (a0_0 - 1)))) a0_0 a0_1 a0_2 a1_0 l1_1 a1_2 a1_3 l1_4 l1_5)
set_option maxHeartbeats 8000000 in
set_option maxRecDepth 100000 in
theorem spec_l16Counts.calls (k:Nat) (a0_0:Int) (a0_1:Int) (a0_2:Int) (a1_0:Int) (A1_1:Option Addr) (c1_1:Nat) (l1_1:List Int) (a1_2:Int) (a1_3:Int) (A1_4:Option Addr) (c1_4:Nat) (l1_4:List Int) (A1_5:Option Addr) (c1_5:Nat) (l1_5:List ByteArray) (r:Bool) (w:World) (hr1_1:Kd.C (Kd.int .i64) w A1_1 l1_1.length l1_1) (hc1_1:l1_1.length≤c1_1) (hr1_4:Kd.C (Kd.int .i64) w A1_4 l1_4.length l1_4) (hc1_4:l1_4.length≤c1_4) (hr1_5:Kd.C Kd.string w A1_5 l1_5.length l1_5) (hc1_5:l1_5.length≤c1_5) (h:spec_l16Counts.f k a0_0 a0_1 a0_2 a1_0 l1_1 a1_2 a1_3 l1_4 l1_5=some r) :
  Calls Try.prog 17 #[.agg #[.int .i64 a0_0,.int .i64 a0_1,.int .i64 a0_2],.agg #[.int .i64 a1_0,.slice A1_1 l1_1.length c1_1,.int .i64 a1_2,.int .i64 a1_3,.slice A1_4 l1_4.length c1_4,.slice A1_5 l1_5.length c1_5]] w fun e w'=>e=.returned (.bool r)∧Below w.heap.size w w':=by
 have hu32 := Try.underlying32
 have hu50 := Try.underlying50
 have HR1_1 := Aside0.mk hr1_1
 have HC1_1 := Aside0.mk hc1_1
 clear hr1_1 hc1_1
 have HR1_4 := Aside0.mk hr1_4
 have HC1_4 := Aside0.mk hc1_4
 clear hr1_4 hc1_4
 have HR1_5 := Aside0.mk hr1_5
 have HC1_5 := Aside0.mk hc1_5
 clear hr1_5 hc1_5
 have HB := Aside0.mk (Below.refl w.heap.size w)
 have H:(if (l1_4.length:Int) > a0_2 then (spec_l16Counts.j0 k true a0_0 a0_1 a0_2 a1_0 l1_1 a1_2 a1_3 l1_4 l1_5) else (spec_l16Counts.j0 k (decide ((l1_5.length:Int) ≥ (wrap64 (a0_0 - 1)))) a0_0 a0_1 a0_2 a1_0 l1_1 a1_2 a1_3 l1_4 l1_5))=some r:=h
 clear h
 have HC3 := Aside0.mk H
 clear H
 go_enter Try.func17, Try.ntmps17
 go_upto_region 1 with (first|((with_reducible refine gate_dst (N:=2) rfl ?_);(try (refine gate_guard (by rfl) ?_;dsimp only));refine box_event ?hg (N:=2) ?hd (cs:=#[.int .i64 a0_0,.int .i64 a0_1,.int .i64 a0_2]) (t:=32) ?hr ?_;(case hd=>rfl);(case hg=>rfl);(case hr=>first|(go_simp;done)|(go_simp;rfl));intro gb247 hg w4 hbox hb;have n0_:=mk8_ (bT8_ (by repeat (first|(with_reducible first|exact HB.out|apply bA8_|apply bN8_|apply bD8_)|exact HB.out)) hb);have n1_:=mk8_ (hbox);have n2_:=mk8_ ((by rw [hg];exact (bZ8_ (by repeat (first|(with_reducible first|exact HB.out|apply bA8_|apply bN8_|apply bD8_)|exact HB.out))):w.heap.size≤gb247));have n3_:=mk8_ ((by rw [hg];exact (bZ8_ (by repeat (first|(with_reducible first|exact HB.out|apply bA8_|apply bN8_|apply bD8_)|exact HB.out))):w.heap.size≤gb247));clear HB;have HB:=n0_;have BK247:=n1_;have GW247:=n2_;have GE247:=n3_;clear n0_ n1_ n2_ n3_;clear hb hbox hg)|((with_reducible refine gate_dst (N:=3) rfl ?_);(try (refine gate_guard (by rfl) ?_;dsimp only));refine box_event ?hg (N:=3) ?hd (cs:=#[.int .i64 a1_0,.slice A1_1 l1_1.length c1_1,.int .i64 a1_2,.int .i64 a1_3,.slice A1_4 l1_4.length c1_4,.slice A1_5 l1_5.length c1_5]) (t:=50) ?hr ?_;(case hd=>rfl);(case hg=>rfl);(case hr=>first|(go_simp;done)|(go_simp;rfl));intro gb248 hg w5 hbox hb;have n0_:=mk8_ (blk_below (g:=gb247) (o:=.cells #[.int .i64 a0_0,.int .i64 a0_1,.int .i64 a0_2] 32 (0,0)) (by (with_reducible repeat (first|refine kN8_ ?_ _|refine kD8_ ?_|refine blk_alloc ?_ _));exact BK247.out) hb);have n1_:=mk8_ (bT8_ (by repeat (first|(with_reducible first|exact HB.out|apply bA8_|apply bN8_|apply bD8_|refine bS8_ ?_ GE247.out)|exact HB.out)) hb);have n2_:=mk8_ (hbox);have n3_:=mk8_ ((by rw [hg];exact (bZ8_ (by repeat (first|(with_reducible first|exact HB.out|apply bA8_|apply bN8_|apply bD8_|refine bS8_ ?_ GE247.out)|exact HB.out))):w.heap.size≤gb248));have n4_:=mk8_ ((by rw [hg];exact (bZ8_ (by repeat (first|(with_reducible first|exact HB.out|apply bA8_|apply bN8_|apply bD8_|refine bS8_ ?_ GE247.out)|exact HB.out))):w.heap.size≤gb248));have n5_:=mk8_ ((by rw [hg];exact Nat.ne_of_lt (blk_lt (g:=gb247) (o:=.cells #[.int .i64 a0_0,.int .i64 a0_1,.int .i64 a0_2] 32 (0,0)) (by (with_reducible repeat (first|refine kN8_ ?_ _|refine kD8_ ?_|refine blk_alloc ?_ _));exact BK247.out)):gb247≠gb248));have n6_:=mk8_ ((by rw [hg];exact Nat.ne_of_gt (blk_lt (g:=gb247) (o:=.cells #[.int .i64 a0_0,.int .i64 a0_1,.int .i64 a0_2] 32 (0,0)) (by (with_reducible repeat (first|refine kN8_ ?_ _|refine kD8_ ?_|refine blk_alloc ?_ _));exact BK247.out)):gb248≠gb247));clear BK247;clear HB;have BK247:=n0_;have HB:=n1_;have BK248:=n2_;have GW248:=n3_;have GE248:=n4_;have NB247_248:=n5_;have NB248_247:=n6_;clear n0_ n1_ n2_ n3_ n4_ n5_ n6_;clear hb hbox hg))
 repeat (go_quiet (first|((with_reducible refine gate_dst (N:=2) rfl ?_);(try (refine gate_guard (by rfl) ?_;dsimp only));refine box_event ?hg (N:=2) ?hd (cs:=#[.int .i64 a0_0,.int .i64 a0_1,.int .i64 a0_2]) (t:=32) ?hr ?_;(case hd=>rfl);(case hg=>rfl);(case hr=>first|(go_simp;done)|(go_simp;rfl));intro gb247 hg w4 hbox hb;have n0_:=mk8_ (bT8_ (by repeat (first|(with_reducible first|exact HB.out|apply bA8_|apply bN8_|apply bD8_)|exact HB.out)) hb);have n1_:=mk8_ (hbox);have n2_:=mk8_ ((by rw [hg];exact (bZ8_ (by repeat (first|(with_reducible first|exact HB.out|apply bA8_|apply bN8_|apply bD8_)|exact HB.out))):w.heap.size≤gb247));have n3_:=mk8_ ((by rw [hg];exact (bZ8_ (by repeat (first|(with_reducible first|exact HB.out|apply bA8_|apply bN8_|apply bD8_)|exact HB.out))):w.heap.size≤gb247));clear HB;have HB:=n0_;have BK247:=n1_;have GW247:=n2_;have GE247:=n3_;clear n0_ n1_ n2_ n3_;clear hb hbox hg)|((with_reducible refine gate_dst (N:=3) rfl ?_);(try (refine gate_guard (by rfl) ?_;dsimp only));refine box_event ?hg (N:=3) ?hd (cs:=#[.int .i64 a1_0,.slice A1_1 l1_1.length c1_1,.int .i64 a1_2,.int .i64 a1_3,.slice A1_4 l1_4.length c1_4,.slice A1_5 l1_5.length c1_5]) (t:=50) ?hr ?_;(case hd=>rfl);(case hg=>rfl);(case hr=>first|(go_simp;done)|(go_simp;rfl));intro gb248 hg w5 hbox hb;have n0_:=mk8_ (blk_below (g:=gb247) (o:=.cells #[.int .i64 a0_0,.int .i64 a0_1,.int .i64 a0_2] 32 (0,0)) (by (with_reducible repeat (first|refine kN8_ ?_ _|refine kD8_ ?_|refine blk_alloc ?_ _));exact BK247.out) hb);have n1_:=mk8_ (bT8_ (by repeat (first|(with_reducible first|exact HB.out|apply bA8_|apply bN8_|apply bD8_|refine bS8_ ?_ GE247.out)|exact HB.out)) hb);have n2_:=mk8_ (hbox);have n3_:=mk8_ ((by rw [hg];exact (bZ8_ (by repeat (first|(with_reducible first|exact HB.out|apply bA8_|apply bN8_|apply bD8_|refine bS8_ ?_ GE247.out)|exact HB.out))):w.heap.size≤gb248));have n4_:=mk8_ ((by rw [hg];exact (bZ8_ (by repeat (first|(with_reducible first|exact HB.out|apply bA8_|apply bN8_|apply bD8_|refine bS8_ ?_ GE247.out)|exact HB.out))):w.heap.size≤gb248));have n5_:=mk8_ ((by rw [hg];exact Nat.ne_of_lt (blk_lt (g:=gb247) (o:=.cells #[.int .i64 a0_0,.int .i64 a0_1,.int .i64 a0_2] 32 (0,0)) (by (with_reducible repeat (first|refine kN8_ ?_ _|refine kD8_ ?_|refine blk_alloc ?_ _));exact BK247.out)):gb247≠gb248));have n6_:=mk8_ ((by rw [hg];exact Nat.ne_of_gt (blk_lt (g:=gb247) (o:=.cells #[.int .i64 a0_0,.int .i64 a0_1,.int .i64 a0_2] 32 (0,0)) (by (with_reducible repeat (first|refine kN8_ ?_ _|refine kD8_ ?_|refine blk_alloc ?_ _));exact BK247.out)):gb248≠gb247));clear BK247;clear HB;have BK247:=n0_;have HB:=n1_;have BK248:=n2_;have GW248:=n3_;have GE248:=n4_;have NB247_248:=n5_;have NB248_247:=n6_;clear n0_ n1_ n2_ n3_ n4_ n5_ n6_;clear hb hbox hg));go_upto_region 1 with (first|((with_reducible refine gate_dst (N:=2) rfl ?_);(try (refine gate_guard (by rfl) ?_;dsimp only));refine box_event ?hg (N:=2) ?hd (cs:=#[.int .i64 a0_0,.int .i64 a0_1,.int .i64 a0_2]) (t:=32) ?hr ?_;(case hd=>rfl);(case hg=>rfl);(case hr=>first|(go_simp;done)|(go_simp;rfl));intro gb247 hg w4 hbox hb;have n0_:=mk8_ (bT8_ (by repeat (first|(with_reducible first|exact HB.out|apply bA8_|apply bN8_|apply bD8_)|exact HB.out)) hb);have n1_:=mk8_ (hbox);have n2_:=mk8_ ((by rw [hg];exact (bZ8_ (by repeat (first|(with_reducible first|exact HB.out|apply bA8_|apply bN8_|apply bD8_)|exact HB.out))):w.heap.size≤gb247));have n3_:=mk8_ ((by rw [hg];exact (bZ8_ (by repeat (first|(with_reducible first|exact HB.out|apply bA8_|apply bN8_|apply bD8_)|exact HB.out))):w.heap.size≤gb247));clear HB;have HB:=n0_;have BK247:=n1_;have GW247:=n2_;have GE247:=n3_;clear n0_ n1_ n2_ n3_;clear hb hbox hg)|((with_reducible refine gate_dst (N:=3) rfl ?_);(try (refine gate_guard (by rfl) ?_;dsimp only));refine box_event ?hg (N:=3) ?hd (cs:=#[.int .i64 a1_0,.slice A1_1 l1_1.length c1_1,.int .i64 a1_2,.int .i64 a1_3,.slice A1_4 l1_4.length c1_4,.slice A1_5 l1_5.length c1_5]) (t:=50) ?hr ?_;(case hd=>rfl);(case hg=>rfl);(case hr=>first|(go_simp;done)|(go_simp;rfl));intro gb248 hg w5 hbox hb;have n0_:=mk8_ (blk_below (g:=gb247) (o:=.cells #[.int .i64 a0_0,.int .i64 a0_1,.int .i64 a0_2] 32 (0,0)) (by (with_reducible repeat (first|refine kN8_ ?_ _|refine kD8_ ?_|refine blk_alloc ?_ _));exact BK247.out) hb);have n1_:=mk8_ (bT8_ (by repeat (first|(with_reducible first|exact HB.out|apply bA8_|apply bN8_|apply bD8_|refine bS8_ ?_ GE247.out)|exact HB.out)) hb);have n2_:=mk8_ (hbox);have n3_:=mk8_ ((by rw [hg];exact (bZ8_ (by repeat (first|(with_reducible first|exact HB.out|apply bA8_|apply bN8_|apply bD8_|refine bS8_ ?_ GE247.out)|exact HB.out))):w.heap.size≤gb248));have n4_:=mk8_ ((by rw [hg];exact (bZ8_ (by repeat (first|(with_reducible first|exact HB.out|apply bA8_|apply bN8_|apply bD8_|refine bS8_ ?_ GE247.out)|exact HB.out))):w.heap.size≤gb248));have n5_:=mk8_ ((by rw [hg];exact Nat.ne_of_lt (blk_lt (g:=gb247) (o:=.cells #[.int .i64 a0_0,.int .i64 a0_1,.int .i64 a0_2] 32 (0,0)) (by (with_reducible repeat (first|refine kN8_ ?_ _|refine kD8_ ?_|refine blk_alloc ?_ _));exact BK247.out)):gb247≠gb248));have n6_:=mk8_ ((by rw [hg];exact Nat.ne_of_gt (blk_lt (g:=gb247) (o:=.cells #[.int .i64 a0_0,.int .i64 a0_1,.int .i64 a0_2] 32 (0,0)) (by (with_reducible repeat (first|refine kN8_ ?_ _|refine kD8_ ?_|refine blk_alloc ?_ _));exact BK247.out)):gb248≠gb247));clear BK247;clear HB;have BK247:=n0_;have HB:=n1_;have BK248:=n2_;have GW248:=n3_;have GE248:=n4_;have NB247_248:=n5_;have NB248_247:=n6_;clear n0_ n1_ n2_ n3_ n4_ n5_ n6_;clear hb hbox hg)))
 (try simp only [Act.put, List.setIfInBounds_toArray, List.set_cons_zero, List.set_cons_succ])
 go_cut [21] (fun v21 wc=>∃ (kq:Nat) (x21_2:Bool),v21=.bool x21_2∧Aside0 (spec_l16Counts.j0 kq x21_2 a0_0 a0_1 a0_2 a1_0 l1_1 a1_2 a1_3 l1_4 l1_5=some r)∧Aside0 (kq≤k)∧Aside0 (wc.heap[gb247]?=some (.cells #[.int .i64 a0_0,.int .i64 a0_1,.int .i64 a0_2] 32 (0,0)))∧Aside0 (wc.heap[gb248]?=some (.cells #[.int .i64 a1_0,(.slice A1_1 l1_1.length c1_1),.int .i64 a1_2,.int .i64 a1_3,(.slice A1_4 l1_4.length c1_4),(.slice A1_5 l1_5.length c1_5)] 50 (0,0)))∧Aside0 (Below w.heap.size w wc))
 case first =>
  have H := HC3.out
  clear HC3
  by_cases c6 : (l1_4.length : Int) > a0_2
  ·rw [if_pos c6] at H
   have c6b0 : decide (a0_2 < (l1_4.length : Int)) = true := decide_eq_true c6
   clear c6
   (first | rw [c6b0] | (simp only [i64_w, i32_w]; rw [c6b0]) | skip)
   have H' := Aside0.mk H
   clear H
   have hnb7 := NB248_247.out
   have hnc7 := NB247_248.out
   have hcz8_0:w5.cell? ⟨gb248,0,none⟩=some (.int .i64 a1_0):=(blk_cell BK248.out 0).trans rfl
   have hcz8_1:w5.cell? ⟨gb248,1,none⟩=some (.slice A1_1 l1_1.length c1_1):=(blk_cell BK248.out 1).trans rfl
   have hcz8_2:w5.cell? ⟨gb248,2,none⟩=some (.int .i64 a1_2):=(blk_cell BK248.out 2).trans rfl
   have hcz8_3:w5.cell? ⟨gb248,3,none⟩=some (.int .i64 a1_3):=(blk_cell BK248.out 3).trans rfl
   have hcz8_4:w5.cell? ⟨gb248,4,none⟩=some (.slice A1_4 l1_4.length c1_4):=(blk_cell BK248.out 4).trans rfl
   have hcz8_5:w5.cell? ⟨gb248,5,none⟩=some (.slice A1_5 l1_5.length c1_5):=(blk_cell BK248.out 5).trans rfl
   have hfz8_0 := blk_frozen BK248.out 0
   have hfz8_1 := blk_frozen BK248.out 1
   have hfz8_2 := blk_frozen BK248.out 2
   have hfz8_3 := blk_frozen BK248.out 3
   have hfz8_4 := blk_frozen BK248.out 4
   have hfz8_5 := blk_frozen BK248.out 5
   have hcz9_0:w5.cell? ⟨gb247,0,none⟩=some (.int .i64 a0_0):=(blk_cell BK247.out 0).trans rfl
   have hcz9_1:w5.cell? ⟨gb247,1,none⟩=some (.int .i64 a0_1):=(blk_cell BK247.out 1).trans rfl
   have hcz9_2:w5.cell? ⟨gb247,2,none⟩=some (.int .i64 a0_2):=(blk_cell BK247.out 2).trans rfl
   have hfz9_0 := blk_frozen BK247.out 0
   have hfz9_1 := blk_frozen BK247.out 1
   have hfz9_2 := blk_frozen BK247.out 2
   go_wp2
   repeat (go_quiet (fail); try go_wp2)
   go_meet
   case rel=>exact ⟨_,(true),(by first|rfl|(simp;done)|(simp [*];done)),H',⟨by first|omega|exact Nat.le_refl _⟩,⟨by (with_reducible repeat (first|refine kN8_ ?_ _|refine kD8_ ?_|refine blk_alloc ?_ _));exact BK247.out⟩,⟨by (with_reducible repeat (first|refine kN8_ ?_ _|refine kD8_ ?_|refine blk_alloc ?_ _));exact BK248.out⟩,⟨by repeat (first|(with_reducible first|exact HB.out|apply bA8_|apply bN8_|apply bD8_|refine bS8_ ?_ GE247.out|refine bS8_ ?_ GE248.out)|exact HB.out)⟩⟩
  ·rw [if_neg c6] at H
   have c6b0 : decide (a0_2 < (l1_4.length : Int)) = false := decide_eq_false c6
   clear c6
   (first | rw [c6b0] | (simp only [i64_w, i32_w]; rw [c6b0]) | skip)
   have H' := Aside0.mk H
   clear H
   have hnb10 := NB248_247.out
   have hnc10 := NB247_248.out
   have hcz11_0:w5.cell? ⟨gb248,0,none⟩=some (.int .i64 a1_0):=(blk_cell BK248.out 0).trans rfl
   have hcz11_1:w5.cell? ⟨gb248,1,none⟩=some (.slice A1_1 l1_1.length c1_1):=(blk_cell BK248.out 1).trans rfl
   have hcz11_2:w5.cell? ⟨gb248,2,none⟩=some (.int .i64 a1_2):=(blk_cell BK248.out 2).trans rfl
   have hcz11_3:w5.cell? ⟨gb248,3,none⟩=some (.int .i64 a1_3):=(blk_cell BK248.out 3).trans rfl
   have hcz11_4:w5.cell? ⟨gb248,4,none⟩=some (.slice A1_4 l1_4.length c1_4):=(blk_cell BK248.out 4).trans rfl
   have hcz11_5:w5.cell? ⟨gb248,5,none⟩=some (.slice A1_5 l1_5.length c1_5):=(blk_cell BK248.out 5).trans rfl
   have hfz11_0 := blk_frozen BK248.out 0
   have hfz11_1 := blk_frozen BK248.out 1
   have hfz11_2 := blk_frozen BK248.out 2
   have hfz11_3 := blk_frozen BK248.out 3
   have hfz11_4 := blk_frozen BK248.out 4
   have hfz11_5 := blk_frozen BK248.out 5
   have hcz12_0:w5.cell? ⟨gb247,0,none⟩=some (.int .i64 a0_0):=(blk_cell BK247.out 0).trans rfl
   have hcz12_1:w5.cell? ⟨gb247,1,none⟩=some (.int .i64 a0_1):=(blk_cell BK247.out 1).trans rfl
   have hcz12_2:w5.cell? ⟨gb247,2,none⟩=some (.int .i64 a0_2):=(blk_cell BK247.out 2).trans rfl
   have hfz12_0 := blk_frozen BK247.out 0
   have hfz12_1 := blk_frozen BK247.out 1
   have hfz12_2 := blk_frozen BK247.out 2
   go_wp2
   repeat (go_quiet (fail); try go_wp2)
   go_meet
   case rel=>exact ⟨_,(decide ((l1_5.length:Int) ≥ (wrap64 (a0_0 - 1)))),(by first|rfl|(simp;done)|(simp [*];done)),H',⟨by first|omega|exact Nat.le_refl _⟩,⟨by (with_reducible repeat (first|refine kN8_ ?_ _|refine kD8_ ?_|refine blk_alloc ?_ _));exact BK247.out⟩,⟨by (with_reducible repeat (first|refine kN8_ ?_ _|refine kD8_ ?_|refine blk_alloc ?_ _));exact BK248.out⟩,⟨by repeat (first|(with_reducible first|exact HB.out|apply bA8_|apply bN8_|apply bD8_|refine bS8_ ?_ GE247.out|refine bS8_ ?_ GE248.out)|exact HB.out)⟩⟩
 case rest =>
  clear HC3
  try clear c1
  try clear p2
  try clear c6
  try clear c6b0
  try clear p6
  try clear c7
  try clear c10
  try clear hcz11_0
  try clear hcz11_1
  try clear hcz11_2
  try clear hcz11_3
  try clear hcz11_4
  try clear hcz11_5
  try clear hcz12_0
  try clear hcz12_1
  try clear hcz12_2
  try clear hcz8_0
  try clear hcz8_1
  try clear hcz8_2
  try clear hcz8_3
  try clear hcz8_4
  try clear hcz8_5
  try clear hcz9_0
  try clear hcz9_1
  try clear hcz9_2
  try clear hfz11_0
  try clear hfz11_1
  try clear hfz11_2
  try clear hfz11_3
  try clear hfz11_4
  try clear hfz11_5
  try clear hfz12_0
  try clear hfz12_1
  try clear hfz12_2
  try clear hfz8_0
  try clear hfz8_1
  try clear hfz8_2
  try clear hfz8_3
  try clear hfz8_4
  try clear hfz8_5
  try clear hfz9_0
  try clear hfz9_1
  try clear hfz9_2
  obtain ⟨kq, x21_2, rfl, HA, HJ2, BK247, BK248, HB⟩ := hcut
  cases kq with
  | zero => exact absurd HA.out (by simp [spec_l16Counts.j0])
  | succ kj2 =>
   have H := HA.out
   clear HA
   simp only [spec_l16Counts.j0] at H
   by_cases c13 : x21_2 = true
   ·subst c13
    have H1 : (some false) = some r := by rw [if_pos rfl] at H; exact H
    clear H
    have H := H1
    clear H1
    obtain rfl := Option.some.inj H
    go_wp2
    repeat (go_quiet (fail); try go_wp2)
    go_ret
    exact ⟨by first|rfl|(simp [errW_none,errW_some] <;> rfl)|(simp [*,errW_none,errW_some] <;> rfl),by repeat (first|(with_reducible first|exact HB.out|apply bA8_|apply bN8_|apply bD8_|refine bS8_ ?_ GE247.out|refine bS8_ ?_ GE248.out)|exact HB.out)⟩
   ·replace c13 := Bool.eq_false_iff.mpr c13
    subst c13
    have H1:(spec_l16Counts.l0 kj2 0 a0_0 a0_1 a0_2 a1_0 l1_1 a1_2 a1_3 l1_4 l1_5)=some r:=by rw [if_neg (show ¬ (false=true) by decide)] at H;exact H
    clear H
    have H := H1
    clear H1
    have H' := Aside0.mk H
    clear H
    go_wp2
    repeat (go_quiet (fail); try go_wp2)
    go_loopg [5] kj2 (fun kq v5 w'=>∃ (x5_2:Int),v5=.int .i64 x5_2∧Aside0 (spec_l16Counts.l0 kq x5_2 a0_0 a0_1 a0_2 a1_0 l1_1 a1_2 a1_3 l1_4 l1_5=some r)∧Aside0 (kq≤kj2)∧Aside0 (w'.heap[gb247]?=some (.cells #[.int .i64 a0_0,.int .i64 a0_1,.int .i64 a0_2] 32 (0,0)))∧Aside0 (w'.heap[gb248]?=some (.cells #[.int .i64 a1_0,(.slice A1_1 l1_1.length c1_1),.int .i64 a1_2,.int .i64 a1_3,(.slice A1_4 l1_4.length c1_4),(.slice A1_5 l1_5.length c1_5)] 50 (0,0)))∧Aside0 (Below w.heap.size w w'))
    case atStart=>exact ⟨(0),(by first|rfl|(simp;done)|(simp [*];done)),H',⟨Nat.le_refl _⟩,⟨by (with_reducible repeat (first|refine kN8_ ?_ _|refine kD8_ ?_|refine blk_alloc ?_ _));exact BK247.out⟩,⟨by (with_reducible repeat (first|refine kN8_ ?_ _|refine kD8_ ?_|refine blk_alloc ?_ _));exact BK248.out⟩,⟨by repeat (first|(with_reducible first|exact HB.out|apply bA8_|apply bN8_|apply bD8_|refine bS8_ ?_ GE247.out|refine bS8_ ?_ GE248.out)|exact HB.out)⟩⟩
    case round =>
     clear H'
     try clear c1
     try clear p2
     try clear c6
     try clear c6b0
     try clear p6
     try clear c7
     try clear c10
     try clear c13
     try clear hcz11_0
     try clear hcz11_1
     try clear hcz11_2
     try clear hcz11_3
     try clear hcz11_4
     try clear hcz11_5
     try clear hcz12_0
     try clear hcz12_1
     try clear hcz12_2
     try clear hcz8_0
     try clear hcz8_1
     try clear hcz8_2
     try clear hcz8_3
     try clear hcz8_4
     try clear hcz8_5
     try clear hcz9_0
     try clear hcz9_1
     try clear hcz9_2
     try clear hfz11_0
     try clear hfz11_1
     try clear hfz11_2
     try clear hfz11_3
     try clear hfz11_4
     try clear hfz11_5
     try clear hfz12_0
     try clear hfz12_1
     try clear hfz12_2
     try clear hfz8_0
     try clear hfz8_1
     try clear hfz8_2
     try clear hfz8_3
     try clear hfz8_4
     try clear hfz8_5
     try clear hfz9_0
     try clear hfz9_1
     try clear hfz9_2
     try clear p2
     try clear p6
     obtain ⟨x5_2, rfl, HA, HK2, BK247, BK248, HB⟩ := hrel
     cases gk with
     | zero => exact absurd HA.out (by simp [spec_l16Counts.l0])
     | succ k2 =>
      have H := HA.out
      clear HA
      simp only [spec_l16Counts.l0] at H
      by_cases c14 : x5_2 < (l1_4.length : Int)
      ·rw [if_pos c14] at H
       have c14b0 : decide (x5_2 < (l1_4.length : Int)) = true := decide_eq_true c14
       clear c14
       by_cases c15 : 0 ≤ x5_2
       ·rw [if_pos c15] at H
        have c15b0 : decide (0 ≤ x5_2) = true := decide_eq_true c15
        clear c15
        replace H := Option.bind_eq_some_iff.mp H
        obtain ⟨t250, A160, H⟩ := H
        replace H:(if t250=true then (spec_l16Counts.l0 k2 (wrap64 (x5_2+1)) a0_0 a0_1 a0_2 a1_0 l1_1 a1_2 a1_3 l1_4 l1_5) else (some false))=some r:=H
        have A16 := Aside0.mk A160
        clear A160
        by_cases c17 : t250 = true
        ·subst c17
         have H1:(spec_l16Counts.l0 k2 (wrap64 (x5_2+1)) a0_0 a0_1 a0_2 a1_0 l1_1 a1_2 a1_3 l1_4 l1_5)=some r:=by rw [if_pos rfl] at H;exact H
         clear H
         have H := H1
         clear H1
         have H' := Aside0.mk H
         clear H
         have hnb18 := NB248_247.out
         have hnc18 := NB247_248.out
         have hcz19_0:wr.cell? ⟨gb248,0,none⟩=some (.int .i64 a1_0):=(blk_cell BK248.out 0).trans rfl
         have hcz19_1:wr.cell? ⟨gb248,1,none⟩=some (.slice A1_1 l1_1.length c1_1):=(blk_cell BK248.out 1).trans rfl
         have hcz19_2:wr.cell? ⟨gb248,2,none⟩=some (.int .i64 a1_2):=(blk_cell BK248.out 2).trans rfl
         have hcz19_3:wr.cell? ⟨gb248,3,none⟩=some (.int .i64 a1_3):=(blk_cell BK248.out 3).trans rfl
         have hcz19_4:wr.cell? ⟨gb248,4,none⟩=some (.slice A1_4 l1_4.length c1_4):=(blk_cell BK248.out 4).trans rfl
         have hcz19_5:wr.cell? ⟨gb248,5,none⟩=some (.slice A1_5 l1_5.length c1_5):=(blk_cell BK248.out 5).trans rfl
         have hfz19_0 := blk_frozen BK248.out 0
         have hfz19_1 := blk_frozen BK248.out 1
         have hfz19_2 := blk_frozen BK248.out 2
         have hfz19_3 := blk_frozen BK248.out 3
         have hfz19_4 := blk_frozen BK248.out 4
         have hfz19_5 := blk_frozen BK248.out 5
         have p249:0≤(x5_2:Int):=of_decide_eq_true (by first|(with_reducible assumption)|assumption)
         have q249:x5_2 < (l1_4.length:Int):=of_decide_eq_true (by first|(with_reducible assumption)|assumption)
         obtain ⟨ad249, e249, hx249_0⟩ := Kd.at_int HR1_4.out x5_2 p249 q249
         cases e249
         replace hx249_0:=(HB.out.cell (World.block_lt_of_cell? w _ hx249_0)).trans hx249_0
         replace p249 := eq_true p249
         replace q249 := eq_true q249
         have hcz20_0:wr.cell? ⟨gb247,0,none⟩=some (.int .i64 a0_0):=(blk_cell BK247.out 0).trans rfl
         have hcz20_1:wr.cell? ⟨gb247,1,none⟩=some (.int .i64 a0_1):=(blk_cell BK247.out 1).trans rfl
         have hcz20_2:wr.cell? ⟨gb247,2,none⟩=some (.int .i64 a0_2):=(blk_cell BK247.out 2).trans rfl
         have hfz20_0 := blk_frozen BK247.out 0
         have hfz20_1 := blk_frozen BK247.out 1
         have hfz20_2 := blk_frozen BK247.out 2
         go_wp2_with (first|(go_at_call 33;(with_reducible refine (spec_l00In.calls (rd l1_4 x5_2) 1 (wrap64 (a0_0 - 1)) true _ A16.out).mono ?_);rintro e w' ⟨rfl,⟨nd,rfl⟩⟩;(try first|exact ⟨rfl,_,World.drewN_drewN _ _ _⟩|exact ⟨rfl,_,Eq.trans (World.drewN_drewN _ _ _) (congrArg (World.drewN _) (Nat.add_assoc _ _ _))⟩)))
         repeat (go_quiet (first|(go_at_call 33;(with_reducible refine (spec_l00In.calls (rd l1_4 x5_2) 1 (wrap64 (a0_0 - 1)) true _ A16.out).mono ?_);rintro e w' ⟨rfl,⟨nd,rfl⟩⟩;(try first|exact ⟨rfl,_,World.drewN_drewN _ _ _⟩|exact ⟨rfl,_,Eq.trans (World.drewN_drewN _ _ _) (congrArg (World.drewN _) (Nat.add_assoc _ _ _))⟩)));try go_wp2_with (first|(go_at_call 33;(with_reducible refine (spec_l00In.calls (rd l1_4 x5_2) 1 (wrap64 (a0_0 - 1)) true _ A16.out).mono ?_);rintro e w' ⟨rfl,⟨nd,rfl⟩⟩;(try first|exact ⟨rfl,_,World.drewN_drewN _ _ _⟩|exact ⟨rfl,_,Eq.trans (World.drewN_drewN _ _ _) (congrArg (World.drewN _) (Nat.add_assoc _ _ _))⟩))))
         go_roundg k2
         case measure => have := HJ2.out; have := HK2.out; omega
         case rel=>exact ⟨(wrap64 (x5_2+1)),(by first|rfl|(simp;done)|(simp [*];done)),H',⟨by have:=HJ2.out;have:=HK2.out;omega⟩,⟨by (with_reducible repeat (first|refine kN8_ ?_ _|refine kD8_ ?_|refine blk_alloc ?_ _));exact BK247.out⟩,⟨by (with_reducible repeat (first|refine kN8_ ?_ _|refine kD8_ ?_|refine blk_alloc ?_ _));exact BK248.out⟩,⟨by repeat (first|(with_reducible first|exact HB.out|apply bA8_|apply bN8_|apply bD8_|refine bS8_ ?_ GE247.out|refine bS8_ ?_ GE248.out)|exact HB.out)⟩⟩
        ·replace c17 := Bool.eq_false_iff.mpr c17
         subst c17
         have H1:(some false)=some r:=by rw [if_neg (show ¬ (false=true) by decide)] at H;exact H
         clear H
         have H := H1
         clear H1
         obtain rfl := Option.some.inj H
         have hnb21 := NB248_247.out
         have hnc21 := NB247_248.out
         have hcz22_0:wr.cell? ⟨gb248,0,none⟩=some (.int .i64 a1_0):=(blk_cell BK248.out 0).trans rfl
         have hcz22_1:wr.cell? ⟨gb248,1,none⟩=some (.slice A1_1 l1_1.length c1_1):=(blk_cell BK248.out 1).trans rfl
         have hcz22_2:wr.cell? ⟨gb248,2,none⟩=some (.int .i64 a1_2):=(blk_cell BK248.out 2).trans rfl
         have hcz22_3:wr.cell? ⟨gb248,3,none⟩=some (.int .i64 a1_3):=(blk_cell BK248.out 3).trans rfl
         have hcz22_4:wr.cell? ⟨gb248,4,none⟩=some (.slice A1_4 l1_4.length c1_4):=(blk_cell BK248.out 4).trans rfl
         have hcz22_5:wr.cell? ⟨gb248,5,none⟩=some (.slice A1_5 l1_5.length c1_5):=(blk_cell BK248.out 5).trans rfl
         have hfz22_0 := blk_frozen BK248.out 0
         have hfz22_1 := blk_frozen BK248.out 1
         have hfz22_2 := blk_frozen BK248.out 2
         have hfz22_3 := blk_frozen BK248.out 3
         have hfz22_4 := blk_frozen BK248.out 4
         have hfz22_5 := blk_frozen BK248.out 5
         have p249:0≤(x5_2:Int):=of_decide_eq_true (by first|(with_reducible assumption)|assumption)
         have q249:x5_2 < (l1_4.length:Int):=of_decide_eq_true (by first|(with_reducible assumption)|assumption)
         obtain ⟨ad249, e249, hx249_0⟩ := Kd.at_int HR1_4.out x5_2 p249 q249
         cases e249
         replace hx249_0:=(HB.out.cell (World.block_lt_of_cell? w _ hx249_0)).trans hx249_0
         replace p249 := eq_true p249
         replace q249 := eq_true q249
         have hcz23_0:wr.cell? ⟨gb247,0,none⟩=some (.int .i64 a0_0):=(blk_cell BK247.out 0).trans rfl
         have hcz23_1:wr.cell? ⟨gb247,1,none⟩=some (.int .i64 a0_1):=(blk_cell BK247.out 1).trans rfl
         have hcz23_2:wr.cell? ⟨gb247,2,none⟩=some (.int .i64 a0_2):=(blk_cell BK247.out 2).trans rfl
         have hfz23_0 := blk_frozen BK247.out 0
         have hfz23_1 := blk_frozen BK247.out 1
         have hfz23_2 := blk_frozen BK247.out 2
         go_wp2_with (first|(go_at_call 33;(with_reducible refine (spec_l00In.calls (rd l1_4 x5_2) 1 (wrap64 (a0_0 - 1)) false _ A16.out).mono ?_);rintro e w' ⟨rfl,⟨nd,rfl⟩⟩;(try first|exact ⟨rfl,_,World.drewN_drewN _ _ _⟩|exact ⟨rfl,_,Eq.trans (World.drewN_drewN _ _ _) (congrArg (World.drewN _) (Nat.add_assoc _ _ _))⟩)))
         repeat (go_quiet (first|(go_at_call 33;(with_reducible refine (spec_l00In.calls (rd l1_4 x5_2) 1 (wrap64 (a0_0 - 1)) false _ A16.out).mono ?_);rintro e w' ⟨rfl,⟨nd,rfl⟩⟩;(try first|exact ⟨rfl,_,World.drewN_drewN _ _ _⟩|exact ⟨rfl,_,Eq.trans (World.drewN_drewN _ _ _) (congrArg (World.drewN _) (Nat.add_assoc _ _ _))⟩)));try go_wp2_with (first|(go_at_call 33;(with_reducible refine (spec_l00In.calls (rd l1_4 x5_2) 1 (wrap64 (a0_0 - 1)) false _ A16.out).mono ?_);rintro e w' ⟨rfl,⟨nd,rfl⟩⟩;(try first|exact ⟨rfl,_,World.drewN_drewN _ _ _⟩|exact ⟨rfl,_,Eq.trans (World.drewN_drewN _ _ _) (congrArg (World.drewN _) (Nat.add_assoc _ _ _))⟩))))
         go_ret
         exact ⟨by first|rfl|(simp [errW_none,errW_some] <;> rfl)|(simp [*,errW_none,errW_some] <;> rfl),by repeat (first|(with_reducible first|exact HB.out|apply bA8_|apply bN8_|apply bD8_|refine bS8_ ?_ GE247.out|refine bS8_ ?_ GE248.out)|exact HB.out)⟩
       ·rw [if_neg c15] at H
        exact absurd H (by simp)
      ·rw [if_neg c14] at H
       have c14b0 : decide (x5_2 < (l1_4.length : Int)) = false := decide_eq_false c14
       clear c14
       have H' := Aside0.mk H
       clear H
       have hnb24 := NB248_247.out
       have hnc24 := NB247_248.out
       have hcz25_0:wr.cell? ⟨gb248,0,none⟩=some (.int .i64 a1_0):=(blk_cell BK248.out 0).trans rfl
       have hcz25_1:wr.cell? ⟨gb248,1,none⟩=some (.slice A1_1 l1_1.length c1_1):=(blk_cell BK248.out 1).trans rfl
       have hcz25_2:wr.cell? ⟨gb248,2,none⟩=some (.int .i64 a1_2):=(blk_cell BK248.out 2).trans rfl
       have hcz25_3:wr.cell? ⟨gb248,3,none⟩=some (.int .i64 a1_3):=(blk_cell BK248.out 3).trans rfl
       have hcz25_4:wr.cell? ⟨gb248,4,none⟩=some (.slice A1_4 l1_4.length c1_4):=(blk_cell BK248.out 4).trans rfl
       have hcz25_5:wr.cell? ⟨gb248,5,none⟩=some (.slice A1_5 l1_5.length c1_5):=(blk_cell BK248.out 5).trans rfl
       have hfz25_0 := blk_frozen BK248.out 0
       have hfz25_1 := blk_frozen BK248.out 1
       have hfz25_2 := blk_frozen BK248.out 2
       have hfz25_3 := blk_frozen BK248.out 3
       have hfz25_4 := blk_frozen BK248.out 4
       have hfz25_5 := blk_frozen BK248.out 5
       go_wp2
       repeat (go_quiet (fail); try go_wp2)
       go_loopg [6] k2 (fun kq v6 w'=>∃ (x6_3:Int),v6=.int .i64 x6_3∧Aside0 (spec_l16Counts.l1 kq x6_3 a1_0 l1_1 a1_2 a1_3 l1_4 l1_5=some r)∧Aside0 (kq≤k2)∧Aside0 (w'.heap[gb247]?=some (.cells #[.int .i64 a0_0,.int .i64 a0_1,.int .i64 a0_2] 32 (0,0)))∧Aside0 (w'.heap[gb248]?=some (.cells #[.int .i64 a1_0,(.slice A1_1 l1_1.length c1_1),.int .i64 a1_2,.int .i64 a1_3,(.slice A1_4 l1_4.length c1_4),(.slice A1_5 l1_5.length c1_5)] 50 (0,0)))∧Aside0 (Below w.heap.size w w'))
       case atStart=>exact ⟨(0),(by first|rfl|(simp;done)|(simp [*];done)),H',⟨Nat.le_refl _⟩,⟨by (with_reducible repeat (first|refine kN8_ ?_ _|refine kD8_ ?_|refine blk_alloc ?_ _));exact BK247.out⟩,⟨by (with_reducible repeat (first|refine kN8_ ?_ _|refine kD8_ ?_|refine blk_alloc ?_ _));exact BK248.out⟩,⟨by repeat (first|(with_reducible first|exact HB.out|apply bA8_|apply bN8_|apply bD8_|refine bS8_ ?_ GE247.out|refine bS8_ ?_ GE248.out)|exact HB.out)⟩⟩
       case round =>
        clear H'
        try clear c1
        try clear c2
        try clear p2
        try clear q2
        try clear hx2
        try clear c6
        try clear c6b0
        try clear p6
        try clear c7
        try clear c10
        try clear c13
        try clear c14
        try clear c14b0
        try clear c15
        try clear c15b0
        try clear c17
        try clear c18
        try clear c21
        try clear c24
        try clear p24
        try clear q24
        try clear hx24
        try clear hcz11_0
        try clear hcz11_1
        try clear hcz11_2
        try clear hcz11_3
        try clear hcz11_4
        try clear hcz11_5
        try clear hcz12_0
        try clear hcz12_1
        try clear hcz12_2
        try clear hcz19_0
        try clear hcz19_1
        try clear hcz19_2
        try clear hcz19_3
        try clear hcz19_4
        try clear hcz19_5
        try clear hcz20_0
        try clear hcz20_1
        try clear hcz20_2
        try clear hcz22_0
        try clear hcz22_1
        try clear hcz22_2
        try clear hcz22_3
        try clear hcz22_4
        try clear hcz22_5
        try clear hcz23_0
        try clear hcz23_1
        try clear hcz23_2
        try clear hcz25_0
        try clear hcz25_1
        try clear hcz25_2
        try clear hcz25_3
        try clear hcz25_4
        try clear hcz25_5
        try clear hcz8_0
        try clear hcz8_1
        try clear hcz8_2
        try clear hcz8_3
        try clear hcz8_4
        try clear hcz8_5
        try clear hcz9_0
        try clear hcz9_1
        try clear hcz9_2
        try clear hfz11_0
        try clear hfz11_1
        try clear hfz11_2
        try clear hfz11_3
        try clear hfz11_4
        try clear hfz11_5
        try clear hfz12_0
        try clear hfz12_1
        try clear hfz12_2
        try clear hfz19_0
        try clear hfz19_1
        try clear hfz19_2
        try clear hfz19_3
        try clear hfz19_4
        try clear hfz19_5
        try clear hfz20_0
        try clear hfz20_1
        try clear hfz20_2
        try clear hfz22_0
        try clear hfz22_1
        try clear hfz22_2
        try clear hfz22_3
        try clear hfz22_4
        try clear hfz22_5
        try clear hfz23_0
        try clear hfz23_1
        try clear hfz23_2
        try clear hfz25_0
        try clear hfz25_1
        try clear hfz25_2
        try clear hfz25_3
        try clear hfz25_4
        try clear hfz25_5
        try clear hfz8_0
        try clear hfz8_1
        try clear hfz8_2
        try clear hfz8_3
        try clear hfz8_4
        try clear hfz8_5
        try clear hfz9_0
        try clear hfz9_1
        try clear hfz9_2
        try clear hx249_0
        try clear p2
        try clear p249
        try clear p6
        try clear q249
        obtain ⟨x6_3, rfl, HA, HK3, BK247, BK248, HB⟩ := hrel
        cases gk with
        | zero => exact absurd HA.out (by simp [spec_l16Counts.l1])
        | succ k3 =>
         have H := HA.out
         clear HA
         simp only [spec_l16Counts.l1] at H
         by_cases c26 : x6_3 < (l1_5.length : Int)
         ·rw [if_pos c26] at H
          have c26b0 : decide (x6_3 < (l1_5.length : Int)) = true := decide_eq_true c26
          clear c26
          by_cases c27 : 0 ≤ x6_3
          ·rw [if_pos c27] at H
           have c27b0 : decide (0 ≤ x6_3) = true := decide_eq_true c27
           clear c27
           by_cases c28 : ((rdOf ByteArray.empty l1_5 x6_3).size : Int) > 64
           ·rw [if_pos c28] at H
            have c28b0:decide (64 < ((rdOf ByteArray.empty l1_5 x6_3).size:Int))=true:=decide_eq_true c28
            have c28b1:decide (64 < (rdOf ByteArray.empty l1_5 x6_3).size)=true:=decide_eq_true (by omega)
            clear c28
            obtain rfl := Option.some.inj H
            have hnb29 := NB248_247.out
            have hnc29 := NB247_248.out
            have hcz30_0:wr.cell? ⟨gb248,0,none⟩=some (.int .i64 a1_0):=(blk_cell BK248.out 0).trans rfl
            have hcz30_1:wr.cell? ⟨gb248,1,none⟩=some (.slice A1_1 l1_1.length c1_1):=(blk_cell BK248.out 1).trans rfl
            have hcz30_2:wr.cell? ⟨gb248,2,none⟩=some (.int .i64 a1_2):=(blk_cell BK248.out 2).trans rfl
            have hcz30_3:wr.cell? ⟨gb248,3,none⟩=some (.int .i64 a1_3):=(blk_cell BK248.out 3).trans rfl
            have hcz30_4:wr.cell? ⟨gb248,4,none⟩=some (.slice A1_4 l1_4.length c1_4):=(blk_cell BK248.out 4).trans rfl
            have hcz30_5:wr.cell? ⟨gb248,5,none⟩=some (.slice A1_5 l1_5.length c1_5):=(blk_cell BK248.out 5).trans rfl
            have hfz30_0 := blk_frozen BK248.out 0
            have hfz30_1 := blk_frozen BK248.out 1
            have hfz30_2 := blk_frozen BK248.out 2
            have hfz30_3 := blk_frozen BK248.out 3
            have hfz30_4 := blk_frozen BK248.out 4
            have hfz30_5 := blk_frozen BK248.out 5
            have p251:0≤(x6_3:Int):=of_decide_eq_true (by first|(with_reducible assumption)|assumption)
            have q251:x6_3 < (l1_5.length:Int):=of_decide_eq_true (by first|(with_reducible assumption)|assumption)
            obtain ⟨ad251, e251, hx251_0⟩ := Kd.at_string HR1_5.out x6_3 p251 q251
            cases e251
            replace hx251_0:=(HB.out.cell (World.block_lt_of_cell? w _ hx251_0)).trans hx251_0
            replace p251 := eq_true p251
            replace q251 := eq_true q251
            go_wp2
            repeat (go_quiet (fail); try go_wp2)
            go_ret
            exact ⟨by first|rfl|(simp [errW_none,errW_some] <;> rfl)|(simp [*,errW_none,errW_some] <;> rfl),by repeat (first|(with_reducible first|exact HB.out|apply bA8_|apply bN8_|apply bD8_|refine bS8_ ?_ GE247.out|refine bS8_ ?_ GE248.out)|exact HB.out)⟩
           ·rw [if_neg c28] at H
            have c28b0:decide (64 < ((rdOf ByteArray.empty l1_5 x6_3).size:Int))=false:=decide_eq_false c28
            have c28b1:decide (64 < (rdOf ByteArray.empty l1_5 x6_3).size)=false:=decide_eq_false (by omega)
            clear c28
            have H' := Aside0.mk H
            clear H
            have hnb31 := NB248_247.out
            have hnc31 := NB247_248.out
            have hcz32_0:wr.cell? ⟨gb248,0,none⟩=some (.int .i64 a1_0):=(blk_cell BK248.out 0).trans rfl
            have hcz32_1:wr.cell? ⟨gb248,1,none⟩=some (.slice A1_1 l1_1.length c1_1):=(blk_cell BK248.out 1).trans rfl
            have hcz32_2:wr.cell? ⟨gb248,2,none⟩=some (.int .i64 a1_2):=(blk_cell BK248.out 2).trans rfl
            have hcz32_3:wr.cell? ⟨gb248,3,none⟩=some (.int .i64 a1_3):=(blk_cell BK248.out 3).trans rfl
            have hcz32_4:wr.cell? ⟨gb248,4,none⟩=some (.slice A1_4 l1_4.length c1_4):=(blk_cell BK248.out 4).trans rfl
            have hcz32_5:wr.cell? ⟨gb248,5,none⟩=some (.slice A1_5 l1_5.length c1_5):=(blk_cell BK248.out 5).trans rfl
            have hfz32_0 := blk_frozen BK248.out 0
            have hfz32_1 := blk_frozen BK248.out 1
            have hfz32_2 := blk_frozen BK248.out 2
            have hfz32_3 := blk_frozen BK248.out 3
            have hfz32_4 := blk_frozen BK248.out 4
            have hfz32_5 := blk_frozen BK248.out 5
            have p251:0≤(x6_3:Int):=of_decide_eq_true (by first|(with_reducible assumption)|assumption)
            have q251:x6_3 < (l1_5.length:Int):=of_decide_eq_true (by first|(with_reducible assumption)|assumption)
            obtain ⟨ad251, e251, hx251_0⟩ := Kd.at_string HR1_5.out x6_3 p251 q251
            cases e251
            replace hx251_0:=(HB.out.cell (World.block_lt_of_cell? w _ hx251_0)).trans hx251_0
            replace p251 := eq_true p251
            replace q251 := eq_true q251
            go_wp2
            repeat (go_quiet (fail); try go_wp2)
            go_roundg k3
            case measure => have := HJ2.out; have := HK2.out; have := HK3.out; omega
            case rel=>exact ⟨(wrap64 (x6_3+1)),(by first|rfl|(simp;done)|(simp [*];done)),H',⟨by have:=HJ2.out;have:=HK2.out;have:=HK3.out;omega⟩,⟨by (with_reducible repeat (first|refine kN8_ ?_ _|refine kD8_ ?_|refine blk_alloc ?_ _));exact BK247.out⟩,⟨by (with_reducible repeat (first|refine kN8_ ?_ _|refine kD8_ ?_|refine blk_alloc ?_ _));exact BK248.out⟩,⟨by repeat (first|(with_reducible first|exact HB.out|apply bA8_|apply bN8_|apply bD8_|refine bS8_ ?_ GE247.out|refine bS8_ ?_ GE248.out)|exact HB.out)⟩⟩
          ·rw [if_neg c27] at H
           exact absurd H (by simp)
         ·rw [if_neg c26] at H
          have c26b0 : decide (x6_3 < (l1_5.length : Int)) = false := decide_eq_false c26
          clear c26
          replace H := Option.bind_eq_some_iff.mp H
          obtain ⟨t252, A330, H⟩ := H
          replace H:(if a1_3=t252 then (some (a1_2 == (wrap64 (a1_3+(l1_5.length:Int))))) else (some false))=some r:=H
          have A33 := Aside0.mk A330
          clear A330
          by_cases c34 : a1_3 = t252
          ·rw [if_pos c34] at H
           have c34b0 : (a1_3 == t252) = true := beq_iff_eq.mpr c34
           have c34b1 : (a1_3 != t252) = false := bne_eq_false_iff_eq.mpr c34
           clear c34
           obtain rfl := Option.some.inj H
           have hnb35 := NB248_247.out
           have hnc35 := NB247_248.out
           have hcz36_0:wr.cell? ⟨gb248,0,none⟩=some (.int .i64 a1_0):=(blk_cell BK248.out 0).trans rfl
           have hcz36_1:wr.cell? ⟨gb248,1,none⟩=some (.slice A1_1 l1_1.length c1_1):=(blk_cell BK248.out 1).trans rfl
           have hcz36_2:wr.cell? ⟨gb248,2,none⟩=some (.int .i64 a1_2):=(blk_cell BK248.out 2).trans rfl
           have hcz36_3:wr.cell? ⟨gb248,3,none⟩=some (.int .i64 a1_3):=(blk_cell BK248.out 3).trans rfl
           have hcz36_4:wr.cell? ⟨gb248,4,none⟩=some (.slice A1_4 l1_4.length c1_4):=(blk_cell BK248.out 4).trans rfl
           have hcz36_5:wr.cell? ⟨gb248,5,none⟩=some (.slice A1_5 l1_5.length c1_5):=(blk_cell BK248.out 5).trans rfl
           have hfz36_0 := blk_frozen BK248.out 0
           have hfz36_1 := blk_frozen BK248.out 1
           have hfz36_2 := blk_frozen BK248.out 2
           have hfz36_3 := blk_frozen BK248.out 3
           have hfz36_4 := blk_frozen BK248.out 4
           have hfz36_5 := blk_frozen BK248.out 5
           go_wp2_with (first|(go_at_call 35;(with_reducible refine (spec_l16Sum.calls k3 _ _ l1_4 t252 _ ?side1 ?side2 A33.out).mono ?_);(case side1=>repeat (first|exact (Kd.C_below HR1_4.out HB.out)|(with_reducible refine Kd.C_alloc ?_ _)|(with_reducible refine Kd.C_drewN ?_ _)|(with_reducible refine Kd.C_drew ?_)));(case side2=>exact HC1_4.out);rintro e w' ⟨rfl,⟨nd,rfl⟩⟩;(try first|exact ⟨rfl,_,World.drewN_drewN _ _ _⟩|exact ⟨rfl,_,Eq.trans (World.drewN_drewN _ _ _) (congrArg (World.drewN _) (Nat.add_assoc _ _ _))⟩)))
           repeat (go_quiet (first|(go_at_call 35;(with_reducible refine (spec_l16Sum.calls k3 _ _ l1_4 t252 _ ?side1 ?side2 A33.out).mono ?_);(case side1=>repeat (first|exact (Kd.C_below HR1_4.out HB.out)|(with_reducible refine Kd.C_alloc ?_ _)|(with_reducible refine Kd.C_drewN ?_ _)|(with_reducible refine Kd.C_drew ?_)));(case side2=>exact HC1_4.out);rintro e w' ⟨rfl,⟨nd,rfl⟩⟩;(try first|exact ⟨rfl,_,World.drewN_drewN _ _ _⟩|exact ⟨rfl,_,Eq.trans (World.drewN_drewN _ _ _) (congrArg (World.drewN _) (Nat.add_assoc _ _ _))⟩)));try go_wp2_with (first|(go_at_call 35;(with_reducible refine (spec_l16Sum.calls k3 _ _ l1_4 t252 _ ?side1 ?side2 A33.out).mono ?_);(case side1=>repeat (first|exact (Kd.C_below HR1_4.out HB.out)|(with_reducible refine Kd.C_alloc ?_ _)|(with_reducible refine Kd.C_drewN ?_ _)|(with_reducible refine Kd.C_drew ?_)));(case side2=>exact HC1_4.out);rintro e w' ⟨rfl,⟨nd,rfl⟩⟩;(try first|exact ⟨rfl,_,World.drewN_drewN _ _ _⟩|exact ⟨rfl,_,Eq.trans (World.drewN_drewN _ _ _) (congrArg (World.drewN _) (Nat.add_assoc _ _ _))⟩))))
           go_ret
           exact ⟨by first|rfl|(simp [errW_none,errW_some] <;> rfl)|(simp [*,errW_none,errW_some] <;> rfl),by repeat (first|(with_reducible first|exact HB.out|apply bA8_|apply bN8_|apply bD8_|refine bS8_ ?_ GE247.out|refine bS8_ ?_ GE248.out)|exact HB.out)⟩
          ·rw [if_neg c34] at H
           have c34b0 : (a1_3 == t252) = false := beq_eq_false_iff_ne.mpr c34
           have c34b1 : (a1_3 != t252) = true := bne_iff_ne.mpr c34
           obtain rfl := Option.some.inj H
           have hnb37 := NB248_247.out
           have hnc37 := NB247_248.out
           have hcz38_0:wr.cell? ⟨gb248,0,none⟩=some (.int .i64 a1_0):=(blk_cell BK248.out 0).trans rfl
           have hcz38_1:wr.cell? ⟨gb248,1,none⟩=some (.slice A1_1 l1_1.length c1_1):=(blk_cell BK248.out 1).trans rfl
           have hcz38_2:wr.cell? ⟨gb248,2,none⟩=some (.int .i64 a1_2):=(blk_cell BK248.out 2).trans rfl
           have hcz38_3:wr.cell? ⟨gb248,3,none⟩=some (.int .i64 a1_3):=(blk_cell BK248.out 3).trans rfl
           have hcz38_4:wr.cell? ⟨gb248,4,none⟩=some (.slice A1_4 l1_4.length c1_4):=(blk_cell BK248.out 4).trans rfl
           have hcz38_5:wr.cell? ⟨gb248,5,none⟩=some (.slice A1_5 l1_5.length c1_5):=(blk_cell BK248.out 5).trans rfl
           have hfz38_0 := blk_frozen BK248.out 0
           have hfz38_1 := blk_frozen BK248.out 1
           have hfz38_2 := blk_frozen BK248.out 2
           have hfz38_3 := blk_frozen BK248.out 3
           have hfz38_4 := blk_frozen BK248.out 4
           have hfz38_5 := blk_frozen BK248.out 5
           go_wp2_with (first|(go_at_call 35;(with_reducible refine (spec_l16Sum.calls k3 _ _ l1_4 t252 _ ?side1 ?side2 A33.out).mono ?_);(case side1=>repeat (first|exact (Kd.C_below HR1_4.out HB.out)|(with_reducible refine Kd.C_alloc ?_ _)|(with_reducible refine Kd.C_drewN ?_ _)|(with_reducible refine Kd.C_drew ?_)));(case side2=>exact HC1_4.out);rintro e w' ⟨rfl,⟨nd,rfl⟩⟩;(try first|exact ⟨rfl,_,World.drewN_drewN _ _ _⟩|exact ⟨rfl,_,Eq.trans (World.drewN_drewN _ _ _) (congrArg (World.drewN _) (Nat.add_assoc _ _ _))⟩)))
           repeat (go_quiet (first|(go_at_call 35;(with_reducible refine (spec_l16Sum.calls k3 _ _ l1_4 t252 _ ?side1 ?side2 A33.out).mono ?_);(case side1=>repeat (first|exact (Kd.C_below HR1_4.out HB.out)|(with_reducible refine Kd.C_alloc ?_ _)|(with_reducible refine Kd.C_drewN ?_ _)|(with_reducible refine Kd.C_drew ?_)));(case side2=>exact HC1_4.out);rintro e w' ⟨rfl,⟨nd,rfl⟩⟩;(try first|exact ⟨rfl,_,World.drewN_drewN _ _ _⟩|exact ⟨rfl,_,Eq.trans (World.drewN_drewN _ _ _) (congrArg (World.drewN _) (Nat.add_assoc _ _ _))⟩)));try go_wp2_with (first|(go_at_call 35;(with_reducible refine (spec_l16Sum.calls k3 _ _ l1_4 t252 _ ?side1 ?side2 A33.out).mono ?_);(case side1=>repeat (first|exact (Kd.C_below HR1_4.out HB.out)|(with_reducible refine Kd.C_alloc ?_ _)|(with_reducible refine Kd.C_drewN ?_ _)|(with_reducible refine Kd.C_drew ?_)));(case side2=>exact HC1_4.out);rintro e w' ⟨rfl,⟨nd,rfl⟩⟩;(try first|exact ⟨rfl,_,World.drewN_drewN _ _ _⟩|exact ⟨rfl,_,Eq.trans (World.drewN_drewN _ _ _) (congrArg (World.drewN _) (Nat.add_assoc _ _ _))⟩))))
           go_ret
           exact ⟨by first|rfl|(simp [errW_none,errW_some] <;> rfl)|(simp [*,errW_none,errW_some] <;> rfl),by repeat (first|(with_reducible first|exact HB.out|apply bA8_|apply bN8_|apply bD8_|refine bS8_ ?_ GE247.out|refine bS8_ ?_ GE248.out)|exact HB.out)⟩

end Go.Proofs.Ytdjbphffibcbeaa.Q
