/- The program's functions as Lean functions,and for each the proof that the machine's call comes to what its function says. Conditions: those that stand before each theorem. -/
import Derived.Test.YtdjbphffibcbeaaQ0
import Derived.Test.YtdjbphffibcbeaaQ9
namespace Go.Proofs.Ytdjbphffibcbeaa.Q
open Go.RowKit Go.Proofs.YtdjbphffibcbeaaW.PrintWords Go.Proofs.YtdjbphffibcbeaaW.PrintLast Go.Proofs.YtdjbphffibcbeaaW.PrintMore
abbrev kN10_ := @blk_drewN
abbrev kD10_ := @blk_drew
abbrev rN10_ := @Kd.R_drewN
abbrev bA10_ := @below_alloc
abbrev bN10_ := @pw_below_drewN
abbrev bD10_ := @below_drew1
abbrev bS10_ := @below_set
abbrev mk10_ := @Aside0.mk
abbrev fZ10_ := @blk_frozen
abbrev sB10_ := @Kd.S_below
abbrev bT10_ := @below_step
abbrev bZ10_ := @below_size
set_option linter.unusedVariables false
set_option linter.unusedSimpArgs false

def IsS38 (w0 W:World) (g:Nat) (f0:Int) (f1:Int) (f2:Int) (f3:List (S68)) (f4:Int) (f5:Int) (f6:Bool) (f7:Int) (f8:List (S50)):Prop:=∃ A3 c3,∃ A8 c8,W.heap[g]?=some (.cells #[.int .i64 f0,.int .i64 f1,.int .i64 f2,.slice A3 f3.length c3,.int .i64 f4,.int .i64 f5,.bool f6,.int .i64 f7,.slice A8 f8.length c8] 38 (0,0))∧w0.heap.size≤g∧Kd.C k68 w0 A3 f3.length f3∧Kd.C k50 w0 A8 f8.length f8
theorem IsS38.grown {w0 W:World} {g:Nat} {f0:Int} {f1:Int} {f2:Int} {f3:List (S68)} {f4:Int} {f5:Int} {f6:Bool} {f7:Int} {f8:List (S50)} {W1:World} {row:Option Nat} (h:IsS38 w0 W g f0 f1 f2 f3 f4 f5 f6 f7 f8) (hw:W.grownBy W1 row) (hne:some g≠row):IsS38 w0 W1 g f0 f1 f2 f3 f4 f5 f6 f7 f8:=by
 obtain ⟨A3, c3, A8, c8, hb, hg, hr3, hr8⟩ := h
 exact ⟨A3, c3, A8, c8, blk_grown hb hw hne, hg, hr3, hr8⟩
theorem IsS38.kept {w0 W:World} {g:Nat} {f0:Int} {f1:Int} {f2:Int} {f3:List (S68)} {f4:Int} {f5:Int} {f6:Bool} {f7:Int} {f8:List (S50)} {W1:World} {S:Nat→Prop} (h:IsS38 w0 W g f0 f1 f2 f3 f4 f5 f6 f7 f8) (hk:Kept W W1 S) (hne:¬ S g):IsS38 w0 W1 g f0 f1 f2 f3 f4 f5 f6 f7 f8:=by
 obtain ⟨A3, c3, A8, c8, hb, hg, hr3, hr8⟩ := h
 exact ⟨A3, c3, A8, c8, blk_kept hb hk hne, hg, hr3, hr8⟩
theorem IsS38.below {w0 W:World} {g:Nat} {f0:Int} {f1:Int} {f2:Int} {f3:List (S68)} {f4:Int} {f5:Int} {f6:Bool} {f7:Int} {f8:List (S50)} {W1:World} (h:IsS38 w0 W g f0 f1 f2 f3 f4 f5 f6 f7 f8) (hw:Below W.heap.size W W1):IsS38 w0 W1 g f0 f1 f2 f3 f4 f5 f6 f7 f8:=h.grown (grown_of_below hw none) (by simp)
theorem IsS38.alloc {w0 W:World} {g:Nat} {f0:Int} {f1:Int} {f2:Int} {f3:List (S68)} {f4:Int} {f5:Int} {f6:Bool} {f7:Int} {f8:List (S50)} (h:IsS38 w0 W g f0 f1 f2 f3 f4 f5 f6 f7 f8) (o:Obj):IsS38 w0 (W.alloc o) g f0 f1 f2 f3 f4 f5 f6 f7 f8:=h.below (bA10_ (Below.refl _ _) o)
theorem IsS38.drew {w0 W:World} {g:Nat} {f0:Int} {f1:Int} {f2:Int} {f3:List (S68)} {f4:Int} {f5:Int} {f6:Bool} {f7:Int} {f8:List (S50)} (h:IsS38 w0 W g f0 f1 f2 f3 f4 f5 f6 f7 f8):IsS38 w0 W.drew g f0 f1 f2 f3 f4 f5 f6 f7 f8:=h
theorem IsS38.apart {w0 W:World} {g:Nat} {f0:Int} {f1:Int} {f2:Int} {f3:List (S68)} {f4:Int} {f5:Int} {f6:Bool} {f7:Int} {f8:List (S50)} {α:Type} {d:Kd α} {e:Nat} {base:Nat} {ok:Nat→Prop} {v:Value} {xs:List α} (h:IsS38 w0 W g f0 f1 f2 f3 f4 f5 f6 f7 f8) (ho:d.R e W base ok v xs) (ht:∀ q,q ∈ e::d.E→q≠38):d.R e W base (fun k=>ok k∧k≠g) v xs:=by
 obtain ⟨A3, c3, A8, c8, hb, hg, hr3, hr8⟩ := h
 exact Kd.R_types ho hb ht

def impl_Device_placesOk.l0:Nat→List Int→Int→Int→Int→Int→Int→List (S68)→Int→Int→Bool→Int→List (S50)→Option (Bool × Int × Int × Int × Int × Int × Bool × Int)
 | 0, _, _, _, _, _, _, _, _, _, _, _, _ => none
 | k+1,x19,x20,x21,x1000,x1001,x1002,x1003,x1004,x1005,x1006,x1007,x1008=>if x21 < x20 then (if 0≤x21 then (if x21 < (x19.length:Int) then ((impl_within.f (rd x19 x21) (wrap64 (x21 * x1001)) (wrap64 ((wrap64 ((wrap64 (x21 * x1001))+x1001)) - 1))).bind fun t253=>(if t253=true then (impl_Device_placesOk.l0 k x19 x20 (wrap64 (x21+1)) x1000 x1001 x1002 x1003 x1004 x1005 x1006 x1007 x1008) else (some (false,x1000,x1001,x1002,x1004,x1005,x1006,x1007)))) else (none)) else (none)) else (some (true,x1000,x1001,x1002,x1004,x1005,x1006,x1007))
def impl_Device_placesOk.f (k:Nat) (s0_0:Int) (s0_1:Int) (s0_2:Int) (s0_3:List (S68)) (s0_4:Int) (s0_5:Int) (s0_6:Bool) (s0_7:Int) (s0_8:List (S50)) (a1_0:Int) (l1_1:List Int) (a1_2:Int) (a1_3:Int) (l1_4:List Int) (l1_5:List ByteArray):Option (Bool × Int × Int × Int × Int × Int × Bool × Int):=if (l1_1.length:Int)=s0_0 then (impl_Device_placesOk.l0 k l1_1 (l1_1.length:Int) 0 s0_0 s0_1 s0_2 s0_3 s0_4 s0_5 s0_6 s0_7 s0_8) else (some (false,s0_0,s0_1,s0_2,s0_4,s0_5,s0_6,s0_7))

-- NOT PRINTED: function 67 (slices_IndexFunc_int64_int64)

-- NOT PRINTED: function 60 (slices_ContainsFunc_int64_int64)

-- impl_allWithin: function 44: its contract stands in Derived.Test.YtdjbphffibcbeaaXAllW

def impl_Device_units.f (s0_0:Int) (s0_1:Int) (s0_2:Int) (s0_3:List (S68)) (s0_4:Int) (s0_5:Int) (s0_6:Bool) (s0_7:Int) (s0_8:List (S50)):Option (Int × Int × Int × Int × Int × Int × Bool × Int):=some (wrap64 (s0_0 - 1),s0_0,s0_1,s0_2,s0_4,s0_5,s0_6,s0_7)

def impl_total.l0 : Nat → Int → List Int → Int → Int → Option (Int)
 | 0, _, _, _, _ => none
 | k+1,x3,x6,x7,x8=>if x8 < x7 then (if 0≤x8 then (if x8 < (x6.length:Int) then (impl_total.l0 k (wrap64 (x3+(rd x6 x8))) x6 x7 (wrap64 (x8+1))) else (none)) else (none)) else (some x3)
def impl_total.f (k:Nat) (l0:List Int):Option (Int):=impl_total.l0 k 0 l0 (l0.length:Int) 0
set_option maxHeartbeats 8000000 in
set_option maxRecDepth 100000 in
theorem impl_total.calls (k:Nat) (A0:Option Addr) (c0:Nat) (l0:List Int) (r:Int) (w:World) (hr0:Kd.C (Kd.int .i64) w A0 l0.length l0) (hc0:l0.length≤c0) (h:impl_total.f k l0=some r) :
  Calls Try.prog 46 #[.slice A0 l0.length c0] w fun e w'=>e=.returned (.int .i64 r)∧Drawn0 w w':=by
 have HR0 := Aside0.mk hr0
 have HC0 := Aside0.mk hc0
 clear hr0 hc0
 have H : (impl_total.l0 k 0 l0 (l0.length : Int) 0) = some r := h
 clear h
 have H' := Aside0.mk H
 clear H
 go_enter Try.func46, Try.ntmps46
 go_wp2
 go_loopg [3,8] k (fun kq v3 v8 w'=>∃ (x3_1:Int) (x8_1:Int),v3=.int .i64 x3_1∧v8=.int .i64 x8_1∧Aside0 (impl_total.l0 kq x3_1 l0 (l0.length:Int) x8_1=some r)∧Aside0 (kq≤k)∧Drawn0 w w')
 case atStart=>exact ⟨(0),(0),(by first|rfl|(simp;done)|(simp [*];done)),(by first|rfl|(simp;done)|(simp [*];done)),H',⟨Nat.le_refl _⟩,by repeat (first|exact Drawn0.refl _|apply Drawn0.step)⟩
 case round =>
  clear H'
  obtain ⟨x3_1, x8_1, rfl, rfl, HA, HK1, ⟨m1, rfl⟩⟩ := hrel
  cases gk with
  | zero => exact absurd HA.out (by simp [impl_total.l0])
  | succ k1 =>
   have H := HA.out
   clear HA
   simp only [impl_total.l0] at H
   by_cases c2 : x8_1 < (l0.length : Int)
   ·rw [if_pos c2] at H
    have c2b0 : decide (x8_1 < (l0.length : Int)) = true := decide_eq_true c2
    clear c2
    by_cases c3 : 0 ≤ x8_1
    ·rw [if_pos c3] at H
     have c3b0 : decide (0 ≤ x8_1) = true := decide_eq_true c3
     clear c3
     by_cases c4 : x8_1 < (l0.length : Int)
     ·rw [if_pos c4] at H
      have c4b0 : decide (x8_1 < (l0.length : Int)) = true := decide_eq_true c4
      clear c4
      have H' := Aside0.mk H
      clear H
      have p254:0≤(x8_1:Int):=of_decide_eq_true (by first|(with_reducible assumption)|assumption)
      have q254:x8_1 < (l0.length:Int):=of_decide_eq_true (by first|(with_reducible assumption)|assumption)
      obtain ⟨ad254, e254, hx254_0⟩ := Kd.at_int HR0.out x8_1 p254 q254
      cases e254
      replace p254 := eq_true p254
      replace q254 := eq_true q254
      go_wp2
      go_roundg k1
      case measure => have := HK1.out; omega
      case rel=>exact ⟨(wrap64 (x3_1+(rd l0 x8_1))),(wrap64 (x8_1+1)),(by first|rfl|(simp;done)|(simp [*];done)),(by first|rfl|(simp;done)|(simp [*];done)),H',⟨by have:=HK1.out;omega⟩,by repeat (first|exact Drawn0.refl _|apply Drawn0.step)⟩
     ·rw [if_neg c4] at H
      exact absurd H (by simp)
    ·rw [if_neg c3] at H
     exact absurd H (by simp)
   ·rw [if_neg c2] at H
    have c2b0 : decide (x8_1 < (l0.length : Int)) = false := decide_eq_false c2
    clear c2
    obtain rfl := Option.some.inj H
    go_wp2
    go_ret
    exact ⟨by first|rfl|(simp;done)|(simp [*];done),by repeat (first|exact Drawn0.refl _|apply Drawn0.step)⟩

-- NOT PRINTED: function 62 (slices_IndexFunc_string_string)

-- NOT PRINTED: function 47 (slices_ContainsFunc_string_string)

-- NOT PRINTED: function 25 (impl_Device_contentsOk)

-- NOT PRINTED: function 49 (impl_Device_ready)

-- NOT PRINTED: function 26 (impl_Device_stateOk)

def laws_eqGeometry.f (a0_0:Int) (a0_1:Int) (a0_2:Int) (a1_0:Int) (a1_1:Int) (a1_2:Int):Option (Bool):=if a0_0=a1_0 then (if a0_1=a1_1 then (if a0_2=a1_2 then (some true) else (some false)) else (some false)) else (some false)
set_option maxHeartbeats 8000000 in
set_option maxRecDepth 100000 in
theorem laws_eqGeometry.calls (a0_0:Int) (a0_1:Int) (a0_2:Int) (a1_0:Int) (a1_1:Int) (a1_2:Int) (r:Bool) (w:World) (h:laws_eqGeometry.f a0_0 a0_1 a0_2 a1_0 a1_1 a1_2=some r) :
  Calls Try.prog 50 #[.agg #[.int .i64 a0_0,.int .i64 a0_1,.int .i64 a0_2],.agg #[.int .i64 a1_0,.int .i64 a1_1,.int .i64 a1_2]] w fun e w'=>e=.returned (.bool r)∧Below w.heap.size w w':=by
 have hu32 := Try.underlying32
 have HB := Aside0.mk (Below.refl w.heap.size w)
 have H:(if a0_0=a1_0 then (if a0_1=a1_1 then (if a0_2=a1_2 then (some true) else (some false)) else (some false)) else (some false))=some r:=h
 clear h
 by_cases c3 : a0_0 = a1_0
 ·rw [if_pos c3] at H
  have c3b0 : (a0_0 == a1_0) = true := beq_iff_eq.mpr c3
  have c3b1 : (a0_0 != a1_0) = false := bne_eq_false_iff_eq.mpr c3
  clear c3
  by_cases c4 : a0_1 = a1_1
  ·rw [if_pos c4] at H
   have c4b0 : (a0_1 == a1_1) = true := beq_iff_eq.mpr c4
   have c4b1 : (a0_1 != a1_1) = false := bne_eq_false_iff_eq.mpr c4
   clear c4
   by_cases c5 : a0_2 = a1_2
   ·rw [if_pos c5] at H
    have c5b0 : (a0_2 == a1_2) = true := beq_iff_eq.mpr c5
    have c5b1 : (a0_2 != a1_2) = false := bne_eq_false_iff_eq.mpr c5
    clear c5
    obtain rfl := Option.some.inj H
    go_enter Try.func50, Try.ntmps50
    go_wp2_with (first|((with_reducible refine gate_dst (N:=2) rfl ?_);refine box_event ?hg (N:=2) ?hd (cs:=#[.int .i64 a0_0,.int .i64 a0_1,.int .i64 a0_2]) (t:=32) ?hr ?_;(case hd=>rfl);(case hg=>rfl);(case hr=>first|(go_simp;done)|(go_simp;rfl));intro gb275 hg w6 hbox hb;have n0_:=mk10_ (bT10_ (by repeat (first|(with_reducible first|exact HB.out|apply bA10_|apply bN10_|apply bD10_)|exact HB.out)) hb);have n1_:=mk10_ (hbox);have n2_:=mk10_ ((by rw [hg];exact (bZ10_ (by repeat (first|(with_reducible first|exact HB.out|apply bA10_|apply bN10_|apply bD10_)|exact HB.out))):w.heap.size≤gb275));have n3_:=mk10_ ((by rw [hg];exact (bZ10_ (by repeat (first|(with_reducible first|exact HB.out|apply bA10_|apply bN10_|apply bD10_)|exact HB.out))):w.heap.size≤gb275));clear HB;have HB:=n0_;have BK275:=n1_;have GW275:=n2_;have GE275:=n3_;clear n0_ n1_ n2_ n3_;clear hb hbox hg)|((with_reducible refine gate_dst (N:=3) rfl ?_);refine box_event ?hg (N:=3) ?hd (cs:=#[.int .i64 a1_0,.int .i64 a1_1,.int .i64 a1_2]) (t:=32) ?hr ?_;(case hd=>rfl);(case hg=>rfl);(case hr=>first|(go_simp;done)|(go_simp;rfl));intro gb276 hg w7 hbox hb;have n0_:=mk10_ (blk_below (g:=gb275) (o:=.cells #[.int .i64 a0_0,.int .i64 a0_1,.int .i64 a0_2] 32 (0,0)) (by (with_reducible repeat (first|refine kN10_ ?_ _|refine kD10_ ?_|refine blk_alloc ?_ _));exact BK275.out) hb);have n1_:=mk10_ (bT10_ (by repeat (first|(with_reducible first|exact HB.out|apply bA10_|apply bN10_|apply bD10_|refine bS10_ ?_ GE275.out)|exact HB.out)) hb);have n2_:=mk10_ (hbox);have n3_:=mk10_ ((by rw [hg];exact (bZ10_ (by repeat (first|(with_reducible first|exact HB.out|apply bA10_|apply bN10_|apply bD10_|refine bS10_ ?_ GE275.out)|exact HB.out))):w.heap.size≤gb276));have n4_:=mk10_ ((by rw [hg];exact (bZ10_ (by repeat (first|(with_reducible first|exact HB.out|apply bA10_|apply bN10_|apply bD10_|refine bS10_ ?_ GE275.out)|exact HB.out))):w.heap.size≤gb276));have n5_:=mk10_ ((by rw [hg];exact Nat.ne_of_lt (blk_lt (g:=gb275) (o:=.cells #[.int .i64 a0_0,.int .i64 a0_1,.int .i64 a0_2] 32 (0,0)) (by (with_reducible repeat (first|refine kN10_ ?_ _|refine kD10_ ?_|refine blk_alloc ?_ _));exact BK275.out)):gb275≠gb276));have n6_:=mk10_ ((by rw [hg];exact Nat.ne_of_gt (blk_lt (g:=gb275) (o:=.cells #[.int .i64 a0_0,.int .i64 a0_1,.int .i64 a0_2] 32 (0,0)) (by (with_reducible repeat (first|refine kN10_ ?_ _|refine kD10_ ?_|refine blk_alloc ?_ _));exact BK275.out)):gb276≠gb275));clear BK275;clear HB;have BK275:=n0_;have HB:=n1_;have BK276:=n2_;have GW276:=n3_;have GE276:=n4_;have NB275_276:=n5_;have NB276_275:=n6_;clear n0_ n1_ n2_ n3_ n4_ n5_ n6_;clear hb hbox hg;have hnb8:=NB275_276.out;have hnc8:=NB276_275.out;have hcz9_0:w7.cell? ⟨gb275,0,none⟩=some (.int .i64 a0_0):=(blk_cell BK275.out 0).trans rfl;have hcz9_1:w7.cell? ⟨gb275,1,none⟩=some (.int .i64 a0_1):=(blk_cell BK275.out 1).trans rfl;have hcz9_2:w7.cell? ⟨gb275,2,none⟩=some (.int .i64 a0_2):=(blk_cell BK275.out 2).trans rfl;have hfz9_0:=fZ10_ BK275.out 0;have hfz9_1:=fZ10_ BK275.out 1;have hfz9_2:=fZ10_ BK275.out 2;have hcz10_0:w7.cell? ⟨gb276,0,none⟩=some (.int .i64 a1_0):=(blk_cell BK276.out 0).trans rfl;have hcz10_1:w7.cell? ⟨gb276,1,none⟩=some (.int .i64 a1_1):=(blk_cell BK276.out 1).trans rfl;have hcz10_2:w7.cell? ⟨gb276,2,none⟩=some (.int .i64 a1_2):=(blk_cell BK276.out 2).trans rfl;have hfz10_0:=fZ10_ BK276.out 0;have hfz10_1:=fZ10_ BK276.out 1;have hfz10_2:=fZ10_ BK276.out 2))
    go_ret
    exact ⟨by first|rfl|(simp [errW_none,errW_some] <;> rfl)|(simp [*,errW_none,errW_some] <;> rfl),by repeat (first|(with_reducible first|exact HB.out|apply bA10_|apply bN10_|apply bD10_|refine bS10_ ?_ GE275.out|refine bS10_ ?_ GE276.out)|exact HB.out)⟩
   ·rw [if_neg c5] at H
    have c5b0 : (a0_2 == a1_2) = false := beq_eq_false_iff_ne.mpr c5
    have c5b1 : (a0_2 != a1_2) = true := bne_iff_ne.mpr c5
    obtain rfl := Option.some.inj H
    go_enter Try.func50, Try.ntmps50
    go_wp2_with (first|((with_reducible refine gate_dst (N:=2) rfl ?_);refine box_event ?hg (N:=2) ?hd (cs:=#[.int .i64 a0_0,.int .i64 a0_1,.int .i64 a0_2]) (t:=32) ?hr ?_;(case hd=>rfl);(case hg=>rfl);(case hr=>first|(go_simp;done)|(go_simp;rfl));intro gb275 hg w11 hbox hb;have n0_:=mk10_ (bT10_ (by repeat (first|(with_reducible first|exact HB.out|apply bA10_|apply bN10_|apply bD10_)|exact HB.out)) hb);have n1_:=mk10_ (hbox);have n2_:=mk10_ ((by rw [hg];exact (bZ10_ (by repeat (first|(with_reducible first|exact HB.out|apply bA10_|apply bN10_|apply bD10_)|exact HB.out))):w.heap.size≤gb275));have n3_:=mk10_ ((by rw [hg];exact (bZ10_ (by repeat (first|(with_reducible first|exact HB.out|apply bA10_|apply bN10_|apply bD10_)|exact HB.out))):w.heap.size≤gb275));clear HB;have HB:=n0_;have BK275:=n1_;have GW275:=n2_;have GE275:=n3_;clear n0_ n1_ n2_ n3_;clear hb hbox hg)|((with_reducible refine gate_dst (N:=3) rfl ?_);refine box_event ?hg (N:=3) ?hd (cs:=#[.int .i64 a1_0,.int .i64 a1_1,.int .i64 a1_2]) (t:=32) ?hr ?_;(case hd=>rfl);(case hg=>rfl);(case hr=>first|(go_simp;done)|(go_simp;rfl));intro gb276 hg w12 hbox hb;have n0_:=mk10_ (blk_below (g:=gb275) (o:=.cells #[.int .i64 a0_0,.int .i64 a0_1,.int .i64 a0_2] 32 (0,0)) (by (with_reducible repeat (first|refine kN10_ ?_ _|refine kD10_ ?_|refine blk_alloc ?_ _));exact BK275.out) hb);have n1_:=mk10_ (bT10_ (by repeat (first|(with_reducible first|exact HB.out|apply bA10_|apply bN10_|apply bD10_|refine bS10_ ?_ GE275.out)|exact HB.out)) hb);have n2_:=mk10_ (hbox);have n3_:=mk10_ ((by rw [hg];exact (bZ10_ (by repeat (first|(with_reducible first|exact HB.out|apply bA10_|apply bN10_|apply bD10_|refine bS10_ ?_ GE275.out)|exact HB.out))):w.heap.size≤gb276));have n4_:=mk10_ ((by rw [hg];exact (bZ10_ (by repeat (first|(with_reducible first|exact HB.out|apply bA10_|apply bN10_|apply bD10_|refine bS10_ ?_ GE275.out)|exact HB.out))):w.heap.size≤gb276));have n5_:=mk10_ ((by rw [hg];exact Nat.ne_of_lt (blk_lt (g:=gb275) (o:=.cells #[.int .i64 a0_0,.int .i64 a0_1,.int .i64 a0_2] 32 (0,0)) (by (with_reducible repeat (first|refine kN10_ ?_ _|refine kD10_ ?_|refine blk_alloc ?_ _));exact BK275.out)):gb275≠gb276));have n6_:=mk10_ ((by rw [hg];exact Nat.ne_of_gt (blk_lt (g:=gb275) (o:=.cells #[.int .i64 a0_0,.int .i64 a0_1,.int .i64 a0_2] 32 (0,0)) (by (with_reducible repeat (first|refine kN10_ ?_ _|refine kD10_ ?_|refine blk_alloc ?_ _));exact BK275.out)):gb276≠gb275));clear BK275;clear HB;have BK275:=n0_;have HB:=n1_;have BK276:=n2_;have GW276:=n3_;have GE276:=n4_;have NB275_276:=n5_;have NB276_275:=n6_;clear n0_ n1_ n2_ n3_ n4_ n5_ n6_;clear hb hbox hg;have hnb13:=NB275_276.out;have hnc13:=NB276_275.out;have hcz14_0:w12.cell? ⟨gb275,0,none⟩=some (.int .i64 a0_0):=(blk_cell BK275.out 0).trans rfl;have hcz14_1:w12.cell? ⟨gb275,1,none⟩=some (.int .i64 a0_1):=(blk_cell BK275.out 1).trans rfl;have hcz14_2:w12.cell? ⟨gb275,2,none⟩=some (.int .i64 a0_2):=(blk_cell BK275.out 2).trans rfl;have hfz14_0:=fZ10_ BK275.out 0;have hfz14_1:=fZ10_ BK275.out 1;have hfz14_2:=fZ10_ BK275.out 2;have hcz15_0:w12.cell? ⟨gb276,0,none⟩=some (.int .i64 a1_0):=(blk_cell BK276.out 0).trans rfl;have hcz15_1:w12.cell? ⟨gb276,1,none⟩=some (.int .i64 a1_1):=(blk_cell BK276.out 1).trans rfl;have hcz15_2:w12.cell? ⟨gb276,2,none⟩=some (.int .i64 a1_2):=(blk_cell BK276.out 2).trans rfl;have hfz15_0:=fZ10_ BK276.out 0;have hfz15_1:=fZ10_ BK276.out 1;have hfz15_2:=fZ10_ BK276.out 2))
    go_ret
    exact ⟨by first|rfl|(simp [errW_none,errW_some] <;> rfl)|(simp [*,errW_none,errW_some] <;> rfl),by repeat (first|(with_reducible first|exact HB.out|apply bA10_|apply bN10_|apply bD10_|refine bS10_ ?_ GE275.out|refine bS10_ ?_ GE276.out)|exact HB.out)⟩
  ·rw [if_neg c4] at H
   have c4b0 : (a0_1 == a1_1) = false := beq_eq_false_iff_ne.mpr c4
   have c4b1 : (a0_1 != a1_1) = true := bne_iff_ne.mpr c4
   obtain rfl := Option.some.inj H
   go_enter Try.func50, Try.ntmps50
   go_wp2_with (first|((with_reducible refine gate_dst (N:=2) rfl ?_);refine box_event ?hg (N:=2) ?hd (cs:=#[.int .i64 a0_0,.int .i64 a0_1,.int .i64 a0_2]) (t:=32) ?hr ?_;(case hd=>rfl);(case hg=>rfl);(case hr=>first|(go_simp;done)|(go_simp;rfl));intro gb275 hg w16 hbox hb;have n0_:=mk10_ (bT10_ (by repeat (first|(with_reducible first|exact HB.out|apply bA10_|apply bN10_|apply bD10_)|exact HB.out)) hb);have n1_:=mk10_ (hbox);have n2_:=mk10_ ((by rw [hg];exact (bZ10_ (by repeat (first|(with_reducible first|exact HB.out|apply bA10_|apply bN10_|apply bD10_)|exact HB.out))):w.heap.size≤gb275));have n3_:=mk10_ ((by rw [hg];exact (bZ10_ (by repeat (first|(with_reducible first|exact HB.out|apply bA10_|apply bN10_|apply bD10_)|exact HB.out))):w.heap.size≤gb275));clear HB;have HB:=n0_;have BK275:=n1_;have GW275:=n2_;have GE275:=n3_;clear n0_ n1_ n2_ n3_;clear hb hbox hg)|((with_reducible refine gate_dst (N:=3) rfl ?_);refine box_event ?hg (N:=3) ?hd (cs:=#[.int .i64 a1_0,.int .i64 a1_1,.int .i64 a1_2]) (t:=32) ?hr ?_;(case hd=>rfl);(case hg=>rfl);(case hr=>first|(go_simp;done)|(go_simp;rfl));intro gb276 hg w17 hbox hb;have n0_:=mk10_ (blk_below (g:=gb275) (o:=.cells #[.int .i64 a0_0,.int .i64 a0_1,.int .i64 a0_2] 32 (0,0)) (by (with_reducible repeat (first|refine kN10_ ?_ _|refine kD10_ ?_|refine blk_alloc ?_ _));exact BK275.out) hb);have n1_:=mk10_ (bT10_ (by repeat (first|(with_reducible first|exact HB.out|apply bA10_|apply bN10_|apply bD10_|refine bS10_ ?_ GE275.out)|exact HB.out)) hb);have n2_:=mk10_ (hbox);have n3_:=mk10_ ((by rw [hg];exact (bZ10_ (by repeat (first|(with_reducible first|exact HB.out|apply bA10_|apply bN10_|apply bD10_|refine bS10_ ?_ GE275.out)|exact HB.out))):w.heap.size≤gb276));have n4_:=mk10_ ((by rw [hg];exact (bZ10_ (by repeat (first|(with_reducible first|exact HB.out|apply bA10_|apply bN10_|apply bD10_|refine bS10_ ?_ GE275.out)|exact HB.out))):w.heap.size≤gb276));have n5_:=mk10_ ((by rw [hg];exact Nat.ne_of_lt (blk_lt (g:=gb275) (o:=.cells #[.int .i64 a0_0,.int .i64 a0_1,.int .i64 a0_2] 32 (0,0)) (by (with_reducible repeat (first|refine kN10_ ?_ _|refine kD10_ ?_|refine blk_alloc ?_ _));exact BK275.out)):gb275≠gb276));have n6_:=mk10_ ((by rw [hg];exact Nat.ne_of_gt (blk_lt (g:=gb275) (o:=.cells #[.int .i64 a0_0,.int .i64 a0_1,.int .i64 a0_2] 32 (0,0)) (by (with_reducible repeat (first|refine kN10_ ?_ _|refine kD10_ ?_|refine blk_alloc ?_ _));exact BK275.out)):gb276≠gb275));clear BK275;clear HB;have BK275:=n0_;have HB:=n1_;have BK276:=n2_;have GW276:=n3_;have GE276:=n4_;have NB275_276:=n5_;have NB276_275:=n6_;clear n0_ n1_ n2_ n3_ n4_ n5_ n6_;clear hb hbox hg;have hnb18:=NB275_276.out;have hnc18:=NB276_275.out;have hcz19_0:w17.cell? ⟨gb275,0,none⟩=some (.int .i64 a0_0):=(blk_cell BK275.out 0).trans rfl;have hcz19_1:w17.cell? ⟨gb275,1,none⟩=some (.int .i64 a0_1):=(blk_cell BK275.out 1).trans rfl;have hcz19_2:w17.cell? ⟨gb275,2,none⟩=some (.int .i64 a0_2):=(blk_cell BK275.out 2).trans rfl;have hfz19_0:=fZ10_ BK275.out 0;have hfz19_1:=fZ10_ BK275.out 1;have hfz19_2:=fZ10_ BK275.out 2;have hcz20_0:w17.cell? ⟨gb276,0,none⟩=some (.int .i64 a1_0):=(blk_cell BK276.out 0).trans rfl;have hcz20_1:w17.cell? ⟨gb276,1,none⟩=some (.int .i64 a1_1):=(blk_cell BK276.out 1).trans rfl;have hcz20_2:w17.cell? ⟨gb276,2,none⟩=some (.int .i64 a1_2):=(blk_cell BK276.out 2).trans rfl;have hfz20_0:=fZ10_ BK276.out 0;have hfz20_1:=fZ10_ BK276.out 1;have hfz20_2:=fZ10_ BK276.out 2))
   go_ret
   exact ⟨by first|rfl|(simp [errW_none,errW_some] <;> rfl)|(simp [*,errW_none,errW_some] <;> rfl),by repeat (first|(with_reducible first|exact HB.out|apply bA10_|apply bN10_|apply bD10_|refine bS10_ ?_ GE275.out|refine bS10_ ?_ GE276.out)|exact HB.out)⟩
 ·rw [if_neg c3] at H
  have c3b0 : (a0_0 == a1_0) = false := beq_eq_false_iff_ne.mpr c3
  have c3b1 : (a0_0 != a1_0) = true := bne_iff_ne.mpr c3
  obtain rfl := Option.some.inj H
  go_enter Try.func50, Try.ntmps50
  go_wp2_with (first|((with_reducible refine gate_dst (N:=2) rfl ?_);refine box_event ?hg (N:=2) ?hd (cs:=#[.int .i64 a0_0,.int .i64 a0_1,.int .i64 a0_2]) (t:=32) ?hr ?_;(case hd=>rfl);(case hg=>rfl);(case hr=>first|(go_simp;done)|(go_simp;rfl));intro gb275 hg w21 hbox hb;have n0_:=mk10_ (bT10_ (by repeat (first|(with_reducible first|exact HB.out|apply bA10_|apply bN10_|apply bD10_)|exact HB.out)) hb);have n1_:=mk10_ (hbox);have n2_:=mk10_ ((by rw [hg];exact (bZ10_ (by repeat (first|(with_reducible first|exact HB.out|apply bA10_|apply bN10_|apply bD10_)|exact HB.out))):w.heap.size≤gb275));have n3_:=mk10_ ((by rw [hg];exact (bZ10_ (by repeat (first|(with_reducible first|exact HB.out|apply bA10_|apply bN10_|apply bD10_)|exact HB.out))):w.heap.size≤gb275));clear HB;have HB:=n0_;have BK275:=n1_;have GW275:=n2_;have GE275:=n3_;clear n0_ n1_ n2_ n3_;clear hb hbox hg)|((with_reducible refine gate_dst (N:=3) rfl ?_);refine box_event ?hg (N:=3) ?hd (cs:=#[.int .i64 a1_0,.int .i64 a1_1,.int .i64 a1_2]) (t:=32) ?hr ?_;(case hd=>rfl);(case hg=>rfl);(case hr=>first|(go_simp;done)|(go_simp;rfl));intro gb276 hg w22 hbox hb;have n0_:=mk10_ (blk_below (g:=gb275) (o:=.cells #[.int .i64 a0_0,.int .i64 a0_1,.int .i64 a0_2] 32 (0,0)) (by (with_reducible repeat (first|refine kN10_ ?_ _|refine kD10_ ?_|refine blk_alloc ?_ _));exact BK275.out) hb);have n1_:=mk10_ (bT10_ (by repeat (first|(with_reducible first|exact HB.out|apply bA10_|apply bN10_|apply bD10_|refine bS10_ ?_ GE275.out)|exact HB.out)) hb);have n2_:=mk10_ (hbox);have n3_:=mk10_ ((by rw [hg];exact (bZ10_ (by repeat (first|(with_reducible first|exact HB.out|apply bA10_|apply bN10_|apply bD10_|refine bS10_ ?_ GE275.out)|exact HB.out))):w.heap.size≤gb276));have n4_:=mk10_ ((by rw [hg];exact (bZ10_ (by repeat (first|(with_reducible first|exact HB.out|apply bA10_|apply bN10_|apply bD10_|refine bS10_ ?_ GE275.out)|exact HB.out))):w.heap.size≤gb276));have n5_:=mk10_ ((by rw [hg];exact Nat.ne_of_lt (blk_lt (g:=gb275) (o:=.cells #[.int .i64 a0_0,.int .i64 a0_1,.int .i64 a0_2] 32 (0,0)) (by (with_reducible repeat (first|refine kN10_ ?_ _|refine kD10_ ?_|refine blk_alloc ?_ _));exact BK275.out)):gb275≠gb276));have n6_:=mk10_ ((by rw [hg];exact Nat.ne_of_gt (blk_lt (g:=gb275) (o:=.cells #[.int .i64 a0_0,.int .i64 a0_1,.int .i64 a0_2] 32 (0,0)) (by (with_reducible repeat (first|refine kN10_ ?_ _|refine kD10_ ?_|refine blk_alloc ?_ _));exact BK275.out)):gb276≠gb275));clear BK275;clear HB;have BK275:=n0_;have HB:=n1_;have BK276:=n2_;have GW276:=n3_;have GE276:=n4_;have NB275_276:=n5_;have NB276_275:=n6_;clear n0_ n1_ n2_ n3_ n4_ n5_ n6_;clear hb hbox hg;have hnb23:=NB275_276.out;have hnc23:=NB276_275.out;have hcz24_0:w22.cell? ⟨gb275,0,none⟩=some (.int .i64 a0_0):=(blk_cell BK275.out 0).trans rfl;have hcz24_1:w22.cell? ⟨gb275,1,none⟩=some (.int .i64 a0_1):=(blk_cell BK275.out 1).trans rfl;have hcz24_2:w22.cell? ⟨gb275,2,none⟩=some (.int .i64 a0_2):=(blk_cell BK275.out 2).trans rfl;have hfz24_0:=fZ10_ BK275.out 0;have hfz24_1:=fZ10_ BK275.out 1;have hfz24_2:=fZ10_ BK275.out 2;have hcz25_0:w22.cell? ⟨gb276,0,none⟩=some (.int .i64 a1_0):=(blk_cell BK276.out 0).trans rfl;have hcz25_1:w22.cell? ⟨gb276,1,none⟩=some (.int .i64 a1_1):=(blk_cell BK276.out 1).trans rfl;have hcz25_2:w22.cell? ⟨gb276,2,none⟩=some (.int .i64 a1_2):=(blk_cell BK276.out 2).trans rfl;have hfz25_0:=fZ10_ BK276.out 0;have hfz25_1:=fZ10_ BK276.out 1;have hfz25_2:=fZ10_ BK276.out 2))
  go_ret
  exact ⟨by first|rfl|(simp [errW_none,errW_some] <;> rfl)|(simp [*,errW_none,errW_some] <;> rfl),by repeat (first|(with_reducible first|exact HB.out|apply bA10_|apply bN10_|apply bD10_|refine bS10_ ?_ GE275.out|refine bS10_ ?_ GE276.out)|exact HB.out)⟩

def laws_eqStringS.l0 : Nat → List ByteArray → List ByteArray → Int → Option (Bool)
 | 0, _, _, _ => none
 | k+1,x0,x1,x5=>if x5 < (x0.length:Int) then (if 0≤x5 then (if x5 < (x1.length:Int) then (if (rdOf ByteArray.empty x0 x5).toList=(rdOf ByteArray.empty x1 x5).toList then (laws_eqStringS.l0 k x0 x1 (wrap64 (x5+1))) else (some false)) else (none)) else (none)) else (some true)
def laws_eqStringS.f (k:Nat) (l0:List ByteArray) (l1:List ByteArray):Option (Bool):=if (l0.length:Int)=(l1.length:Int) then (laws_eqStringS.l0 k l0 l1 0) else (some false)
set_option maxHeartbeats 8000000 in
set_option maxRecDepth 100000 in
theorem laws_eqStringS.calls (k:Nat) (A0:Option Addr) (c0:Nat) (l0:List ByteArray) (A1:Option Addr) (c1:Nat) (l1:List ByteArray) (r:Bool) (w:World) (hr0:Kd.C Kd.string w A0 l0.length l0) (hc0:l0.length≤c0) (hr1:Kd.C Kd.string w A1 l1.length l1) (hc1:l1.length≤c1) (h:laws_eqStringS.f k l0 l1=some r) :
  Calls Try.prog 66 #[.slice A0 l0.length c0,.slice A1 l1.length c1] w fun e w'=>e=.returned (.bool r)∧Drawn0 w w':=by
 have HR0 := Aside0.mk hr0
 have HC0 := Aside0.mk hc0
 clear hr0 hc0
 have HR1 := Aside0.mk hr1
 have HC1 := Aside0.mk hc1
 clear hr1 hc1
 have H:(if (l0.length:Int)=(l1.length:Int) then (laws_eqStringS.l0 k l0 l1 0) else (some false))=some r:=h
 clear h
 by_cases c3 : (l0.length : Int) = (l1.length : Int)
 ·rw [if_pos c3] at H
  have c3b0 : ((l0.length : Int) == (l1.length : Int)) = true := beq_iff_eq.mpr c3
  have c3b1 : ((l0.length : Int) != (l1.length : Int)) = false := bne_eq_false_iff_eq.mpr c3
  have c3b2:(l0.length == l1.length)=true:=by first|simpa using c3|(simp at c3 ⊢;omega)
  clear c3
  have H' := Aside0.mk H
  clear H
  go_enter Try.func66, Try.ntmps66
  go_wp2
  repeat (go_quiet (fail); try go_wp2)
  go_loopg [5] k (fun kq v5 w'=>∃ (x5_1:Int),v5=.int .i64 x5_1∧Aside0 (laws_eqStringS.l0 kq l0 l1 x5_1=some r)∧Aside0 (kq≤k)∧Drawn0 w w')
  case atStart=>exact ⟨(0),(by first|rfl|(simp;done)|(simp [*];done)),H',⟨Nat.le_refl _⟩,by repeat (first|exact Drawn0.refl _|apply Drawn0.step)⟩
  case round =>
   clear H'
   try clear c1
   try clear p2
   try clear c3
   try clear c3b0
   try clear c3b1
   try clear c3b2
   obtain ⟨x5_1, rfl, HA, HK1, ⟨m1, rfl⟩⟩ := hrel
   cases gk with
   | zero => exact absurd HA.out (by simp [laws_eqStringS.l0])
   | succ k1 =>
    have H := HA.out
    clear HA
    simp only [laws_eqStringS.l0] at H
    by_cases c4 : x5_1 < (l0.length : Int)
    ·rw [if_pos c4] at H
     have c4b0 : decide (x5_1 < (l0.length : Int)) = true := decide_eq_true c4
     clear c4
     by_cases c5 : 0 ≤ x5_1
     ·rw [if_pos c5] at H
      have c5b0 : decide (0 ≤ x5_1) = true := decide_eq_true c5
      clear c5
      by_cases c6 : x5_1 < (l1.length : Int)
      ·rw [if_pos c6] at H
       have c6b0 : decide (x5_1 < (l1.length : Int)) = true := decide_eq_true c6
       clear c6
       by_cases c7:(rdOf ByteArray.empty l0 x5_1).toList=(rdOf ByteArray.empty l1 x5_1).toList
       ·rw [if_pos c7] at H
        have c7b0:((rdOf ByteArray.empty l0 x5_1).toList == (rdOf ByteArray.empty l1 x5_1).toList)=true:=beq_iff_eq.mpr c7
        have c7b1:((rdOf ByteArray.empty l0 x5_1).toList != (rdOf ByteArray.empty l1 x5_1).toList)=false:=bne_eq_false_iff_eq.mpr c7
        clear c7
        have H' := Aside0.mk H
        clear H
        have p277:0≤(x5_1:Int):=of_decide_eq_true (by first|(with_reducible assumption)|assumption)
        have q277:x5_1 < (l0.length:Int):=of_decide_eq_true (by first|(with_reducible assumption)|assumption)
        obtain ⟨ad277, e277, hx277_0⟩ := Kd.at_string HR0.out x5_1 p277 q277
        cases e277
        replace p277 := eq_true p277
        replace q277 := eq_true q277
        have p278:0≤(x5_1:Int):=of_decide_eq_true (by first|(with_reducible assumption)|assumption)
        have q278:x5_1 < (l1.length:Int):=of_decide_eq_true (by first|(with_reducible assumption)|assumption)
        obtain ⟨ad278, e278, hx278_0⟩ := Kd.at_string HR1.out x5_1 p278 q278
        cases e278
        replace p278 := eq_true p278
        replace q278 := eq_true q278
        go_wp2
        repeat (go_quiet (fail); try go_wp2)
        go_roundg k1
        case measure => have := HK1.out; omega
        case rel=>exact ⟨(wrap64 (x5_1+1)),(by first|rfl|(simp;done)|(simp [*];done)),H',⟨by have:=HK1.out;omega⟩,by repeat (first|exact Drawn0.refl _|apply Drawn0.step)⟩
       ·rw [if_neg c7] at H
        have c7b0:((rdOf ByteArray.empty l0 x5_1).toList == (rdOf ByteArray.empty l1 x5_1).toList)=false:=beq_eq_false_iff_ne.mpr c7
        have c7b1:((rdOf ByteArray.empty l0 x5_1).toList != (rdOf ByteArray.empty l1 x5_1).toList)=true:=bne_iff_ne.mpr c7
        obtain rfl := Option.some.inj H
        have p277:0≤(x5_1:Int):=of_decide_eq_true (by first|(with_reducible assumption)|assumption)
        have q277:x5_1 < (l0.length:Int):=of_decide_eq_true (by first|(with_reducible assumption)|assumption)
        obtain ⟨ad277, e277, hx277_0⟩ := Kd.at_string HR0.out x5_1 p277 q277
        cases e277
        replace p277 := eq_true p277
        replace q277 := eq_true q277
        have p278:0≤(x5_1:Int):=of_decide_eq_true (by first|(with_reducible assumption)|assumption)
        have q278:x5_1 < (l1.length:Int):=of_decide_eq_true (by first|(with_reducible assumption)|assumption)
        obtain ⟨ad278, e278, hx278_0⟩ := Kd.at_string HR1.out x5_1 p278 q278
        cases e278
        replace p278 := eq_true p278
        replace q278 := eq_true q278
        go_wp2
        repeat (go_quiet (fail); try go_wp2)
        go_ret
        exact ⟨by first|rfl|(simp;done)|(simp [*];done),by repeat (first|exact Drawn0.refl _|apply Drawn0.step)⟩
      ·rw [if_neg c6] at H
       exact absurd H (by simp)
     ·rw [if_neg c5] at H
      exact absurd H (by simp)
    ·rw [if_neg c4] at H
     have c4b0 : decide (x5_1 < (l0.length : Int)) = false := decide_eq_false c4
     clear c4
     obtain rfl := Option.some.inj H
     go_wp2
     repeat (go_quiet (fail); try go_wp2)
     go_ret
     exact ⟨by first|rfl|(simp;done)|(simp [*];done),by repeat (first|exact Drawn0.refl _|apply Drawn0.step)⟩
 ·rw [if_neg c3] at H
  have c3b0 : ((l0.length : Int) == (l1.length : Int)) = false := beq_eq_false_iff_ne.mpr c3
  have c3b1 : ((l0.length : Int) != (l1.length : Int)) = true := bne_iff_ne.mpr c3
  have c3b2:(l0.length == l1.length)=false:=by first|simpa using c3|(simp at c3 ⊢;omega)
  obtain rfl := Option.some.inj H
  go_enter Try.func66, Try.ntmps66
  go_wp2
  repeat (go_quiet (fail); try go_wp2)
  go_ret
  exact ⟨by first|rfl|(simp;done)|(simp [*];done),by repeat (first|exact Drawn0.refl _|apply Drawn0.step)⟩

def laws_eqBlock.f (k:Nat) (a0_0:Int) (a0_1:Int) (a0_2:Bool) (l0_3:List ByteArray) (a1_0:Int) (a1_1:Int) (a1_2:Bool) (l1_3:List ByteArray):Option (Bool):=if a0_0=a1_0 then (if a0_1=a1_1 then (if (a0_2 != a1_2)=true then (some false) else ((laws_eqStringS.f k l0_3 l1_3).bind fun t281=>(if t281=true then (some true) else (some false)))) else (some false)) else (some false)
set_option maxHeartbeats 8000000 in
set_option maxRecDepth 100000 in
theorem laws_eqBlock.calls (k:Nat) (a0_0:Int) (a0_1:Int) (a0_2:Bool) (A0_3:Option Addr) (c0_3:Nat) (l0_3:List ByteArray) (a1_0:Int) (a1_1:Int) (a1_2:Bool) (A1_3:Option Addr) (c1_3:Nat) (l1_3:List ByteArray) (r:Bool) (w:World) (hr0_3:Kd.C Kd.string w A0_3 l0_3.length l0_3) (hc0_3:l0_3.length≤c0_3) (hr1_3:Kd.C Kd.string w A1_3 l1_3.length l1_3) (hc1_3:l1_3.length≤c1_3) (h:laws_eqBlock.f k a0_0 a0_1 a0_2 l0_3 a1_0 a1_1 a1_2 l1_3=some r) :
  Calls Try.prog 64 #[.agg #[.int .i64 a0_0,.int .i64 a0_1,.bool a0_2,.slice A0_3 l0_3.length c0_3],.agg #[.int .i64 a1_0,.int .i64 a1_1,.bool a1_2,.slice A1_3 l1_3.length c1_3]] w fun e w'=>e=.returned (.bool r)∧Below w.heap.size w w':=by
 have hu68 := Try.underlying68
 have HR0_3 := Aside0.mk hr0_3
 have HC0_3 := Aside0.mk hc0_3
 clear hr0_3 hc0_3
 have HR1_3 := Aside0.mk hr1_3
 have HC1_3 := Aside0.mk hc1_3
 clear hr1_3 hc1_3
 have HB := Aside0.mk (Below.refl w.heap.size w)
 have H:(if a0_0=a1_0 then (if a0_1=a1_1 then (if (a0_2 != a1_2)=true then (some false) else ((laws_eqStringS.f k l0_3 l1_3).bind fun t281=>(if t281=true then (some true) else (some false)))) else (some false)) else (some false))=some r:=h
 clear h
 by_cases c3 : a0_0 = a1_0
 ·rw [if_pos c3] at H
  have c3b0 : (a0_0 == a1_0) = true := beq_iff_eq.mpr c3
  have c3b1 : (a0_0 != a1_0) = false := bne_eq_false_iff_eq.mpr c3
  clear c3
  by_cases c4 : a0_1 = a1_1
  ·rw [if_pos c4] at H
   have c4b0 : (a0_1 == a1_1) = true := beq_iff_eq.mpr c4
   have c4b1 : (a0_1 != a1_1) = false := bne_eq_false_iff_eq.mpr c4
   clear c4
   by_cases c5 : (a0_2 != a1_2) = true
   ·rw [if_pos c5] at H
    have c5b0 : (a0_2 != a1_2) = true := c5
    (try (have c5b1 : decide (a0_2 = a1_2) = false := by simpa using c5))
    (try (have c5b2 : (a0_2 == a1_2) = false := by simpa using c5))
    (try (have c5b3 : ¬ (a0_2 = a1_2) := by simpa using c5))
    clear c5
    obtain rfl := Option.some.inj H
    go_enter Try.func64, Try.ntmps64
    go_wp2_with (first|((with_reducible refine gate_dst (N:=2) rfl ?_);refine box_event ?hg (N:=2) ?hd (cs:=#[.int .i64 a0_0,.int .i64 a0_1,.bool a0_2,.slice A0_3 l0_3.length c0_3]) (t:=68) ?hr ?_;(case hd=>rfl);(case hg=>rfl);(case hr=>first|(go_simp;done)|(go_simp;rfl));intro gb279 hg w6 hbox hb;have n0_:=mk10_ (bT10_ (by repeat (first|(with_reducible first|exact HB.out|apply bA10_|apply bN10_|apply bD10_)|exact HB.out)) hb);have n1_:=mk10_ (hbox);have n2_:=mk10_ ((by rw [hg];exact (bZ10_ (by repeat (first|(with_reducible first|exact HB.out|apply bA10_|apply bN10_|apply bD10_)|exact HB.out))):w.heap.size≤gb279));have n3_:=mk10_ ((by rw [hg];exact (bZ10_ (by repeat (first|(with_reducible first|exact HB.out|apply bA10_|apply bN10_|apply bD10_)|exact HB.out))):w.heap.size≤gb279));clear HB;have HB:=n0_;have BK279:=n1_;have GW279:=n2_;have GE279:=n3_;clear n0_ n1_ n2_ n3_;clear hb hbox hg)|((with_reducible refine gate_dst (N:=3) rfl ?_);refine box_event ?hg (N:=3) ?hd (cs:=#[.int .i64 a1_0,.int .i64 a1_1,.bool a1_2,.slice A1_3 l1_3.length c1_3]) (t:=68) ?hr ?_;(case hd=>rfl);(case hg=>rfl);(case hr=>first|(go_simp;done)|(go_simp;rfl));intro gb280 hg w7 hbox hb;have n0_:=mk10_ (blk_below (g:=gb279) (o:=.cells #[.int .i64 a0_0,.int .i64 a0_1,.bool a0_2,.slice A0_3 l0_3.length c0_3] 68 (0,0)) (by (with_reducible repeat (first|refine kN10_ ?_ _|refine kD10_ ?_|refine blk_alloc ?_ _));exact BK279.out) hb);have n1_:=mk10_ (bT10_ (by repeat (first|(with_reducible first|exact HB.out|apply bA10_|apply bN10_|apply bD10_|refine bS10_ ?_ GE279.out)|exact HB.out)) hb);have n2_:=mk10_ (hbox);have n3_:=mk10_ ((by rw [hg];exact (bZ10_ (by repeat (first|(with_reducible first|exact HB.out|apply bA10_|apply bN10_|apply bD10_|refine bS10_ ?_ GE279.out)|exact HB.out))):w.heap.size≤gb280));have n4_:=mk10_ ((by rw [hg];exact (bZ10_ (by repeat (first|(with_reducible first|exact HB.out|apply bA10_|apply bN10_|apply bD10_|refine bS10_ ?_ GE279.out)|exact HB.out))):w.heap.size≤gb280));have n5_:=mk10_ ((by rw [hg];exact Nat.ne_of_lt (blk_lt (g:=gb279) (o:=.cells #[.int .i64 a0_0,.int .i64 a0_1,.bool a0_2,.slice A0_3 l0_3.length c0_3] 68 (0,0)) (by (with_reducible repeat (first|refine kN10_ ?_ _|refine kD10_ ?_|refine blk_alloc ?_ _));exact BK279.out)):gb279≠gb280));have n6_:=mk10_ ((by rw [hg];exact Nat.ne_of_gt (blk_lt (g:=gb279) (o:=.cells #[.int .i64 a0_0,.int .i64 a0_1,.bool a0_2,.slice A0_3 l0_3.length c0_3] 68 (0,0)) (by (with_reducible repeat (first|refine kN10_ ?_ _|refine kD10_ ?_|refine blk_alloc ?_ _));exact BK279.out)):gb280≠gb279));clear BK279;clear HB;have BK279:=n0_;have HB:=n1_;have BK280:=n2_;have GW280:=n3_;have GE280:=n4_;have NB279_280:=n5_;have NB280_279:=n6_;clear n0_ n1_ n2_ n3_ n4_ n5_ n6_;clear hb hbox hg;have hnb8:=NB279_280.out;have hnc8:=NB280_279.out;have hcz9_0:w7.cell? ⟨gb279,0,none⟩=some (.int .i64 a0_0):=(blk_cell BK279.out 0).trans rfl;have hcz9_1:w7.cell? ⟨gb279,1,none⟩=some (.int .i64 a0_1):=(blk_cell BK279.out 1).trans rfl;have hcz9_2:w7.cell? ⟨gb279,2,none⟩=some (.bool a0_2):=(blk_cell BK279.out 2).trans rfl;have hcz9_3:w7.cell? ⟨gb279,3,none⟩=some (.slice A0_3 l0_3.length c0_3):=(blk_cell BK279.out 3).trans rfl;have hfz9_0:=fZ10_ BK279.out 0;have hfz9_1:=fZ10_ BK279.out 1;have hfz9_2:=fZ10_ BK279.out 2;have hfz9_3:=fZ10_ BK279.out 3;have hcz10_0:w7.cell? ⟨gb280,0,none⟩=some (.int .i64 a1_0):=(blk_cell BK280.out 0).trans rfl;have hcz10_1:w7.cell? ⟨gb280,1,none⟩=some (.int .i64 a1_1):=(blk_cell BK280.out 1).trans rfl;have hcz10_2:w7.cell? ⟨gb280,2,none⟩=some (.bool a1_2):=(blk_cell BK280.out 2).trans rfl;have hcz10_3:w7.cell? ⟨gb280,3,none⟩=some (.slice A1_3 l1_3.length c1_3):=(blk_cell BK280.out 3).trans rfl;have hfz10_0:=fZ10_ BK280.out 0;have hfz10_1:=fZ10_ BK280.out 1;have hfz10_2:=fZ10_ BK280.out 2;have hfz10_3:=fZ10_ BK280.out 3))
    go_ret
    exact ⟨by first|rfl|(simp [errW_none,errW_some] <;> rfl)|(simp [*,errW_none,errW_some] <;> rfl),by repeat (first|(with_reducible first|exact HB.out|apply bA10_|apply bN10_|apply bD10_|refine bS10_ ?_ GE279.out|refine bS10_ ?_ GE280.out)|exact HB.out)⟩
   ·rw [if_neg c5] at H
    have c5b0 : (a0_2 != a1_2) = false := by simpa using c5
    (try (have c5b1 : decide (a0_2 = a1_2) = true := by simpa using c5))
    (try (have c5b2 : (a0_2 == a1_2) = true := by simpa using c5))
    clear c5
    replace H := Option.bind_eq_some_iff.mp H
    obtain ⟨t281, A110, H⟩ := H
    replace H : (if t281 = true then (some true) else (some false)) = some r := H
    have A11 := Aside0.mk A110
    clear A110
    by_cases c12 : t281 = true
    ·subst c12
     have H1 : (some true) = some r := by rw [if_pos rfl] at H; exact H
     clear H
     have H := H1
     clear H1
     obtain rfl := Option.some.inj H
     go_enter Try.func64, Try.ntmps64
     go_wp2_with (first|((with_reducible refine gate_dst (N:=2) rfl ?_);refine box_event ?hg (N:=2) ?hd (cs:=#[.int .i64 a0_0,.int .i64 a0_1,.bool a0_2,.slice A0_3 l0_3.length c0_3]) (t:=68) ?hr ?_;(case hd=>rfl);(case hg=>rfl);(case hr=>first|(go_simp;done)|(go_simp;rfl));intro gb279 hg w13 hbox hb;have n0_:=mk10_ (bT10_ (by repeat (first|(with_reducible first|exact HB.out|apply bA10_|apply bN10_|apply bD10_)|exact HB.out)) hb);have n1_:=mk10_ (hbox);have n2_:=mk10_ ((by rw [hg];exact (bZ10_ (by repeat (first|(with_reducible first|exact HB.out|apply bA10_|apply bN10_|apply bD10_)|exact HB.out))):w.heap.size≤gb279));have n3_:=mk10_ ((by rw [hg];exact (bZ10_ (by repeat (first|(with_reducible first|exact HB.out|apply bA10_|apply bN10_|apply bD10_)|exact HB.out))):w.heap.size≤gb279));clear HB;have HB:=n0_;have BK279:=n1_;have GW279:=n2_;have GE279:=n3_;clear n0_ n1_ n2_ n3_;clear hb hbox hg)|((with_reducible refine gate_dst (N:=3) rfl ?_);refine box_event ?hg (N:=3) ?hd (cs:=#[.int .i64 a1_0,.int .i64 a1_1,.bool a1_2,.slice A1_3 l1_3.length c1_3]) (t:=68) ?hr ?_;(case hd=>rfl);(case hg=>rfl);(case hr=>first|(go_simp;done)|(go_simp;rfl));intro gb280 hg w14 hbox hb;have n0_:=mk10_ (blk_below (g:=gb279) (o:=.cells #[.int .i64 a0_0,.int .i64 a0_1,.bool a0_2,.slice A0_3 l0_3.length c0_3] 68 (0,0)) (by (with_reducible repeat (first|refine kN10_ ?_ _|refine kD10_ ?_|refine blk_alloc ?_ _));exact BK279.out) hb);have n1_:=mk10_ (bT10_ (by repeat (first|(with_reducible first|exact HB.out|apply bA10_|apply bN10_|apply bD10_|refine bS10_ ?_ GE279.out)|exact HB.out)) hb);have n2_:=mk10_ (hbox);have n3_:=mk10_ ((by rw [hg];exact (bZ10_ (by repeat (first|(with_reducible first|exact HB.out|apply bA10_|apply bN10_|apply bD10_|refine bS10_ ?_ GE279.out)|exact HB.out))):w.heap.size≤gb280));have n4_:=mk10_ ((by rw [hg];exact (bZ10_ (by repeat (first|(with_reducible first|exact HB.out|apply bA10_|apply bN10_|apply bD10_|refine bS10_ ?_ GE279.out)|exact HB.out))):w.heap.size≤gb280));have n5_:=mk10_ ((by rw [hg];exact Nat.ne_of_lt (blk_lt (g:=gb279) (o:=.cells #[.int .i64 a0_0,.int .i64 a0_1,.bool a0_2,.slice A0_3 l0_3.length c0_3] 68 (0,0)) (by (with_reducible repeat (first|refine kN10_ ?_ _|refine kD10_ ?_|refine blk_alloc ?_ _));exact BK279.out)):gb279≠gb280));have n6_:=mk10_ ((by rw [hg];exact Nat.ne_of_gt (blk_lt (g:=gb279) (o:=.cells #[.int .i64 a0_0,.int .i64 a0_1,.bool a0_2,.slice A0_3 l0_3.length c0_3] 68 (0,0)) (by (with_reducible repeat (first|refine kN10_ ?_ _|refine kD10_ ?_|refine blk_alloc ?_ _));exact BK279.out)):gb280≠gb279));clear BK279;clear HB;have BK279:=n0_;have HB:=n1_;have BK280:=n2_;have GW280:=n3_;have GE280:=n4_;have NB279_280:=n5_;have NB280_279:=n6_;clear n0_ n1_ n2_ n3_ n4_ n5_ n6_;clear hb hbox hg;have hnb15:=NB279_280.out;have hnc15:=NB280_279.out;have hcz16_0:w14.cell? ⟨gb279,0,none⟩=some (.int .i64 a0_0):=(blk_cell BK279.out 0).trans rfl;have hcz16_1:w14.cell? ⟨gb279,1,none⟩=some (.int .i64 a0_1):=(blk_cell BK279.out 1).trans rfl;have hcz16_2:w14.cell? ⟨gb279,2,none⟩=some (.bool a0_2):=(blk_cell BK279.out 2).trans rfl;have hcz16_3:w14.cell? ⟨gb279,3,none⟩=some (.slice A0_3 l0_3.length c0_3):=(blk_cell BK279.out 3).trans rfl;have hfz16_0:=fZ10_ BK279.out 0;have hfz16_1:=fZ10_ BK279.out 1;have hfz16_2:=fZ10_ BK279.out 2;have hfz16_3:=fZ10_ BK279.out 3;have hcz17_0:w14.cell? ⟨gb280,0,none⟩=some (.int .i64 a1_0):=(blk_cell BK280.out 0).trans rfl;have hcz17_1:w14.cell? ⟨gb280,1,none⟩=some (.int .i64 a1_1):=(blk_cell BK280.out 1).trans rfl;have hcz17_2:w14.cell? ⟨gb280,2,none⟩=some (.bool a1_2):=(blk_cell BK280.out 2).trans rfl;have hcz17_3:w14.cell? ⟨gb280,3,none⟩=some (.slice A1_3 l1_3.length c1_3):=(blk_cell BK280.out 3).trans rfl;have hfz17_0:=fZ10_ BK280.out 0;have hfz17_1:=fZ10_ BK280.out 1;have hfz17_2:=fZ10_ BK280.out 2;have hfz17_3:=fZ10_ BK280.out 3)|((with_reducible refine gate_callee (f:=66) rfl ?_);refine goesL_ (some 24) rfl rfl Try.func66 (by kernel_rfl) rfl #[.slice A0_3 l0_3.length c0_3,.slice A1_3 l1_3.length c1_3] rfl (by (try simp only [List.map_toArray,List.map_cons,List.map_nil]);first|done|rfl|(simp only [List.length_drop,List.length_take];rfl)) ?_;(with_reducible refine (laws_eqStringS.calls k _ _ l0_3 _ _ l1_3 true _ ?side1 ?side2 ?side3 ?side4 A11.out).mono ?_);(case side1=>repeat (first|exact (Kd.C_below HR0_3.out HB.out)|(with_reducible refine Kd.C_alloc ?_ _)|(with_reducible refine Kd.C_drewN ?_ _)|(with_reducible refine Kd.C_drew ?_)));(case side2=>exact HC0_3.out);(case side3=>repeat (first|exact (Kd.C_below HR1_3.out HB.out)|(with_reducible refine Kd.C_alloc ?_ _)|(with_reducible refine Kd.C_drewN ?_ _)|(with_reducible refine Kd.C_drew ?_)));(case side4=>exact HC1_3.out);rintro e w' ⟨rfl,⟨nd,rfl⟩⟩;refine ⟨_,rfl,?_⟩))
     go_ret
     exact ⟨by first|rfl|(simp [errW_none,errW_some] <;> rfl)|(simp [*,errW_none,errW_some] <;> rfl),by repeat (first|(with_reducible first|exact HB.out|apply bA10_|apply bN10_|apply bD10_|refine bS10_ ?_ GE279.out|refine bS10_ ?_ GE280.out)|exact HB.out)⟩
    ·replace c12 := Bool.eq_false_iff.mpr c12
     subst c12
     have H1:(some false)=some r:=by rw [if_neg (show ¬ (false=true) by decide)] at H;exact H
     clear H
     have H := H1
     clear H1
     obtain rfl := Option.some.inj H
     go_enter Try.func64, Try.ntmps64
     go_wp2_with (first|((with_reducible refine gate_dst (N:=2) rfl ?_);refine box_event ?hg (N:=2) ?hd (cs:=#[.int .i64 a0_0,.int .i64 a0_1,.bool a0_2,.slice A0_3 l0_3.length c0_3]) (t:=68) ?hr ?_;(case hd=>rfl);(case hg=>rfl);(case hr=>first|(go_simp;done)|(go_simp;rfl));intro gb279 hg w18 hbox hb;have n0_:=mk10_ (bT10_ (by repeat (first|(with_reducible first|exact HB.out|apply bA10_|apply bN10_|apply bD10_)|exact HB.out)) hb);have n1_:=mk10_ (hbox);have n2_:=mk10_ ((by rw [hg];exact (bZ10_ (by repeat (first|(with_reducible first|exact HB.out|apply bA10_|apply bN10_|apply bD10_)|exact HB.out))):w.heap.size≤gb279));have n3_:=mk10_ ((by rw [hg];exact (bZ10_ (by repeat (first|(with_reducible first|exact HB.out|apply bA10_|apply bN10_|apply bD10_)|exact HB.out))):w.heap.size≤gb279));clear HB;have HB:=n0_;have BK279:=n1_;have GW279:=n2_;have GE279:=n3_;clear n0_ n1_ n2_ n3_;clear hb hbox hg)|((with_reducible refine gate_dst (N:=3) rfl ?_);refine box_event ?hg (N:=3) ?hd (cs:=#[.int .i64 a1_0,.int .i64 a1_1,.bool a1_2,.slice A1_3 l1_3.length c1_3]) (t:=68) ?hr ?_;(case hd=>rfl);(case hg=>rfl);(case hr=>first|(go_simp;done)|(go_simp;rfl));intro gb280 hg w19 hbox hb;have n0_:=mk10_ (blk_below (g:=gb279) (o:=.cells #[.int .i64 a0_0,.int .i64 a0_1,.bool a0_2,.slice A0_3 l0_3.length c0_3] 68 (0,0)) (by (with_reducible repeat (first|refine kN10_ ?_ _|refine kD10_ ?_|refine blk_alloc ?_ _));exact BK279.out) hb);have n1_:=mk10_ (bT10_ (by repeat (first|(with_reducible first|exact HB.out|apply bA10_|apply bN10_|apply bD10_|refine bS10_ ?_ GE279.out)|exact HB.out)) hb);have n2_:=mk10_ (hbox);have n3_:=mk10_ ((by rw [hg];exact (bZ10_ (by repeat (first|(with_reducible first|exact HB.out|apply bA10_|apply bN10_|apply bD10_|refine bS10_ ?_ GE279.out)|exact HB.out))):w.heap.size≤gb280));have n4_:=mk10_ ((by rw [hg];exact (bZ10_ (by repeat (first|(with_reducible first|exact HB.out|apply bA10_|apply bN10_|apply bD10_|refine bS10_ ?_ GE279.out)|exact HB.out))):w.heap.size≤gb280));have n5_:=mk10_ ((by rw [hg];exact Nat.ne_of_lt (blk_lt (g:=gb279) (o:=.cells #[.int .i64 a0_0,.int .i64 a0_1,.bool a0_2,.slice A0_3 l0_3.length c0_3] 68 (0,0)) (by (with_reducible repeat (first|refine kN10_ ?_ _|refine kD10_ ?_|refine blk_alloc ?_ _));exact BK279.out)):gb279≠gb280));have n6_:=mk10_ ((by rw [hg];exact Nat.ne_of_gt (blk_lt (g:=gb279) (o:=.cells #[.int .i64 a0_0,.int .i64 a0_1,.bool a0_2,.slice A0_3 l0_3.length c0_3] 68 (0,0)) (by (with_reducible repeat (first|refine kN10_ ?_ _|refine kD10_ ?_|refine blk_alloc ?_ _));exact BK279.out)):gb280≠gb279));clear BK279;clear HB;have BK279:=n0_;have HB:=n1_;have BK280:=n2_;have GW280:=n3_;have GE280:=n4_;have NB279_280:=n5_;have NB280_279:=n6_;clear n0_ n1_ n2_ n3_ n4_ n5_ n6_;clear hb hbox hg;have hnb20:=NB279_280.out;have hnc20:=NB280_279.out;have hcz21_0:w19.cell? ⟨gb279,0,none⟩=some (.int .i64 a0_0):=(blk_cell BK279.out 0).trans rfl;have hcz21_1:w19.cell? ⟨gb279,1,none⟩=some (.int .i64 a0_1):=(blk_cell BK279.out 1).trans rfl;have hcz21_2:w19.cell? ⟨gb279,2,none⟩=some (.bool a0_2):=(blk_cell BK279.out 2).trans rfl;have hcz21_3:w19.cell? ⟨gb279,3,none⟩=some (.slice A0_3 l0_3.length c0_3):=(blk_cell BK279.out 3).trans rfl;have hfz21_0:=fZ10_ BK279.out 0;have hfz21_1:=fZ10_ BK279.out 1;have hfz21_2:=fZ10_ BK279.out 2;have hfz21_3:=fZ10_ BK279.out 3;have hcz22_0:w19.cell? ⟨gb280,0,none⟩=some (.int .i64 a1_0):=(blk_cell BK280.out 0).trans rfl;have hcz22_1:w19.cell? ⟨gb280,1,none⟩=some (.int .i64 a1_1):=(blk_cell BK280.out 1).trans rfl;have hcz22_2:w19.cell? ⟨gb280,2,none⟩=some (.bool a1_2):=(blk_cell BK280.out 2).trans rfl;have hcz22_3:w19.cell? ⟨gb280,3,none⟩=some (.slice A1_3 l1_3.length c1_3):=(blk_cell BK280.out 3).trans rfl;have hfz22_0:=fZ10_ BK280.out 0;have hfz22_1:=fZ10_ BK280.out 1;have hfz22_2:=fZ10_ BK280.out 2;have hfz22_3:=fZ10_ BK280.out 3)|((with_reducible refine gate_callee (f:=66) rfl ?_);refine goesL_ (some 24) rfl rfl Try.func66 (by kernel_rfl) rfl #[.slice A0_3 l0_3.length c0_3,.slice A1_3 l1_3.length c1_3] rfl (by (try simp only [List.map_toArray,List.map_cons,List.map_nil]);first|done|rfl|(simp only [List.length_drop,List.length_take];rfl)) ?_;(with_reducible refine (laws_eqStringS.calls k _ _ l0_3 _ _ l1_3 false _ ?side1 ?side2 ?side3 ?side4 A11.out).mono ?_);(case side1=>repeat (first|exact (Kd.C_below HR0_3.out HB.out)|(with_reducible refine Kd.C_alloc ?_ _)|(with_reducible refine Kd.C_drewN ?_ _)|(with_reducible refine Kd.C_drew ?_)));(case side2=>exact HC0_3.out);(case side3=>repeat (first|exact (Kd.C_below HR1_3.out HB.out)|(with_reducible refine Kd.C_alloc ?_ _)|(with_reducible refine Kd.C_drewN ?_ _)|(with_reducible refine Kd.C_drew ?_)));(case side4=>exact HC1_3.out);rintro e w' ⟨rfl,⟨nd,rfl⟩⟩;refine ⟨_,rfl,?_⟩))
     go_ret
     exact ⟨by first|rfl|(simp [errW_none,errW_some] <;> rfl)|(simp [*,errW_none,errW_some] <;> rfl),by repeat (first|(with_reducible first|exact HB.out|apply bA10_|apply bN10_|apply bD10_|refine bS10_ ?_ GE279.out|refine bS10_ ?_ GE280.out)|exact HB.out)⟩
  ·rw [if_neg c4] at H
   have c4b0 : (a0_1 == a1_1) = false := beq_eq_false_iff_ne.mpr c4
   have c4b1 : (a0_1 != a1_1) = true := bne_iff_ne.mpr c4
   obtain rfl := Option.some.inj H
   go_enter Try.func64, Try.ntmps64
   go_wp2_with (first|((with_reducible refine gate_dst (N:=2) rfl ?_);refine box_event ?hg (N:=2) ?hd (cs:=#[.int .i64 a0_0,.int .i64 a0_1,.bool a0_2,.slice A0_3 l0_3.length c0_3]) (t:=68) ?hr ?_;(case hd=>rfl);(case hg=>rfl);(case hr=>first|(go_simp;done)|(go_simp;rfl));intro gb279 hg w23 hbox hb;have n0_:=mk10_ (bT10_ (by repeat (first|(with_reducible first|exact HB.out|apply bA10_|apply bN10_|apply bD10_)|exact HB.out)) hb);have n1_:=mk10_ (hbox);have n2_:=mk10_ ((by rw [hg];exact (bZ10_ (by repeat (first|(with_reducible first|exact HB.out|apply bA10_|apply bN10_|apply bD10_)|exact HB.out))):w.heap.size≤gb279));have n3_:=mk10_ ((by rw [hg];exact (bZ10_ (by repeat (first|(with_reducible first|exact HB.out|apply bA10_|apply bN10_|apply bD10_)|exact HB.out))):w.heap.size≤gb279));clear HB;have HB:=n0_;have BK279:=n1_;have GW279:=n2_;have GE279:=n3_;clear n0_ n1_ n2_ n3_;clear hb hbox hg)|((with_reducible refine gate_dst (N:=3) rfl ?_);refine box_event ?hg (N:=3) ?hd (cs:=#[.int .i64 a1_0,.int .i64 a1_1,.bool a1_2,.slice A1_3 l1_3.length c1_3]) (t:=68) ?hr ?_;(case hd=>rfl);(case hg=>rfl);(case hr=>first|(go_simp;done)|(go_simp;rfl));intro gb280 hg w24 hbox hb;have n0_:=mk10_ (blk_below (g:=gb279) (o:=.cells #[.int .i64 a0_0,.int .i64 a0_1,.bool a0_2,.slice A0_3 l0_3.length c0_3] 68 (0,0)) (by (with_reducible repeat (first|refine kN10_ ?_ _|refine kD10_ ?_|refine blk_alloc ?_ _));exact BK279.out) hb);have n1_:=mk10_ (bT10_ (by repeat (first|(with_reducible first|exact HB.out|apply bA10_|apply bN10_|apply bD10_|refine bS10_ ?_ GE279.out)|exact HB.out)) hb);have n2_:=mk10_ (hbox);have n3_:=mk10_ ((by rw [hg];exact (bZ10_ (by repeat (first|(with_reducible first|exact HB.out|apply bA10_|apply bN10_|apply bD10_|refine bS10_ ?_ GE279.out)|exact HB.out))):w.heap.size≤gb280));have n4_:=mk10_ ((by rw [hg];exact (bZ10_ (by repeat (first|(with_reducible first|exact HB.out|apply bA10_|apply bN10_|apply bD10_|refine bS10_ ?_ GE279.out)|exact HB.out))):w.heap.size≤gb280));have n5_:=mk10_ ((by rw [hg];exact Nat.ne_of_lt (blk_lt (g:=gb279) (o:=.cells #[.int .i64 a0_0,.int .i64 a0_1,.bool a0_2,.slice A0_3 l0_3.length c0_3] 68 (0,0)) (by (with_reducible repeat (first|refine kN10_ ?_ _|refine kD10_ ?_|refine blk_alloc ?_ _));exact BK279.out)):gb279≠gb280));have n6_:=mk10_ ((by rw [hg];exact Nat.ne_of_gt (blk_lt (g:=gb279) (o:=.cells #[.int .i64 a0_0,.int .i64 a0_1,.bool a0_2,.slice A0_3 l0_3.length c0_3] 68 (0,0)) (by (with_reducible repeat (first|refine kN10_ ?_ _|refine kD10_ ?_|refine blk_alloc ?_ _));exact BK279.out)):gb280≠gb279));clear BK279;clear HB;have BK279:=n0_;have HB:=n1_;have BK280:=n2_;have GW280:=n3_;have GE280:=n4_;have NB279_280:=n5_;have NB280_279:=n6_;clear n0_ n1_ n2_ n3_ n4_ n5_ n6_;clear hb hbox hg;have hnb25:=NB279_280.out;have hnc25:=NB280_279.out;have hcz26_0:w24.cell? ⟨gb279,0,none⟩=some (.int .i64 a0_0):=(blk_cell BK279.out 0).trans rfl;have hcz26_1:w24.cell? ⟨gb279,1,none⟩=some (.int .i64 a0_1):=(blk_cell BK279.out 1).trans rfl;have hcz26_2:w24.cell? ⟨gb279,2,none⟩=some (.bool a0_2):=(blk_cell BK279.out 2).trans rfl;have hcz26_3:w24.cell? ⟨gb279,3,none⟩=some (.slice A0_3 l0_3.length c0_3):=(blk_cell BK279.out 3).trans rfl;have hfz26_0:=fZ10_ BK279.out 0;have hfz26_1:=fZ10_ BK279.out 1;have hfz26_2:=fZ10_ BK279.out 2;have hfz26_3:=fZ10_ BK279.out 3;have hcz27_0:w24.cell? ⟨gb280,0,none⟩=some (.int .i64 a1_0):=(blk_cell BK280.out 0).trans rfl;have hcz27_1:w24.cell? ⟨gb280,1,none⟩=some (.int .i64 a1_1):=(blk_cell BK280.out 1).trans rfl;have hcz27_2:w24.cell? ⟨gb280,2,none⟩=some (.bool a1_2):=(blk_cell BK280.out 2).trans rfl;have hcz27_3:w24.cell? ⟨gb280,3,none⟩=some (.slice A1_3 l1_3.length c1_3):=(blk_cell BK280.out 3).trans rfl;have hfz27_0:=fZ10_ BK280.out 0;have hfz27_1:=fZ10_ BK280.out 1;have hfz27_2:=fZ10_ BK280.out 2;have hfz27_3:=fZ10_ BK280.out 3))
   go_ret
   exact ⟨by first|rfl|(simp [errW_none,errW_some] <;> rfl)|(simp [*,errW_none,errW_some] <;> rfl),by repeat (first|(with_reducible first|exact HB.out|apply bA10_|apply bN10_|apply bD10_|refine bS10_ ?_ GE279.out|refine bS10_ ?_ GE280.out)|exact HB.out)⟩
 ·rw [if_neg c3] at H
  have c3b0 : (a0_0 == a1_0) = false := beq_eq_false_iff_ne.mpr c3
  have c3b1 : (a0_0 != a1_0) = true := bne_iff_ne.mpr c3
  obtain rfl := Option.some.inj H
  go_enter Try.func64, Try.ntmps64
  go_wp2_with (first|((with_reducible refine gate_dst (N:=2) rfl ?_);refine box_event ?hg (N:=2) ?hd (cs:=#[.int .i64 a0_0,.int .i64 a0_1,.bool a0_2,.slice A0_3 l0_3.length c0_3]) (t:=68) ?hr ?_;(case hd=>rfl);(case hg=>rfl);(case hr=>first|(go_simp;done)|(go_simp;rfl));intro gb279 hg w28 hbox hb;have n0_:=mk10_ (bT10_ (by repeat (first|(with_reducible first|exact HB.out|apply bA10_|apply bN10_|apply bD10_)|exact HB.out)) hb);have n1_:=mk10_ (hbox);have n2_:=mk10_ ((by rw [hg];exact (bZ10_ (by repeat (first|(with_reducible first|exact HB.out|apply bA10_|apply bN10_|apply bD10_)|exact HB.out))):w.heap.size≤gb279));have n3_:=mk10_ ((by rw [hg];exact (bZ10_ (by repeat (first|(with_reducible first|exact HB.out|apply bA10_|apply bN10_|apply bD10_)|exact HB.out))):w.heap.size≤gb279));clear HB;have HB:=n0_;have BK279:=n1_;have GW279:=n2_;have GE279:=n3_;clear n0_ n1_ n2_ n3_;clear hb hbox hg)|((with_reducible refine gate_dst (N:=3) rfl ?_);refine box_event ?hg (N:=3) ?hd (cs:=#[.int .i64 a1_0,.int .i64 a1_1,.bool a1_2,.slice A1_3 l1_3.length c1_3]) (t:=68) ?hr ?_;(case hd=>rfl);(case hg=>rfl);(case hr=>first|(go_simp;done)|(go_simp;rfl));intro gb280 hg w29 hbox hb;have n0_:=mk10_ (blk_below (g:=gb279) (o:=.cells #[.int .i64 a0_0,.int .i64 a0_1,.bool a0_2,.slice A0_3 l0_3.length c0_3] 68 (0,0)) (by (with_reducible repeat (first|refine kN10_ ?_ _|refine kD10_ ?_|refine blk_alloc ?_ _));exact BK279.out) hb);have n1_:=mk10_ (bT10_ (by repeat (first|(with_reducible first|exact HB.out|apply bA10_|apply bN10_|apply bD10_|refine bS10_ ?_ GE279.out)|exact HB.out)) hb);have n2_:=mk10_ (hbox);have n3_:=mk10_ ((by rw [hg];exact (bZ10_ (by repeat (first|(with_reducible first|exact HB.out|apply bA10_|apply bN10_|apply bD10_|refine bS10_ ?_ GE279.out)|exact HB.out))):w.heap.size≤gb280));have n4_:=mk10_ ((by rw [hg];exact (bZ10_ (by repeat (first|(with_reducible first|exact HB.out|apply bA10_|apply bN10_|apply bD10_|refine bS10_ ?_ GE279.out)|exact HB.out))):w.heap.size≤gb280));have n5_:=mk10_ ((by rw [hg];exact Nat.ne_of_lt (blk_lt (g:=gb279) (o:=.cells #[.int .i64 a0_0,.int .i64 a0_1,.bool a0_2,.slice A0_3 l0_3.length c0_3] 68 (0,0)) (by (with_reducible repeat (first|refine kN10_ ?_ _|refine kD10_ ?_|refine blk_alloc ?_ _));exact BK279.out)):gb279≠gb280));have n6_:=mk10_ ((by rw [hg];exact Nat.ne_of_gt (blk_lt (g:=gb279) (o:=.cells #[.int .i64 a0_0,.int .i64 a0_1,.bool a0_2,.slice A0_3 l0_3.length c0_3] 68 (0,0)) (by (with_reducible repeat (first|refine kN10_ ?_ _|refine kD10_ ?_|refine blk_alloc ?_ _));exact BK279.out)):gb280≠gb279));clear BK279;clear HB;have BK279:=n0_;have HB:=n1_;have BK280:=n2_;have GW280:=n3_;have GE280:=n4_;have NB279_280:=n5_;have NB280_279:=n6_;clear n0_ n1_ n2_ n3_ n4_ n5_ n6_;clear hb hbox hg;have hnb30:=NB279_280.out;have hnc30:=NB280_279.out;have hcz31_0:w29.cell? ⟨gb279,0,none⟩=some (.int .i64 a0_0):=(blk_cell BK279.out 0).trans rfl;have hcz31_1:w29.cell? ⟨gb279,1,none⟩=some (.int .i64 a0_1):=(blk_cell BK279.out 1).trans rfl;have hcz31_2:w29.cell? ⟨gb279,2,none⟩=some (.bool a0_2):=(blk_cell BK279.out 2).trans rfl;have hcz31_3:w29.cell? ⟨gb279,3,none⟩=some (.slice A0_3 l0_3.length c0_3):=(blk_cell BK279.out 3).trans rfl;have hfz31_0:=fZ10_ BK279.out 0;have hfz31_1:=fZ10_ BK279.out 1;have hfz31_2:=fZ10_ BK279.out 2;have hfz31_3:=fZ10_ BK279.out 3;have hcz32_0:w29.cell? ⟨gb280,0,none⟩=some (.int .i64 a1_0):=(blk_cell BK280.out 0).trans rfl;have hcz32_1:w29.cell? ⟨gb280,1,none⟩=some (.int .i64 a1_1):=(blk_cell BK280.out 1).trans rfl;have hcz32_2:w29.cell? ⟨gb280,2,none⟩=some (.bool a1_2):=(blk_cell BK280.out 2).trans rfl;have hcz32_3:w29.cell? ⟨gb280,3,none⟩=some (.slice A1_3 l1_3.length c1_3):=(blk_cell BK280.out 3).trans rfl;have hfz32_0:=fZ10_ BK280.out 0;have hfz32_1:=fZ10_ BK280.out 1;have hfz32_2:=fZ10_ BK280.out 2;have hfz32_3:=fZ10_ BK280.out 3))
  go_ret
  exact ⟨by first|rfl|(simp [errW_none,errW_some] <;> rfl)|(simp [*,errW_none,errW_some] <;> rfl),by repeat (first|(with_reducible first|exact HB.out|apply bA10_|apply bN10_|apply bD10_|refine bS10_ ?_ GE279.out|refine bS10_ ?_ GE280.out)|exact HB.out)⟩

end Go.Proofs.Ytdjbphffibcbeaa.Q
