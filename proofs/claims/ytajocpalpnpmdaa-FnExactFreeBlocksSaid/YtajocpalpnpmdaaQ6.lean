/- The program's functions as Lean functions,and for each the proof that the machine's call comes to what its function says. Conditions: those that stand before each theorem. -/
import Derived.Test.YtajocpalpnpmdaaQ0
namespace Go.Proofs.Ytajocpalpnpmdaa.Q
open Go.RowKit Go.Proofs.YtajocpalpnpmdaaW.PrintWords Go.Proofs.YtajocpalpnpmdaaW.PrintLast Go.Proofs.YtajocpalpnpmdaaW.PrintMore
abbrev kN6_ := @blk_drewN
abbrev kD6_ := @blk_drew
abbrev kA6_ := @blk_alloc
abbrev bA6_ := @below_alloc
abbrev bN6_ := @pw_below_drewN
abbrev bD6_ := @below_drew1
abbrev bS6_ := @below_set
abbrev mk6_ := @Aside0.mk
abbrev fZ6_ := @blk_frozen
abbrev bT6_ := @below_step
abbrev bZ6_ := @below_size
abbrev lS6_ := @List.setIfInBounds_toArray
abbrev lZ6_ := @List.set_cons_zero
abbrev lC6_ := @List.set_cons_succ
abbrev mA6_ := @List.map_toArray
abbrev mC6_ := @List.map_cons
abbrev mN6_ := @List.map_nil
set_option linter.unusedVariables false
set_option linter.unusedSimpArgs false

def laws_eqInt64S.l0:Nat→List Int→List Int→Int→Option (Bool)
 | 0, _, _, _ => none
 | k+1,x0,x1,x5=>if x5 < (x0.length:Int) then (if 0≤x5 then (if x5 < (x1.length:Int) then (if (rd x0 x5)=(rd x1 x5) then (laws_eqInt64S.l0 k x0 x1 (wrap64 (x5+1))) else (some false)) else (none)) else (none)) else (some true)
def laws_eqInt64S.f (k:Nat) (l0:List Int) (l1:List Int):Option (Bool):=if (l0.length:Int)=(l1.length:Int) then (laws_eqInt64S.l0 k l0 l1 0) else (some false)
set_option maxHeartbeats 8000000 in
set_option maxRecDepth 100000 in
theorem laws_eqInt64S.calls (k:Nat) (A0:Option Addr) (c0:Nat) (l0:List Int) (A1:Option Addr) (c1:Nat) (l1:List Int) (r:Bool) (w:World) (hr0:Kd.C (Kd.int .i64) w A0 l0.length l0) (hc0:l0.length≤c0) (hr1:Kd.C (Kd.int .i64) w A1 l1.length l1) (hc1:l1.length≤c1) (h:laws_eqInt64S.f k l0 l1=some r) :
  Calls Try.prog 12 #[.slice A0 l0.length c0,.slice A1 l1.length c1] w fun e w'=>e=.returned (.bool r)∧Drawn0 w w':=by
 have HR0 := Aside0.mk hr0
 have HC0 := Aside0.mk hc0
 clear hr0 hc0
 have HR1 := Aside0.mk hr1
 have HC1 := Aside0.mk hc1
 clear hr1 hc1
 have H:(if (l0.length:Int)=(l1.length:Int) then (laws_eqInt64S.l0 k l0 l1 0) else (some false))=some r:=h
 clear h
 by_cases c3 : (l0.length : Int) = (l1.length : Int)
 ·rw [if_pos c3] at H
  have c3b0:((l0.length:Int) == (l1.length:Int))=true:=beq_iff_eq.mpr c3
  have c3b1:((l0.length:Int) != (l1.length:Int))=false:=bne_eq_false_iff_eq.mpr c3
  have c3b2:(l0.length == l1.length)=true:=by first|simpa using c3|(simp at c3 ⊢;omega)
  clear c3
  have H' := Aside0.mk H
  clear H
  go_enter Try.func12, Try.ntmps12
  go_wp2
  repeat (go_quiet (fail); try go_wp2)
  go_loopg [5] k (fun kq v5 w'=>∃ (x5_1:Int),v5=.int .i64 x5_1∧Aside0 (laws_eqInt64S.l0 kq l0 l1 x5_1=some r)∧Aside0 (kq≤k)∧Drawn0 w w')
  case atStart=>exact ⟨(0),(by first|rfl|(simp;done)|(simp [*];done)),H',⟨Nat.le_refl _⟩,by repeat (first|exact Drawn0.refl _|apply Drawn0.step)⟩
  case round =>
   clear H'
   try clear c1
   try clear p2
   try clear c3
   try clear c3b0
   try clear c3b1
   try clear c3b2
   obtain ⟨x5_1, rfl, HA, HK1, ⟨m1, rfl⟩⟩ := hrel
   cases gk with
   | zero => exact absurd HA.out (by simp [laws_eqInt64S.l0])
   | succ k1 =>
    have H := HA.out
    clear HA
    simp only [laws_eqInt64S.l0] at H
    by_cases c4 : x5_1 < (l0.length : Int)
    ·rw [if_pos c4] at H
     have c4b0:decide (x5_1 < (l0.length:Int))=true:=decide_eq_true c4
     clear c4
     by_cases c5 : 0 ≤ x5_1
     ·rw [if_pos c5] at H
      have c5b0 : decide (0 ≤ x5_1) = true := decide_eq_true c5
      clear c5
      by_cases c6 : x5_1 < (l1.length : Int)
      ·rw [if_pos c6] at H
       have c6b0:decide (x5_1 < (l1.length:Int))=true:=decide_eq_true c6
       clear c6
       by_cases c7 : (rd l0 x5_1) = (rd l1 x5_1)
       ·rw [if_pos c7] at H
        have c7b0:((rd l0 x5_1) == (rd l1 x5_1))=true:=beq_iff_eq.mpr c7
        have c7b1:((rd l0 x5_1) != (rd l1 x5_1))=false:=bne_eq_false_iff_eq.mpr c7
        clear c7
        have H' := Aside0.mk H
        clear H
        have p249:0≤(x5_1:Int):=of_decide_eq_true (by first|(with_reducible assumption)|assumption)
        have q249:x5_1 < (l0.length:Int):=of_decide_eq_true (by first|(with_reducible assumption)|assumption)
        obtain ⟨ad249,e249,hx249_0⟩:=Kd.at_int HR0.out x5_1 p249 q249
        cases e249
        replace p249 := eq_true p249
        replace q249 := eq_true q249
        have p250:0≤(x5_1:Int):=of_decide_eq_true (by first|(with_reducible assumption)|assumption)
        have q250:x5_1 < (l1.length:Int):=of_decide_eq_true (by first|(with_reducible assumption)|assumption)
        obtain ⟨ad250,e250,hx250_0⟩:=Kd.at_int HR1.out x5_1 p250 q250
        cases e250
        replace p250 := eq_true p250
        replace q250 := eq_true q250
        go_wp2
        repeat (go_quiet (fail); try go_wp2)
        go_roundg k1
        case measure => have := HK1.out; omega
        case rel=>exact ⟨(wrap64 (x5_1+1)),(by first|rfl|(simp;done)|(simp [*];done)),H',⟨by have:=HK1.out;omega⟩,by repeat (first|exact Drawn0.refl _|apply Drawn0.step)⟩
       ·rw [if_neg c7] at H
        have c7b0:((rd l0 x5_1) == (rd l1 x5_1))=false:=beq_eq_false_iff_ne.mpr c7
        have c7b1:((rd l0 x5_1) != (rd l1 x5_1))=true:=bne_iff_ne.mpr c7
        obtain rfl := Option.some.inj H
        have p249:0≤(x5_1:Int):=of_decide_eq_true (by first|(with_reducible assumption)|assumption)
        have q249:x5_1 < (l0.length:Int):=of_decide_eq_true (by first|(with_reducible assumption)|assumption)
        obtain ⟨ad249,e249,hx249_0⟩:=Kd.at_int HR0.out x5_1 p249 q249
        cases e249
        replace p249 := eq_true p249
        replace q249 := eq_true q249
        have p250:0≤(x5_1:Int):=of_decide_eq_true (by first|(with_reducible assumption)|assumption)
        have q250:x5_1 < (l1.length:Int):=of_decide_eq_true (by first|(with_reducible assumption)|assumption)
        obtain ⟨ad250,e250,hx250_0⟩:=Kd.at_int HR1.out x5_1 p250 q250
        cases e250
        replace p250 := eq_true p250
        replace q250 := eq_true q250
        go_wp2
        repeat (go_quiet (fail); try go_wp2)
        go_ret
        exact ⟨by first|rfl|(simp;done)|(simp [*];done),by repeat (first|exact Drawn0.refl _|apply Drawn0.step)⟩
      ·rw [if_neg c6] at H
       exact absurd H (by simp)
     ·rw [if_neg c5] at H
      exact absurd H (by simp)
    ·rw [if_neg c4] at H
     have c4b0:decide (x5_1 < (l0.length:Int))=false:=decide_eq_false c4
     clear c4
     obtain rfl := Option.some.inj H
     go_wp2
     repeat (go_quiet (fail); try go_wp2)
     go_ret
     exact ⟨by first|rfl|(simp;done)|(simp [*];done),by repeat (first|exact Drawn0.refl _|apply Drawn0.step)⟩
 ·rw [if_neg c3] at H
  have c3b0:((l0.length:Int) == (l1.length:Int))=false:=beq_eq_false_iff_ne.mpr c3
  have c3b1:((l0.length:Int) != (l1.length:Int))=true:=bne_iff_ne.mpr c3
  have c3b2:(l0.length == l1.length)=false:=by first|simpa using c3|(simp at c3 ⊢;omega)
  obtain rfl := Option.some.inj H
  go_enter Try.func12, Try.ntmps12
  go_wp2
  repeat (go_quiet (fail); try go_wp2)
  go_ret
  exact ⟨by first|rfl|(simp;done)|(simp [*];done),by repeat (first|exact Drawn0.refl _|apply Drawn0.step)⟩

def laws_eqGeometry.f (a0_0:Int) (a0_1:Int) (a0_2:Int) (a1_0:Int) (a1_1:Int) (a1_2:Int):Option (Bool):=if a0_0=a1_0 then (if a0_1=a1_1 then (if a0_2=a1_2 then (some true) else (some false)) else (some false)) else (some false)
set_option maxHeartbeats 8000000 in
set_option maxRecDepth 100000 in
theorem laws_eqGeometry.calls (a0_0:Int) (a0_1:Int) (a0_2:Int) (a1_0:Int) (a1_1:Int) (a1_2:Int) (r:Bool) (w:World) (h:laws_eqGeometry.f a0_0 a0_1 a0_2 a1_0 a1_1 a1_2=some r) :
  Calls Try.prog 60 #[.agg #[.int .i64 a0_0,.int .i64 a0_1,.int .i64 a0_2],.agg #[.int .i64 a1_0,.int .i64 a1_1,.int .i64 a1_2]] w fun e w'=>e=.returned (.bool r)∧Below w.heap.size w w':=by
 have hu37 := Try.underlying37
 have HB := Aside0.mk (Below.refl w.heap.size w)
 have H:(if a0_0=a1_0 then (if a0_1=a1_1 then (if a0_2=a1_2 then (some true) else (some false)) else (some false)) else (some false))=some r:=h
 clear h
 by_cases c3 : a0_0 = a1_0
 ·rw [if_pos c3] at H
  have c3b0 : (a0_0 == a1_0) = true := beq_iff_eq.mpr c3
  have c3b1 : (a0_0 != a1_0) = false := bne_eq_false_iff_eq.mpr c3
  clear c3
  by_cases c4 : a0_1 = a1_1
  ·rw [if_pos c4] at H
   have c4b0 : (a0_1 == a1_1) = true := beq_iff_eq.mpr c4
   have c4b1:(a0_1 != a1_1)=false:=bne_eq_false_iff_eq.mpr c4
   clear c4
   by_cases c5 : a0_2 = a1_2
   ·rw [if_pos c5] at H
    have c5b0 : (a0_2 == a1_2) = true := beq_iff_eq.mpr c5
    have c5b1:(a0_2 != a1_2)=false:=bne_eq_false_iff_eq.mpr c5
    clear c5
    obtain rfl := Option.some.inj H
    go_enter Try.func60, Try.ntmps60
    go_wp2_with (first|((with_reducible refine gate_dst (N:=2) rfl ?_);refine box_event ?hg (N:=2) ?hd (cs:=#[.int .i64 a0_0,.int .i64 a0_1,.int .i64 a0_2]) (t:=37) ?hr ?_;(case hd=>rfl);(case hg=>rfl);(case hr=>first|(go_simp;done)|(go_simp;rfl));intro gb251 hg w6 hbox hb;have n0_:=mk6_ (bT6_ (by repeat (first|(with_reducible first|exact HB.out|apply bA6_|apply bN6_|apply bD6_)|exact HB.out)) hb);have n1_:=mk6_ (hbox);have n2_:=mk6_ ((by rw [hg];exact (bZ6_ (by repeat (first|(with_reducible first|exact HB.out|apply bA6_|apply bN6_|apply bD6_)|exact HB.out))):w.heap.size≤gb251));have n3_:=mk6_ ((by rw [hg];exact (bZ6_ (by repeat (first|(with_reducible first|exact HB.out|apply bA6_|apply bN6_|apply bD6_)|exact HB.out))):w.heap.size≤gb251));clear HB;have HB:=n0_;have BK251:=n1_;have GW251:=n2_;have GE251:=n3_;clear n0_ n1_ n2_ n3_;clear hb hbox hg)|((with_reducible refine gate_dst (N:=3) rfl ?_);refine box_event ?hg (N:=3) ?hd (cs:=#[.int .i64 a1_0,.int .i64 a1_1,.int .i64 a1_2]) (t:=37) ?hr ?_;(case hd=>rfl);(case hg=>rfl);(case hr=>first|(go_simp;done)|(go_simp;rfl));intro gb252 hg w7 hbox hb;have n0_:=mk6_ (blk_below (g:=gb251) (o:=.cells #[.int .i64 a0_0,.int .i64 a0_1,.int .i64 a0_2] 37 (0,0)) (by (with_reducible repeat (first|refine kN6_ ?_ _|refine kD6_ ?_|refine kA6_ ?_ _));exact BK251.out) hb);have n1_:=mk6_ (bT6_ (by repeat (first|(with_reducible first|exact HB.out|apply bA6_|apply bN6_|apply bD6_|refine bS6_ ?_ GE251.out)|exact HB.out)) hb);have n2_:=mk6_ (hbox);have n3_:=mk6_ ((by rw [hg];exact (bZ6_ (by repeat (first|(with_reducible first|exact HB.out|apply bA6_|apply bN6_|apply bD6_|refine bS6_ ?_ GE251.out)|exact HB.out))):w.heap.size≤gb252));have n4_:=mk6_ ((by rw [hg];exact (bZ6_ (by repeat (first|(with_reducible first|exact HB.out|apply bA6_|apply bN6_|apply bD6_|refine bS6_ ?_ GE251.out)|exact HB.out))):w.heap.size≤gb252));have n5_:=mk6_ ((by rw [hg];exact Nat.ne_of_lt (blk_lt (g:=gb251) (o:=.cells #[.int .i64 a0_0,.int .i64 a0_1,.int .i64 a0_2] 37 (0,0)) (by (with_reducible repeat (first|refine kN6_ ?_ _|refine kD6_ ?_|refine kA6_ ?_ _));exact BK251.out)):gb251≠gb252));have n6_:=mk6_ ((by rw [hg];exact Nat.ne_of_gt (blk_lt (g:=gb251) (o:=.cells #[.int .i64 a0_0,.int .i64 a0_1,.int .i64 a0_2] 37 (0,0)) (by (with_reducible repeat (first|refine kN6_ ?_ _|refine kD6_ ?_|refine kA6_ ?_ _));exact BK251.out)):gb252≠gb251));clear BK251;clear HB;have BK251:=n0_;have HB:=n1_;have BK252:=n2_;have GW252:=n3_;have GE252:=n4_;have NB251_252:=n5_;have NB252_251:=n6_;clear n0_ n1_ n2_ n3_ n4_ n5_ n6_;clear hb hbox hg;have hnb8:=NB251_252.out;have hnc8:=NB252_251.out;have hcz9_0:w7.cell? ⟨gb251,0,none⟩=some (.int .i64 a0_0):=(blk_cell BK251.out 0).trans rfl;have hcz9_1:w7.cell? ⟨gb251,1,none⟩=some (.int .i64 a0_1):=(blk_cell BK251.out 1).trans rfl;have hcz9_2:w7.cell? ⟨gb251,2,none⟩=some (.int .i64 a0_2):=(blk_cell BK251.out 2).trans rfl;have hfz9_0:=fZ6_ BK251.out 0;have hfz9_1:=fZ6_ BK251.out 1;have hfz9_2:=fZ6_ BK251.out 2;have hcz10_0:w7.cell? ⟨gb252,0,none⟩=some (.int .i64 a1_0):=(blk_cell BK252.out 0).trans rfl;have hcz10_1:w7.cell? ⟨gb252,1,none⟩=some (.int .i64 a1_1):=(blk_cell BK252.out 1).trans rfl;have hcz10_2:w7.cell? ⟨gb252,2,none⟩=some (.int .i64 a1_2):=(blk_cell BK252.out 2).trans rfl;have hfz10_0:=fZ6_ BK252.out 0;have hfz10_1:=fZ6_ BK252.out 1;have hfz10_2:=fZ6_ BK252.out 2))
    go_ret
    exact ⟨by first|rfl|(simp [errW_none,errW_some] <;> rfl)|(simp [*,errW_none,errW_some] <;> rfl),by repeat (first|(with_reducible first|exact HB.out|apply bA6_|apply bN6_|apply bD6_|refine bS6_ ?_ GE251.out|refine bS6_ ?_ GE252.out)|exact HB.out)⟩
   ·rw [if_neg c5] at H
    have c5b0:(a0_2 == a1_2)=false:=beq_eq_false_iff_ne.mpr c5
    have c5b1 : (a0_2 != a1_2) = true := bne_iff_ne.mpr c5
    obtain rfl := Option.some.inj H
    go_enter Try.func60, Try.ntmps60
    go_wp2_with (first|((with_reducible refine gate_dst (N:=2) rfl ?_);refine box_event ?hg (N:=2) ?hd (cs:=#[.int .i64 a0_0,.int .i64 a0_1,.int .i64 a0_2]) (t:=37) ?hr ?_;(case hd=>rfl);(case hg=>rfl);(case hr=>first|(go_simp;done)|(go_simp;rfl));intro gb251 hg w11 hbox hb;have n0_:=mk6_ (bT6_ (by repeat (first|(with_reducible first|exact HB.out|apply bA6_|apply bN6_|apply bD6_)|exact HB.out)) hb);have n1_:=mk6_ (hbox);have n2_:=mk6_ ((by rw [hg];exact (bZ6_ (by repeat (first|(with_reducible first|exact HB.out|apply bA6_|apply bN6_|apply bD6_)|exact HB.out))):w.heap.size≤gb251));have n3_:=mk6_ ((by rw [hg];exact (bZ6_ (by repeat (first|(with_reducible first|exact HB.out|apply bA6_|apply bN6_|apply bD6_)|exact HB.out))):w.heap.size≤gb251));clear HB;have HB:=n0_;have BK251:=n1_;have GW251:=n2_;have GE251:=n3_;clear n0_ n1_ n2_ n3_;clear hb hbox hg)|((with_reducible refine gate_dst (N:=3) rfl ?_);refine box_event ?hg (N:=3) ?hd (cs:=#[.int .i64 a1_0,.int .i64 a1_1,.int .i64 a1_2]) (t:=37) ?hr ?_;(case hd=>rfl);(case hg=>rfl);(case hr=>first|(go_simp;done)|(go_simp;rfl));intro gb252 hg w12 hbox hb;have n0_:=mk6_ (blk_below (g:=gb251) (o:=.cells #[.int .i64 a0_0,.int .i64 a0_1,.int .i64 a0_2] 37 (0,0)) (by (with_reducible repeat (first|refine kN6_ ?_ _|refine kD6_ ?_|refine kA6_ ?_ _));exact BK251.out) hb);have n1_:=mk6_ (bT6_ (by repeat (first|(with_reducible first|exact HB.out|apply bA6_|apply bN6_|apply bD6_|refine bS6_ ?_ GE251.out)|exact HB.out)) hb);have n2_:=mk6_ (hbox);have n3_:=mk6_ ((by rw [hg];exact (bZ6_ (by repeat (first|(with_reducible first|exact HB.out|apply bA6_|apply bN6_|apply bD6_|refine bS6_ ?_ GE251.out)|exact HB.out))):w.heap.size≤gb252));have n4_:=mk6_ ((by rw [hg];exact (bZ6_ (by repeat (first|(with_reducible first|exact HB.out|apply bA6_|apply bN6_|apply bD6_|refine bS6_ ?_ GE251.out)|exact HB.out))):w.heap.size≤gb252));have n5_:=mk6_ ((by rw [hg];exact Nat.ne_of_lt (blk_lt (g:=gb251) (o:=.cells #[.int .i64 a0_0,.int .i64 a0_1,.int .i64 a0_2] 37 (0,0)) (by (with_reducible repeat (first|refine kN6_ ?_ _|refine kD6_ ?_|refine kA6_ ?_ _));exact BK251.out)):gb251≠gb252));have n6_:=mk6_ ((by rw [hg];exact Nat.ne_of_gt (blk_lt (g:=gb251) (o:=.cells #[.int .i64 a0_0,.int .i64 a0_1,.int .i64 a0_2] 37 (0,0)) (by (with_reducible repeat (first|refine kN6_ ?_ _|refine kD6_ ?_|refine kA6_ ?_ _));exact BK251.out)):gb252≠gb251));clear BK251;clear HB;have BK251:=n0_;have HB:=n1_;have BK252:=n2_;have GW252:=n3_;have GE252:=n4_;have NB251_252:=n5_;have NB252_251:=n6_;clear n0_ n1_ n2_ n3_ n4_ n5_ n6_;clear hb hbox hg;have hnb13:=NB251_252.out;have hnc13:=NB252_251.out;have hcz14_0:w12.cell? ⟨gb251,0,none⟩=some (.int .i64 a0_0):=(blk_cell BK251.out 0).trans rfl;have hcz14_1:w12.cell? ⟨gb251,1,none⟩=some (.int .i64 a0_1):=(blk_cell BK251.out 1).trans rfl;have hcz14_2:w12.cell? ⟨gb251,2,none⟩=some (.int .i64 a0_2):=(blk_cell BK251.out 2).trans rfl;have hfz14_0:=fZ6_ BK251.out 0;have hfz14_1:=fZ6_ BK251.out 1;have hfz14_2:=fZ6_ BK251.out 2;have hcz15_0:w12.cell? ⟨gb252,0,none⟩=some (.int .i64 a1_0):=(blk_cell BK252.out 0).trans rfl;have hcz15_1:w12.cell? ⟨gb252,1,none⟩=some (.int .i64 a1_1):=(blk_cell BK252.out 1).trans rfl;have hcz15_2:w12.cell? ⟨gb252,2,none⟩=some (.int .i64 a1_2):=(blk_cell BK252.out 2).trans rfl;have hfz15_0:=fZ6_ BK252.out 0;have hfz15_1:=fZ6_ BK252.out 1;have hfz15_2:=fZ6_ BK252.out 2))
    go_ret
    exact ⟨by first|rfl|(simp [errW_none,errW_some] <;> rfl)|(simp [*,errW_none,errW_some] <;> rfl),by repeat (first|(with_reducible first|exact HB.out|apply bA6_|apply bN6_|apply bD6_|refine bS6_ ?_ GE251.out|refine bS6_ ?_ GE252.out)|exact HB.out)⟩
  ·rw [if_neg c4] at H
   have c4b0:(a0_1 == a1_1)=false:=beq_eq_false_iff_ne.mpr c4
   have c4b1 : (a0_1 != a1_1) = true := bne_iff_ne.mpr c4
   obtain rfl := Option.some.inj H
   go_enter Try.func60, Try.ntmps60
   go_wp2_with (first|((with_reducible refine gate_dst (N:=2) rfl ?_);refine box_event ?hg (N:=2) ?hd (cs:=#[.int .i64 a0_0,.int .i64 a0_1,.int .i64 a0_2]) (t:=37) ?hr ?_;(case hd=>rfl);(case hg=>rfl);(case hr=>first|(go_simp;done)|(go_simp;rfl));intro gb251 hg w16 hbox hb;have n0_:=mk6_ (bT6_ (by repeat (first|(with_reducible first|exact HB.out|apply bA6_|apply bN6_|apply bD6_)|exact HB.out)) hb);have n1_:=mk6_ (hbox);have n2_:=mk6_ ((by rw [hg];exact (bZ6_ (by repeat (first|(with_reducible first|exact HB.out|apply bA6_|apply bN6_|apply bD6_)|exact HB.out))):w.heap.size≤gb251));have n3_:=mk6_ ((by rw [hg];exact (bZ6_ (by repeat (first|(with_reducible first|exact HB.out|apply bA6_|apply bN6_|apply bD6_)|exact HB.out))):w.heap.size≤gb251));clear HB;have HB:=n0_;have BK251:=n1_;have GW251:=n2_;have GE251:=n3_;clear n0_ n1_ n2_ n3_;clear hb hbox hg)|((with_reducible refine gate_dst (N:=3) rfl ?_);refine box_event ?hg (N:=3) ?hd (cs:=#[.int .i64 a1_0,.int .i64 a1_1,.int .i64 a1_2]) (t:=37) ?hr ?_;(case hd=>rfl);(case hg=>rfl);(case hr=>first|(go_simp;done)|(go_simp;rfl));intro gb252 hg w17 hbox hb;have n0_:=mk6_ (blk_below (g:=gb251) (o:=.cells #[.int .i64 a0_0,.int .i64 a0_1,.int .i64 a0_2] 37 (0,0)) (by (with_reducible repeat (first|refine kN6_ ?_ _|refine kD6_ ?_|refine kA6_ ?_ _));exact BK251.out) hb);have n1_:=mk6_ (bT6_ (by repeat (first|(with_reducible first|exact HB.out|apply bA6_|apply bN6_|apply bD6_|refine bS6_ ?_ GE251.out)|exact HB.out)) hb);have n2_:=mk6_ (hbox);have n3_:=mk6_ ((by rw [hg];exact (bZ6_ (by repeat (first|(with_reducible first|exact HB.out|apply bA6_|apply bN6_|apply bD6_|refine bS6_ ?_ GE251.out)|exact HB.out))):w.heap.size≤gb252));have n4_:=mk6_ ((by rw [hg];exact (bZ6_ (by repeat (first|(with_reducible first|exact HB.out|apply bA6_|apply bN6_|apply bD6_|refine bS6_ ?_ GE251.out)|exact HB.out))):w.heap.size≤gb252));have n5_:=mk6_ ((by rw [hg];exact Nat.ne_of_lt (blk_lt (g:=gb251) (o:=.cells #[.int .i64 a0_0,.int .i64 a0_1,.int .i64 a0_2] 37 (0,0)) (by (with_reducible repeat (first|refine kN6_ ?_ _|refine kD6_ ?_|refine kA6_ ?_ _));exact BK251.out)):gb251≠gb252));have n6_:=mk6_ ((by rw [hg];exact Nat.ne_of_gt (blk_lt (g:=gb251) (o:=.cells #[.int .i64 a0_0,.int .i64 a0_1,.int .i64 a0_2] 37 (0,0)) (by (with_reducible repeat (first|refine kN6_ ?_ _|refine kD6_ ?_|refine kA6_ ?_ _));exact BK251.out)):gb252≠gb251));clear BK251;clear HB;have BK251:=n0_;have HB:=n1_;have BK252:=n2_;have GW252:=n3_;have GE252:=n4_;have NB251_252:=n5_;have NB252_251:=n6_;clear n0_ n1_ n2_ n3_ n4_ n5_ n6_;clear hb hbox hg;have hnb18:=NB251_252.out;have hnc18:=NB252_251.out;have hcz19_0:w17.cell? ⟨gb251,0,none⟩=some (.int .i64 a0_0):=(blk_cell BK251.out 0).trans rfl;have hcz19_1:w17.cell? ⟨gb251,1,none⟩=some (.int .i64 a0_1):=(blk_cell BK251.out 1).trans rfl;have hcz19_2:w17.cell? ⟨gb251,2,none⟩=some (.int .i64 a0_2):=(blk_cell BK251.out 2).trans rfl;have hfz19_0:=fZ6_ BK251.out 0;have hfz19_1:=fZ6_ BK251.out 1;have hfz19_2:=fZ6_ BK251.out 2;have hcz20_0:w17.cell? ⟨gb252,0,none⟩=some (.int .i64 a1_0):=(blk_cell BK252.out 0).trans rfl;have hcz20_1:w17.cell? ⟨gb252,1,none⟩=some (.int .i64 a1_1):=(blk_cell BK252.out 1).trans rfl;have hcz20_2:w17.cell? ⟨gb252,2,none⟩=some (.int .i64 a1_2):=(blk_cell BK252.out 2).trans rfl;have hfz20_0:=fZ6_ BK252.out 0;have hfz20_1:=fZ6_ BK252.out 1;have hfz20_2:=fZ6_ BK252.out 2))
   go_ret
   exact ⟨by first|rfl|(simp [errW_none,errW_some] <;> rfl)|(simp [*,errW_none,errW_some] <;> rfl),by repeat (first|(with_reducible first|exact HB.out|apply bA6_|apply bN6_|apply bD6_|refine bS6_ ?_ GE251.out|refine bS6_ ?_ GE252.out)|exact HB.out)⟩
 ·rw [if_neg c3] at H
  have c3b0 : (a0_0 == a1_0) = false := beq_eq_false_iff_ne.mpr c3
  have c3b1 : (a0_0 != a1_0) = true := bne_iff_ne.mpr c3
  obtain rfl := Option.some.inj H
  go_enter Try.func60, Try.ntmps60
  go_wp2_with (first|((with_reducible refine gate_dst (N:=2) rfl ?_);refine box_event ?hg (N:=2) ?hd (cs:=#[.int .i64 a0_0,.int .i64 a0_1,.int .i64 a0_2]) (t:=37) ?hr ?_;(case hd=>rfl);(case hg=>rfl);(case hr=>first|(go_simp;done)|(go_simp;rfl));intro gb251 hg w21 hbox hb;have n0_:=mk6_ (bT6_ (by repeat (first|(with_reducible first|exact HB.out|apply bA6_|apply bN6_|apply bD6_)|exact HB.out)) hb);have n1_:=mk6_ (hbox);have n2_:=mk6_ ((by rw [hg];exact (bZ6_ (by repeat (first|(with_reducible first|exact HB.out|apply bA6_|apply bN6_|apply bD6_)|exact HB.out))):w.heap.size≤gb251));have n3_:=mk6_ ((by rw [hg];exact (bZ6_ (by repeat (first|(with_reducible first|exact HB.out|apply bA6_|apply bN6_|apply bD6_)|exact HB.out))):w.heap.size≤gb251));clear HB;have HB:=n0_;have BK251:=n1_;have GW251:=n2_;have GE251:=n3_;clear n0_ n1_ n2_ n3_;clear hb hbox hg)|((with_reducible refine gate_dst (N:=3) rfl ?_);refine box_event ?hg (N:=3) ?hd (cs:=#[.int .i64 a1_0,.int .i64 a1_1,.int .i64 a1_2]) (t:=37) ?hr ?_;(case hd=>rfl);(case hg=>rfl);(case hr=>first|(go_simp;done)|(go_simp;rfl));intro gb252 hg w22 hbox hb;have n0_:=mk6_ (blk_below (g:=gb251) (o:=.cells #[.int .i64 a0_0,.int .i64 a0_1,.int .i64 a0_2] 37 (0,0)) (by (with_reducible repeat (first|refine kN6_ ?_ _|refine kD6_ ?_|refine kA6_ ?_ _));exact BK251.out) hb);have n1_:=mk6_ (bT6_ (by repeat (first|(with_reducible first|exact HB.out|apply bA6_|apply bN6_|apply bD6_|refine bS6_ ?_ GE251.out)|exact HB.out)) hb);have n2_:=mk6_ (hbox);have n3_:=mk6_ ((by rw [hg];exact (bZ6_ (by repeat (first|(with_reducible first|exact HB.out|apply bA6_|apply bN6_|apply bD6_|refine bS6_ ?_ GE251.out)|exact HB.out))):w.heap.size≤gb252));have n4_:=mk6_ ((by rw [hg];exact (bZ6_ (by repeat (first|(with_reducible first|exact HB.out|apply bA6_|apply bN6_|apply bD6_|refine bS6_ ?_ GE251.out)|exact HB.out))):w.heap.size≤gb252));have n5_:=mk6_ ((by rw [hg];exact Nat.ne_of_lt (blk_lt (g:=gb251) (o:=.cells #[.int .i64 a0_0,.int .i64 a0_1,.int .i64 a0_2] 37 (0,0)) (by (with_reducible repeat (first|refine kN6_ ?_ _|refine kD6_ ?_|refine kA6_ ?_ _));exact BK251.out)):gb251≠gb252));have n6_:=mk6_ ((by rw [hg];exact Nat.ne_of_gt (blk_lt (g:=gb251) (o:=.cells #[.int .i64 a0_0,.int .i64 a0_1,.int .i64 a0_2] 37 (0,0)) (by (with_reducible repeat (first|refine kN6_ ?_ _|refine kD6_ ?_|refine kA6_ ?_ _));exact BK251.out)):gb252≠gb251));clear BK251;clear HB;have BK251:=n0_;have HB:=n1_;have BK252:=n2_;have GW252:=n3_;have GE252:=n4_;have NB251_252:=n5_;have NB252_251:=n6_;clear n0_ n1_ n2_ n3_ n4_ n5_ n6_;clear hb hbox hg;have hnb23:=NB251_252.out;have hnc23:=NB252_251.out;have hcz24_0:w22.cell? ⟨gb251,0,none⟩=some (.int .i64 a0_0):=(blk_cell BK251.out 0).trans rfl;have hcz24_1:w22.cell? ⟨gb251,1,none⟩=some (.int .i64 a0_1):=(blk_cell BK251.out 1).trans rfl;have hcz24_2:w22.cell? ⟨gb251,2,none⟩=some (.int .i64 a0_2):=(blk_cell BK251.out 2).trans rfl;have hfz24_0:=fZ6_ BK251.out 0;have hfz24_1:=fZ6_ BK251.out 1;have hfz24_2:=fZ6_ BK251.out 2;have hcz25_0:w22.cell? ⟨gb252,0,none⟩=some (.int .i64 a1_0):=(blk_cell BK252.out 0).trans rfl;have hcz25_1:w22.cell? ⟨gb252,1,none⟩=some (.int .i64 a1_1):=(blk_cell BK252.out 1).trans rfl;have hcz25_2:w22.cell? ⟨gb252,2,none⟩=some (.int .i64 a1_2):=(blk_cell BK252.out 2).trans rfl;have hfz25_0:=fZ6_ BK252.out 0;have hfz25_1:=fZ6_ BK252.out 1;have hfz25_2:=fZ6_ BK252.out 2))
  go_ret
  exact ⟨by first|rfl|(simp [errW_none,errW_some] <;> rfl)|(simp [*,errW_none,errW_some] <;> rfl),by repeat (first|(with_reducible first|exact HB.out|apply bA6_|apply bN6_|apply bD6_|refine bS6_ ?_ GE251.out|refine bS6_ ?_ GE252.out)|exact HB.out)⟩

def laws_eqStringS.l0:Nat→List ByteArray→List ByteArray→Int→Option (Bool)
 | 0, _, _, _ => none
 | k+1,x0,x1,x5=>if x5 < (x0.length:Int) then (if 0≤x5 then (if x5 < (x1.length:Int) then (if (rdOf ByteArray.empty x0 x5).toList=(rdOf ByteArray.empty x1 x5).toList then (laws_eqStringS.l0 k x0 x1 (wrap64 (x5+1))) else (some false)) else (none)) else (none)) else (some true)
def laws_eqStringS.f (k:Nat) (l0:List ByteArray) (l1:List ByteArray):Option (Bool):=if (l0.length:Int)=(l1.length:Int) then (laws_eqStringS.l0 k l0 l1 0) else (some false)
set_option maxHeartbeats 8000000 in
set_option maxRecDepth 100000 in
theorem laws_eqStringS.calls (k:Nat) (A0:Option Addr) (c0:Nat) (l0:List ByteArray) (A1:Option Addr) (c1:Nat) (l1:List ByteArray) (r:Bool) (w:World) (hr0:Kd.C Kd.string w A0 l0.length l0) (hc0:l0.length≤c0) (hr1:Kd.C Kd.string w A1 l1.length l1) (hc1:l1.length≤c1) (h:laws_eqStringS.f k l0 l1=some r) :
  Calls Try.prog 80 #[.slice A0 l0.length c0,.slice A1 l1.length c1] w fun e w'=>e=.returned (.bool r)∧Drawn0 w w':=by
 have HR0 := Aside0.mk hr0
 have HC0 := Aside0.mk hc0
 clear hr0 hc0
 have HR1 := Aside0.mk hr1
 have HC1 := Aside0.mk hc1
 clear hr1 hc1
 have H:(if (l0.length:Int)=(l1.length:Int) then (laws_eqStringS.l0 k l0 l1 0) else (some false))=some r:=h
 clear h
 by_cases c3 : (l0.length : Int) = (l1.length : Int)
 ·rw [if_pos c3] at H
  have c3b0:((l0.length:Int) == (l1.length:Int))=true:=beq_iff_eq.mpr c3
  have c3b1:((l0.length:Int) != (l1.length:Int))=false:=bne_eq_false_iff_eq.mpr c3
  have c3b2:(l0.length == l1.length)=true:=by first|simpa using c3|(simp at c3 ⊢;omega)
  clear c3
  have H' := Aside0.mk H
  clear H
  go_enter Try.func80, Try.ntmps80
  go_wp2
  repeat (go_quiet (fail); try go_wp2)
  go_loopg [5] k (fun kq v5 w'=>∃ (x5_1:Int),v5=.int .i64 x5_1∧Aside0 (laws_eqStringS.l0 kq l0 l1 x5_1=some r)∧Aside0 (kq≤k)∧Drawn0 w w')
  case atStart=>exact ⟨(0),(by first|rfl|(simp;done)|(simp [*];done)),H',⟨Nat.le_refl _⟩,by repeat (first|exact Drawn0.refl _|apply Drawn0.step)⟩
  case round =>
   clear H'
   try clear c1
   try clear p2
   try clear c3
   try clear c3b0
   try clear c3b1
   try clear c3b2
   obtain ⟨x5_1, rfl, HA, HK1, ⟨m1, rfl⟩⟩ := hrel
   cases gk with
   | zero => exact absurd HA.out (by simp [laws_eqStringS.l0])
   | succ k1 =>
    have H := HA.out
    clear HA
    simp only [laws_eqStringS.l0] at H
    by_cases c4 : x5_1 < (l0.length : Int)
    ·rw [if_pos c4] at H
     have c4b0:decide (x5_1 < (l0.length:Int))=true:=decide_eq_true c4
     clear c4
     by_cases c5 : 0 ≤ x5_1
     ·rw [if_pos c5] at H
      have c5b0 : decide (0 ≤ x5_1) = true := decide_eq_true c5
      clear c5
      by_cases c6 : x5_1 < (l1.length : Int)
      ·rw [if_pos c6] at H
       have c6b0:decide (x5_1 < (l1.length:Int))=true:=decide_eq_true c6
       clear c6
       by_cases c7:(rdOf ByteArray.empty l0 x5_1).toList=(rdOf ByteArray.empty l1 x5_1).toList
       ·rw [if_pos c7] at H
        have c7b0:((rdOf ByteArray.empty l0 x5_1).toList == (rdOf ByteArray.empty l1 x5_1).toList)=true:=beq_iff_eq.mpr c7
        have c7b1:((rdOf ByteArray.empty l0 x5_1).toList != (rdOf ByteArray.empty l1 x5_1).toList)=false:=bne_eq_false_iff_eq.mpr c7
        clear c7
        have H' := Aside0.mk H
        clear H
        have p253:0≤(x5_1:Int):=of_decide_eq_true (by first|(with_reducible assumption)|assumption)
        have q253:x5_1 < (l0.length:Int):=of_decide_eq_true (by first|(with_reducible assumption)|assumption)
        obtain ⟨ad253,e253,hx253_0⟩:=Kd.at_string HR0.out x5_1 p253 q253
        cases e253
        replace p253 := eq_true p253
        replace q253 := eq_true q253
        have p254:0≤(x5_1:Int):=of_decide_eq_true (by first|(with_reducible assumption)|assumption)
        have q254:x5_1 < (l1.length:Int):=of_decide_eq_true (by first|(with_reducible assumption)|assumption)
        obtain ⟨ad254,e254,hx254_0⟩:=Kd.at_string HR1.out x5_1 p254 q254
        cases e254
        replace p254 := eq_true p254
        replace q254 := eq_true q254
        go_wp2
        repeat (go_quiet (fail); try go_wp2)
        go_roundg k1
        case measure => have := HK1.out; omega
        case rel=>exact ⟨(wrap64 (x5_1+1)),(by first|rfl|(simp;done)|(simp [*];done)),H',⟨by have:=HK1.out;omega⟩,by repeat (first|exact Drawn0.refl _|apply Drawn0.step)⟩
       ·rw [if_neg c7] at H
        have c7b0:((rdOf ByteArray.empty l0 x5_1).toList == (rdOf ByteArray.empty l1 x5_1).toList)=false:=beq_eq_false_iff_ne.mpr c7
        have c7b1:((rdOf ByteArray.empty l0 x5_1).toList != (rdOf ByteArray.empty l1 x5_1).toList)=true:=bne_iff_ne.mpr c7
        obtain rfl := Option.some.inj H
        have p253:0≤(x5_1:Int):=of_decide_eq_true (by first|(with_reducible assumption)|assumption)
        have q253:x5_1 < (l0.length:Int):=of_decide_eq_true (by first|(with_reducible assumption)|assumption)
        obtain ⟨ad253,e253,hx253_0⟩:=Kd.at_string HR0.out x5_1 p253 q253
        cases e253
        replace p253 := eq_true p253
        replace q253 := eq_true q253
        have p254:0≤(x5_1:Int):=of_decide_eq_true (by first|(with_reducible assumption)|assumption)
        have q254:x5_1 < (l1.length:Int):=of_decide_eq_true (by first|(with_reducible assumption)|assumption)
        obtain ⟨ad254,e254,hx254_0⟩:=Kd.at_string HR1.out x5_1 p254 q254
        cases e254
        replace p254 := eq_true p254
        replace q254 := eq_true q254
        go_wp2
        repeat (go_quiet (fail); try go_wp2)
        go_ret
        exact ⟨by first|rfl|(simp;done)|(simp [*];done),by repeat (first|exact Drawn0.refl _|apply Drawn0.step)⟩
      ·rw [if_neg c6] at H
       exact absurd H (by simp)
     ·rw [if_neg c5] at H
      exact absurd H (by simp)
    ·rw [if_neg c4] at H
     have c4b0:decide (x5_1 < (l0.length:Int))=false:=decide_eq_false c4
     clear c4
     obtain rfl := Option.some.inj H
     go_wp2
     repeat (go_quiet (fail); try go_wp2)
     go_ret
     exact ⟨by first|rfl|(simp;done)|(simp [*];done),by repeat (first|exact Drawn0.refl _|apply Drawn0.step)⟩
 ·rw [if_neg c3] at H
  have c3b0:((l0.length:Int) == (l1.length:Int))=false:=beq_eq_false_iff_ne.mpr c3
  have c3b1:((l0.length:Int) != (l1.length:Int))=true:=bne_iff_ne.mpr c3
  have c3b2:(l0.length == l1.length)=false:=by first|simpa using c3|(simp at c3 ⊢;omega)
  obtain rfl := Option.some.inj H
  go_enter Try.func80, Try.ntmps80
  go_wp2
  repeat (go_quiet (fail); try go_wp2)
  go_ret
  exact ⟨by first|rfl|(simp;done)|(simp [*];done),by repeat (first|exact Drawn0.refl _|apply Drawn0.step)⟩

def laws_eqBlock.f (k:Nat) (a0_0:Int) (a0_1:Int) (a0_2:Bool) (l0_3:List ByteArray) (a1_0:Int) (a1_1:Int) (a1_2:Bool) (l1_3:List ByteArray):Option (Bool):=if a0_0=a1_0 then (if a0_1=a1_1 then (if (a0_2 != a1_2)=true then (some false) else ((laws_eqStringS.f k l0_3 l1_3).bind fun t257=>(if t257=true then (some true) else (some false)))) else (some false)) else (some false)
set_option maxHeartbeats 8000000 in
set_option maxRecDepth 100000 in
theorem laws_eqBlock.calls (k:Nat) (a0_0:Int) (a0_1:Int) (a0_2:Bool) (A0_3:Option Addr) (c0_3:Nat) (l0_3:List ByteArray) (a1_0:Int) (a1_1:Int) (a1_2:Bool) (A1_3:Option Addr) (c1_3:Nat) (l1_3:List ByteArray) (r:Bool) (w:World) (hr0_3:Kd.C Kd.string w A0_3 l0_3.length l0_3) (hc0_3:l0_3.length≤c0_3) (hr1_3:Kd.C Kd.string w A1_3 l1_3.length l1_3) (hc1_3:l1_3.length≤c1_3) (h:laws_eqBlock.f k a0_0 a0_1 a0_2 l0_3 a1_0 a1_1 a1_2 l1_3=some r) :
  Calls Try.prog 75 #[.agg #[.int .i64 a0_0,.int .i64 a0_1,.bool a0_2,.slice A0_3 l0_3.length c0_3],.agg #[.int .i64 a1_0,.int .i64 a1_1,.bool a1_2,.slice A1_3 l1_3.length c1_3]] w fun e w'=>e=.returned (.bool r)∧Below w.heap.size w w':=by
 have hu92 := Try.underlying92
 have HR0_3 := Aside0.mk hr0_3
 have HC0_3 := Aside0.mk hc0_3
 clear hr0_3 hc0_3
 have HR1_3 := Aside0.mk hr1_3
 have HC1_3 := Aside0.mk hc1_3
 clear hr1_3 hc1_3
 have HB := Aside0.mk (Below.refl w.heap.size w)
 have H:(if a0_0=a1_0 then (if a0_1=a1_1 then (if (a0_2 != a1_2)=true then (some false) else ((laws_eqStringS.f k l0_3 l1_3).bind fun t257=>(if t257=true then (some true) else (some false)))) else (some false)) else (some false))=some r:=h
 clear h
 by_cases c3 : a0_0 = a1_0
 ·rw [if_pos c3] at H
  have c3b0 : (a0_0 == a1_0) = true := beq_iff_eq.mpr c3
  have c3b1 : (a0_0 != a1_0) = false := bne_eq_false_iff_eq.mpr c3
  clear c3
  by_cases c4 : a0_1 = a1_1
  ·rw [if_pos c4] at H
   have c4b0 : (a0_1 == a1_1) = true := beq_iff_eq.mpr c4
   have c4b1:(a0_1 != a1_1)=false:=bne_eq_false_iff_eq.mpr c4
   clear c4
   by_cases c5 : (a0_2 != a1_2) = true
   ·rw [if_pos c5] at H
    have c5b0 : (a0_2 != a1_2) = true := c5
    (try (have c5b1:decide (a0_2=a1_2)=false:=by simpa using c5))
    (try (have c5b2:(a0_2 == a1_2)=false:=by simpa using c5))
    (try (have c5b3 : ¬ (a0_2 = a1_2) := by simpa using c5))
    clear c5
    obtain rfl := Option.some.inj H
    go_enter Try.func75, Try.ntmps75
    go_wp2_with (first|((with_reducible refine gate_dst (N:=2) rfl ?_);refine box_event ?hg (N:=2) ?hd (cs:=#[.int .i64 a0_0,.int .i64 a0_1,.bool a0_2,.slice A0_3 l0_3.length c0_3]) (t:=92) ?hr ?_;(case hd=>rfl);(case hg=>rfl);(case hr=>first|(go_simp;done)|(go_simp;rfl));intro gb255 hg w6 hbox hb;have n0_:=mk6_ (bT6_ (by repeat (first|(with_reducible first|exact HB.out|apply bA6_|apply bN6_|apply bD6_)|exact HB.out)) hb);have n1_:=mk6_ (hbox);have n2_:=mk6_ ((by rw [hg];exact (bZ6_ (by repeat (first|(with_reducible first|exact HB.out|apply bA6_|apply bN6_|apply bD6_)|exact HB.out))):w.heap.size≤gb255));have n3_:=mk6_ ((by rw [hg];exact (bZ6_ (by repeat (first|(with_reducible first|exact HB.out|apply bA6_|apply bN6_|apply bD6_)|exact HB.out))):w.heap.size≤gb255));clear HB;have HB:=n0_;have BK255:=n1_;have GW255:=n2_;have GE255:=n3_;clear n0_ n1_ n2_ n3_;clear hb hbox hg)|((with_reducible refine gate_dst (N:=3) rfl ?_);refine box_event ?hg (N:=3) ?hd (cs:=#[.int .i64 a1_0,.int .i64 a1_1,.bool a1_2,.slice A1_3 l1_3.length c1_3]) (t:=92) ?hr ?_;(case hd=>rfl);(case hg=>rfl);(case hr=>first|(go_simp;done)|(go_simp;rfl));intro gb256 hg w7 hbox hb;have n0_:=mk6_ (blk_below (g:=gb255) (o:=.cells #[.int .i64 a0_0,.int .i64 a0_1,.bool a0_2,.slice A0_3 l0_3.length c0_3] 92 (0,0)) (by (with_reducible repeat (first|refine kN6_ ?_ _|refine kD6_ ?_|refine kA6_ ?_ _));exact BK255.out) hb);have n1_:=mk6_ (bT6_ (by repeat (first|(with_reducible first|exact HB.out|apply bA6_|apply bN6_|apply bD6_|refine bS6_ ?_ GE255.out)|exact HB.out)) hb);have n2_:=mk6_ (hbox);have n3_:=mk6_ ((by rw [hg];exact (bZ6_ (by repeat (first|(with_reducible first|exact HB.out|apply bA6_|apply bN6_|apply bD6_|refine bS6_ ?_ GE255.out)|exact HB.out))):w.heap.size≤gb256));have n4_:=mk6_ ((by rw [hg];exact (bZ6_ (by repeat (first|(with_reducible first|exact HB.out|apply bA6_|apply bN6_|apply bD6_|refine bS6_ ?_ GE255.out)|exact HB.out))):w.heap.size≤gb256));have n5_:=mk6_ ((by rw [hg];exact Nat.ne_of_lt (blk_lt (g:=gb255) (o:=.cells #[.int .i64 a0_0,.int .i64 a0_1,.bool a0_2,.slice A0_3 l0_3.length c0_3] 92 (0,0)) (by (with_reducible repeat (first|refine kN6_ ?_ _|refine kD6_ ?_|refine kA6_ ?_ _));exact BK255.out)):gb255≠gb256));have n6_:=mk6_ ((by rw [hg];exact Nat.ne_of_gt (blk_lt (g:=gb255) (o:=.cells #[.int .i64 a0_0,.int .i64 a0_1,.bool a0_2,.slice A0_3 l0_3.length c0_3] 92 (0,0)) (by (with_reducible repeat (first|refine kN6_ ?_ _|refine kD6_ ?_|refine kA6_ ?_ _));exact BK255.out)):gb256≠gb255));clear BK255;clear HB;have BK255:=n0_;have HB:=n1_;have BK256:=n2_;have GW256:=n3_;have GE256:=n4_;have NB255_256:=n5_;have NB256_255:=n6_;clear n0_ n1_ n2_ n3_ n4_ n5_ n6_;clear hb hbox hg;have hnb8:=NB255_256.out;have hnc8:=NB256_255.out;have hcz9_0:w7.cell? ⟨gb255,0,none⟩=some (.int .i64 a0_0):=(blk_cell BK255.out 0).trans rfl;have hcz9_1:w7.cell? ⟨gb255,1,none⟩=some (.int .i64 a0_1):=(blk_cell BK255.out 1).trans rfl;have hcz9_2:w7.cell? ⟨gb255,2,none⟩=some (.bool a0_2):=(blk_cell BK255.out 2).trans rfl;have hcz9_3:w7.cell? ⟨gb255,3,none⟩=some (.slice A0_3 l0_3.length c0_3):=(blk_cell BK255.out 3).trans rfl;have hfz9_0:=fZ6_ BK255.out 0;have hfz9_1:=fZ6_ BK255.out 1;have hfz9_2:=fZ6_ BK255.out 2;have hfz9_3:=fZ6_ BK255.out 3;have hcz10_0:w7.cell? ⟨gb256,0,none⟩=some (.int .i64 a1_0):=(blk_cell BK256.out 0).trans rfl;have hcz10_1:w7.cell? ⟨gb256,1,none⟩=some (.int .i64 a1_1):=(blk_cell BK256.out 1).trans rfl;have hcz10_2:w7.cell? ⟨gb256,2,none⟩=some (.bool a1_2):=(blk_cell BK256.out 2).trans rfl;have hcz10_3:w7.cell? ⟨gb256,3,none⟩=some (.slice A1_3 l1_3.length c1_3):=(blk_cell BK256.out 3).trans rfl;have hfz10_0:=fZ6_ BK256.out 0;have hfz10_1:=fZ6_ BK256.out 1;have hfz10_2:=fZ6_ BK256.out 2;have hfz10_3:=fZ6_ BK256.out 3))
    go_ret
    exact ⟨by first|rfl|(simp [errW_none,errW_some] <;> rfl)|(simp [*,errW_none,errW_some] <;> rfl),by repeat (first|(with_reducible first|exact HB.out|apply bA6_|apply bN6_|apply bD6_|refine bS6_ ?_ GE255.out|refine bS6_ ?_ GE256.out)|exact HB.out)⟩
   ·rw [if_neg c5] at H
    have c5b0 : (a0_2 != a1_2) = false := by simpa using c5
    (try (have c5b1:decide (a0_2=a1_2)=true:=by simpa using c5))
    (try (have c5b2:(a0_2 == a1_2)=true:=by simpa using c5))
    clear c5
    replace H := Option.bind_eq_some_iff.mp H
    obtain ⟨t257, A110, H⟩ := H
    replace H:(if t257=true then (some true) else (some false))=some r:=H
    have A11 := Aside0.mk A110
    clear A110
    by_cases c12 : t257 = true
    ·subst c12
     have H1:(some true)=some r:=by rw [if_pos rfl] at H;exact H
     clear H
     have H := H1
     clear H1
     obtain rfl := Option.some.inj H
     go_enter Try.func75, Try.ntmps75
     go_wp2_with (first|((with_reducible refine gate_dst (N:=2) rfl ?_);refine box_event ?hg (N:=2) ?hd (cs:=#[.int .i64 a0_0,.int .i64 a0_1,.bool a0_2,.slice A0_3 l0_3.length c0_3]) (t:=92) ?hr ?_;(case hd=>rfl);(case hg=>rfl);(case hr=>first|(go_simp;done)|(go_simp;rfl));intro gb255 hg w13 hbox hb;have n0_:=mk6_ (bT6_ (by repeat (first|(with_reducible first|exact HB.out|apply bA6_|apply bN6_|apply bD6_)|exact HB.out)) hb);have n1_:=mk6_ (hbox);have n2_:=mk6_ ((by rw [hg];exact (bZ6_ (by repeat (first|(with_reducible first|exact HB.out|apply bA6_|apply bN6_|apply bD6_)|exact HB.out))):w.heap.size≤gb255));have n3_:=mk6_ ((by rw [hg];exact (bZ6_ (by repeat (first|(with_reducible first|exact HB.out|apply bA6_|apply bN6_|apply bD6_)|exact HB.out))):w.heap.size≤gb255));clear HB;have HB:=n0_;have BK255:=n1_;have GW255:=n2_;have GE255:=n3_;clear n0_ n1_ n2_ n3_;clear hb hbox hg)|((with_reducible refine gate_dst (N:=3) rfl ?_);refine box_event ?hg (N:=3) ?hd (cs:=#[.int .i64 a1_0,.int .i64 a1_1,.bool a1_2,.slice A1_3 l1_3.length c1_3]) (t:=92) ?hr ?_;(case hd=>rfl);(case hg=>rfl);(case hr=>first|(go_simp;done)|(go_simp;rfl));intro gb256 hg w14 hbox hb;have n0_:=mk6_ (blk_below (g:=gb255) (o:=.cells #[.int .i64 a0_0,.int .i64 a0_1,.bool a0_2,.slice A0_3 l0_3.length c0_3] 92 (0,0)) (by (with_reducible repeat (first|refine kN6_ ?_ _|refine kD6_ ?_|refine kA6_ ?_ _));exact BK255.out) hb);have n1_:=mk6_ (bT6_ (by repeat (first|(with_reducible first|exact HB.out|apply bA6_|apply bN6_|apply bD6_|refine bS6_ ?_ GE255.out)|exact HB.out)) hb);have n2_:=mk6_ (hbox);have n3_:=mk6_ ((by rw [hg];exact (bZ6_ (by repeat (first|(with_reducible first|exact HB.out|apply bA6_|apply bN6_|apply bD6_|refine bS6_ ?_ GE255.out)|exact HB.out))):w.heap.size≤gb256));have n4_:=mk6_ ((by rw [hg];exact (bZ6_ (by repeat (first|(with_reducible first|exact HB.out|apply bA6_|apply bN6_|apply bD6_|refine bS6_ ?_ GE255.out)|exact HB.out))):w.heap.size≤gb256));have n5_:=mk6_ ((by rw [hg];exact Nat.ne_of_lt (blk_lt (g:=gb255) (o:=.cells #[.int .i64 a0_0,.int .i64 a0_1,.bool a0_2,.slice A0_3 l0_3.length c0_3] 92 (0,0)) (by (with_reducible repeat (first|refine kN6_ ?_ _|refine kD6_ ?_|refine kA6_ ?_ _));exact BK255.out)):gb255≠gb256));have n6_:=mk6_ ((by rw [hg];exact Nat.ne_of_gt (blk_lt (g:=gb255) (o:=.cells #[.int .i64 a0_0,.int .i64 a0_1,.bool a0_2,.slice A0_3 l0_3.length c0_3] 92 (0,0)) (by (with_reducible repeat (first|refine kN6_ ?_ _|refine kD6_ ?_|refine kA6_ ?_ _));exact BK255.out)):gb256≠gb255));clear BK255;clear HB;have BK255:=n0_;have HB:=n1_;have BK256:=n2_;have GW256:=n3_;have GE256:=n4_;have NB255_256:=n5_;have NB256_255:=n6_;clear n0_ n1_ n2_ n3_ n4_ n5_ n6_;clear hb hbox hg;have hnb15:=NB255_256.out;have hnc15:=NB256_255.out;have hcz16_0:w14.cell? ⟨gb255,0,none⟩=some (.int .i64 a0_0):=(blk_cell BK255.out 0).trans rfl;have hcz16_1:w14.cell? ⟨gb255,1,none⟩=some (.int .i64 a0_1):=(blk_cell BK255.out 1).trans rfl;have hcz16_2:w14.cell? ⟨gb255,2,none⟩=some (.bool a0_2):=(blk_cell BK255.out 2).trans rfl;have hcz16_3:w14.cell? ⟨gb255,3,none⟩=some (.slice A0_3 l0_3.length c0_3):=(blk_cell BK255.out 3).trans rfl;have hfz16_0:=fZ6_ BK255.out 0;have hfz16_1:=fZ6_ BK255.out 1;have hfz16_2:=fZ6_ BK255.out 2;have hfz16_3:=fZ6_ BK255.out 3;have hcz17_0:w14.cell? ⟨gb256,0,none⟩=some (.int .i64 a1_0):=(blk_cell BK256.out 0).trans rfl;have hcz17_1:w14.cell? ⟨gb256,1,none⟩=some (.int .i64 a1_1):=(blk_cell BK256.out 1).trans rfl;have hcz17_2:w14.cell? ⟨gb256,2,none⟩=some (.bool a1_2):=(blk_cell BK256.out 2).trans rfl;have hcz17_3:w14.cell? ⟨gb256,3,none⟩=some (.slice A1_3 l1_3.length c1_3):=(blk_cell BK256.out 3).trans rfl;have hfz17_0:=fZ6_ BK256.out 0;have hfz17_1:=fZ6_ BK256.out 1;have hfz17_2:=fZ6_ BK256.out 2;have hfz17_3:=fZ6_ BK256.out 3)|((with_reducible refine gate_callee (f:=80) rfl ?_);refine goesL_ (some 24) rfl rfl Try.func80 (by kernel_rfl) rfl #[.slice A0_3 l0_3.length c0_3,.slice A1_3 l1_3.length c1_3] rfl (by (try simp only [mA6_,mC6_,mN6_]);first|done|rfl|(simp only [List.length_drop,List.length_take];rfl)) ?_;(with_reducible refine (laws_eqStringS.calls k _ _ l0_3 _ _ l1_3 true _ ?side1 ?side2 ?side3 ?side4 A11.out).mono ?_);(case side1=>repeat (first|exact (Kd.C_below HR0_3.out HB.out)|(with_reducible refine Kd.C_alloc ?_ _)|(with_reducible refine Kd.C_drewN ?_ _)|(with_reducible refine Kd.C_drew ?_)));(case side2=>exact HC0_3.out);(case side3=>repeat (first|exact (Kd.C_below HR1_3.out HB.out)|(with_reducible refine Kd.C_alloc ?_ _)|(with_reducible refine Kd.C_drewN ?_ _)|(with_reducible refine Kd.C_drew ?_)));(case side4=>exact HC1_3.out);rintro e w' ⟨rfl,⟨nd,rfl⟩⟩;refine ⟨_,rfl,?_⟩))
     go_ret
     exact ⟨by first|rfl|(simp [errW_none,errW_some] <;> rfl)|(simp [*,errW_none,errW_some] <;> rfl),by repeat (first|(with_reducible first|exact HB.out|apply bA6_|apply bN6_|apply bD6_|refine bS6_ ?_ GE255.out|refine bS6_ ?_ GE256.out)|exact HB.out)⟩
    ·replace c12 := Bool.eq_false_iff.mpr c12
     subst c12
     have H1:(some false)=some r:=by rw [if_neg (show ¬ (false=true) by decide)] at H;exact H
     clear H
     have H := H1
     clear H1
     obtain rfl := Option.some.inj H
     go_enter Try.func75, Try.ntmps75
     go_wp2_with (first|((with_reducible refine gate_dst (N:=2) rfl ?_);refine box_event ?hg (N:=2) ?hd (cs:=#[.int .i64 a0_0,.int .i64 a0_1,.bool a0_2,.slice A0_3 l0_3.length c0_3]) (t:=92) ?hr ?_;(case hd=>rfl);(case hg=>rfl);(case hr=>first|(go_simp;done)|(go_simp;rfl));intro gb255 hg w18 hbox hb;have n0_:=mk6_ (bT6_ (by repeat (first|(with_reducible first|exact HB.out|apply bA6_|apply bN6_|apply bD6_)|exact HB.out)) hb);have n1_:=mk6_ (hbox);have n2_:=mk6_ ((by rw [hg];exact (bZ6_ (by repeat (first|(with_reducible first|exact HB.out|apply bA6_|apply bN6_|apply bD6_)|exact HB.out))):w.heap.size≤gb255));have n3_:=mk6_ ((by rw [hg];exact (bZ6_ (by repeat (first|(with_reducible first|exact HB.out|apply bA6_|apply bN6_|apply bD6_)|exact HB.out))):w.heap.size≤gb255));clear HB;have HB:=n0_;have BK255:=n1_;have GW255:=n2_;have GE255:=n3_;clear n0_ n1_ n2_ n3_;clear hb hbox hg)|((with_reducible refine gate_dst (N:=3) rfl ?_);refine box_event ?hg (N:=3) ?hd (cs:=#[.int .i64 a1_0,.int .i64 a1_1,.bool a1_2,.slice A1_3 l1_3.length c1_3]) (t:=92) ?hr ?_;(case hd=>rfl);(case hg=>rfl);(case hr=>first|(go_simp;done)|(go_simp;rfl));intro gb256 hg w19 hbox hb;have n0_:=mk6_ (blk_below (g:=gb255) (o:=.cells #[.int .i64 a0_0,.int .i64 a0_1,.bool a0_2,.slice A0_3 l0_3.length c0_3] 92 (0,0)) (by (with_reducible repeat (first|refine kN6_ ?_ _|refine kD6_ ?_|refine kA6_ ?_ _));exact BK255.out) hb);have n1_:=mk6_ (bT6_ (by repeat (first|(with_reducible first|exact HB.out|apply bA6_|apply bN6_|apply bD6_|refine bS6_ ?_ GE255.out)|exact HB.out)) hb);have n2_:=mk6_ (hbox);have n3_:=mk6_ ((by rw [hg];exact (bZ6_ (by repeat (first|(with_reducible first|exact HB.out|apply bA6_|apply bN6_|apply bD6_|refine bS6_ ?_ GE255.out)|exact HB.out))):w.heap.size≤gb256));have n4_:=mk6_ ((by rw [hg];exact (bZ6_ (by repeat (first|(with_reducible first|exact HB.out|apply bA6_|apply bN6_|apply bD6_|refine bS6_ ?_ GE255.out)|exact HB.out))):w.heap.size≤gb256));have n5_:=mk6_ ((by rw [hg];exact Nat.ne_of_lt (blk_lt (g:=gb255) (o:=.cells #[.int .i64 a0_0,.int .i64 a0_1,.bool a0_2,.slice A0_3 l0_3.length c0_3] 92 (0,0)) (by (with_reducible repeat (first|refine kN6_ ?_ _|refine kD6_ ?_|refine kA6_ ?_ _));exact BK255.out)):gb255≠gb256));have n6_:=mk6_ ((by rw [hg];exact Nat.ne_of_gt (blk_lt (g:=gb255) (o:=.cells #[.int .i64 a0_0,.int .i64 a0_1,.bool a0_2,.slice A0_3 l0_3.length c0_3] 92 (0,0)) (by (with_reducible repeat (first|refine kN6_ ?_ _|refine kD6_ ?_|refine kA6_ ?_ _));exact BK255.out)):gb256≠gb255));clear BK255;clear HB;have BK255:=n0_;have HB:=n1_;have BK256:=n2_;have GW256:=n3_;have GE256:=n4_;have NB255_256:=n5_;have NB256_255:=n6_;clear n0_ n1_ n2_ n3_ n4_ n5_ n6_;clear hb hbox hg;have hnb20:=NB255_256.out;have hnc20:=NB256_255.out;have hcz21_0:w19.cell? ⟨gb255,0,none⟩=some (.int .i64 a0_0):=(blk_cell BK255.out 0).trans rfl;have hcz21_1:w19.cell? ⟨gb255,1,none⟩=some (.int .i64 a0_1):=(blk_cell BK255.out 1).trans rfl;have hcz21_2:w19.cell? ⟨gb255,2,none⟩=some (.bool a0_2):=(blk_cell BK255.out 2).trans rfl;have hcz21_3:w19.cell? ⟨gb255,3,none⟩=some (.slice A0_3 l0_3.length c0_3):=(blk_cell BK255.out 3).trans rfl;have hfz21_0:=fZ6_ BK255.out 0;have hfz21_1:=fZ6_ BK255.out 1;have hfz21_2:=fZ6_ BK255.out 2;have hfz21_3:=fZ6_ BK255.out 3;have hcz22_0:w19.cell? ⟨gb256,0,none⟩=some (.int .i64 a1_0):=(blk_cell BK256.out 0).trans rfl;have hcz22_1:w19.cell? ⟨gb256,1,none⟩=some (.int .i64 a1_1):=(blk_cell BK256.out 1).trans rfl;have hcz22_2:w19.cell? ⟨gb256,2,none⟩=some (.bool a1_2):=(blk_cell BK256.out 2).trans rfl;have hcz22_3:w19.cell? ⟨gb256,3,none⟩=some (.slice A1_3 l1_3.length c1_3):=(blk_cell BK256.out 3).trans rfl;have hfz22_0:=fZ6_ BK256.out 0;have hfz22_1:=fZ6_ BK256.out 1;have hfz22_2:=fZ6_ BK256.out 2;have hfz22_3:=fZ6_ BK256.out 3)|((with_reducible refine gate_callee (f:=80) rfl ?_);refine goesL_ (some 24) rfl rfl Try.func80 (by kernel_rfl) rfl #[.slice A0_3 l0_3.length c0_3,.slice A1_3 l1_3.length c1_3] rfl (by (try simp only [mA6_,mC6_,mN6_]);first|done|rfl|(simp only [List.length_drop,List.length_take];rfl)) ?_;(with_reducible refine (laws_eqStringS.calls k _ _ l0_3 _ _ l1_3 false _ ?side1 ?side2 ?side3 ?side4 A11.out).mono ?_);(case side1=>repeat (first|exact (Kd.C_below HR0_3.out HB.out)|(with_reducible refine Kd.C_alloc ?_ _)|(with_reducible refine Kd.C_drewN ?_ _)|(with_reducible refine Kd.C_drew ?_)));(case side2=>exact HC0_3.out);(case side3=>repeat (first|exact (Kd.C_below HR1_3.out HB.out)|(with_reducible refine Kd.C_alloc ?_ _)|(with_reducible refine Kd.C_drewN ?_ _)|(with_reducible refine Kd.C_drew ?_)));(case side4=>exact HC1_3.out);rintro e w' ⟨rfl,⟨nd,rfl⟩⟩;refine ⟨_,rfl,?_⟩))
     go_ret
     exact ⟨by first|rfl|(simp [errW_none,errW_some] <;> rfl)|(simp [*,errW_none,errW_some] <;> rfl),by repeat (first|(with_reducible first|exact HB.out|apply bA6_|apply bN6_|apply bD6_|refine bS6_ ?_ GE255.out|refine bS6_ ?_ GE256.out)|exact HB.out)⟩
  ·rw [if_neg c4] at H
   have c4b0:(a0_1 == a1_1)=false:=beq_eq_false_iff_ne.mpr c4
   have c4b1 : (a0_1 != a1_1) = true := bne_iff_ne.mpr c4
   obtain rfl := Option.some.inj H
   go_enter Try.func75, Try.ntmps75
   go_wp2_with (first|((with_reducible refine gate_dst (N:=2) rfl ?_);refine box_event ?hg (N:=2) ?hd (cs:=#[.int .i64 a0_0,.int .i64 a0_1,.bool a0_2,.slice A0_3 l0_3.length c0_3]) (t:=92) ?hr ?_;(case hd=>rfl);(case hg=>rfl);(case hr=>first|(go_simp;done)|(go_simp;rfl));intro gb255 hg w23 hbox hb;have n0_:=mk6_ (bT6_ (by repeat (first|(with_reducible first|exact HB.out|apply bA6_|apply bN6_|apply bD6_)|exact HB.out)) hb);have n1_:=mk6_ (hbox);have n2_:=mk6_ ((by rw [hg];exact (bZ6_ (by repeat (first|(with_reducible first|exact HB.out|apply bA6_|apply bN6_|apply bD6_)|exact HB.out))):w.heap.size≤gb255));have n3_:=mk6_ ((by rw [hg];exact (bZ6_ (by repeat (first|(with_reducible first|exact HB.out|apply bA6_|apply bN6_|apply bD6_)|exact HB.out))):w.heap.size≤gb255));clear HB;have HB:=n0_;have BK255:=n1_;have GW255:=n2_;have GE255:=n3_;clear n0_ n1_ n2_ n3_;clear hb hbox hg)|((with_reducible refine gate_dst (N:=3) rfl ?_);refine box_event ?hg (N:=3) ?hd (cs:=#[.int .i64 a1_0,.int .i64 a1_1,.bool a1_2,.slice A1_3 l1_3.length c1_3]) (t:=92) ?hr ?_;(case hd=>rfl);(case hg=>rfl);(case hr=>first|(go_simp;done)|(go_simp;rfl));intro gb256 hg w24 hbox hb;have n0_:=mk6_ (blk_below (g:=gb255) (o:=.cells #[.int .i64 a0_0,.int .i64 a0_1,.bool a0_2,.slice A0_3 l0_3.length c0_3] 92 (0,0)) (by (with_reducible repeat (first|refine kN6_ ?_ _|refine kD6_ ?_|refine kA6_ ?_ _));exact BK255.out) hb);have n1_:=mk6_ (bT6_ (by repeat (first|(with_reducible first|exact HB.out|apply bA6_|apply bN6_|apply bD6_|refine bS6_ ?_ GE255.out)|exact HB.out)) hb);have n2_:=mk6_ (hbox);have n3_:=mk6_ ((by rw [hg];exact (bZ6_ (by repeat (first|(with_reducible first|exact HB.out|apply bA6_|apply bN6_|apply bD6_|refine bS6_ ?_ GE255.out)|exact HB.out))):w.heap.size≤gb256));have n4_:=mk6_ ((by rw [hg];exact (bZ6_ (by repeat (first|(with_reducible first|exact HB.out|apply bA6_|apply bN6_|apply bD6_|refine bS6_ ?_ GE255.out)|exact HB.out))):w.heap.size≤gb256));have n5_:=mk6_ ((by rw [hg];exact Nat.ne_of_lt (blk_lt (g:=gb255) (o:=.cells #[.int .i64 a0_0,.int .i64 a0_1,.bool a0_2,.slice A0_3 l0_3.length c0_3] 92 (0,0)) (by (with_reducible repeat (first|refine kN6_ ?_ _|refine kD6_ ?_|refine kA6_ ?_ _));exact BK255.out)):gb255≠gb256));have n6_:=mk6_ ((by rw [hg];exact Nat.ne_of_gt (blk_lt (g:=gb255) (o:=.cells #[.int .i64 a0_0,.int .i64 a0_1,.bool a0_2,.slice A0_3 l0_3.length c0_3] 92 (0,0)) (by (with_reducible repeat (first|refine kN6_ ?_ _|refine kD6_ ?_|refine kA6_ ?_ _));exact BK255.out)):gb256≠gb255));clear BK255;clear HB;have BK255:=n0_;have HB:=n1_;have BK256:=n2_;have GW256:=n3_;have GE256:=n4_;have NB255_256:=n5_;have NB256_255:=n6_;clear n0_ n1_ n2_ n3_ n4_ n5_ n6_;clear hb hbox hg;have hnb25:=NB255_256.out;have hnc25:=NB256_255.out;have hcz26_0:w24.cell? ⟨gb255,0,none⟩=some (.int .i64 a0_0):=(blk_cell BK255.out 0).trans rfl;have hcz26_1:w24.cell? ⟨gb255,1,none⟩=some (.int .i64 a0_1):=(blk_cell BK255.out 1).trans rfl;have hcz26_2:w24.cell? ⟨gb255,2,none⟩=some (.bool a0_2):=(blk_cell BK255.out 2).trans rfl;have hcz26_3:w24.cell? ⟨gb255,3,none⟩=some (.slice A0_3 l0_3.length c0_3):=(blk_cell BK255.out 3).trans rfl;have hfz26_0:=fZ6_ BK255.out 0;have hfz26_1:=fZ6_ BK255.out 1;have hfz26_2:=fZ6_ BK255.out 2;have hfz26_3:=fZ6_ BK255.out 3;have hcz27_0:w24.cell? ⟨gb256,0,none⟩=some (.int .i64 a1_0):=(blk_cell BK256.out 0).trans rfl;have hcz27_1:w24.cell? ⟨gb256,1,none⟩=some (.int .i64 a1_1):=(blk_cell BK256.out 1).trans rfl;have hcz27_2:w24.cell? ⟨gb256,2,none⟩=some (.bool a1_2):=(blk_cell BK256.out 2).trans rfl;have hcz27_3:w24.cell? ⟨gb256,3,none⟩=some (.slice A1_3 l1_3.length c1_3):=(blk_cell BK256.out 3).trans rfl;have hfz27_0:=fZ6_ BK256.out 0;have hfz27_1:=fZ6_ BK256.out 1;have hfz27_2:=fZ6_ BK256.out 2;have hfz27_3:=fZ6_ BK256.out 3))
   go_ret
   exact ⟨by first|rfl|(simp [errW_none,errW_some] <;> rfl)|(simp [*,errW_none,errW_some] <;> rfl),by repeat (first|(with_reducible first|exact HB.out|apply bA6_|apply bN6_|apply bD6_|refine bS6_ ?_ GE255.out|refine bS6_ ?_ GE256.out)|exact HB.out)⟩
 ·rw [if_neg c3] at H
  have c3b0 : (a0_0 == a1_0) = false := beq_eq_false_iff_ne.mpr c3
  have c3b1 : (a0_0 != a1_0) = true := bne_iff_ne.mpr c3
  obtain rfl := Option.some.inj H
  go_enter Try.func75, Try.ntmps75
  go_wp2_with (first|((with_reducible refine gate_dst (N:=2) rfl ?_);refine box_event ?hg (N:=2) ?hd (cs:=#[.int .i64 a0_0,.int .i64 a0_1,.bool a0_2,.slice A0_3 l0_3.length c0_3]) (t:=92) ?hr ?_;(case hd=>rfl);(case hg=>rfl);(case hr=>first|(go_simp;done)|(go_simp;rfl));intro gb255 hg w28 hbox hb;have n0_:=mk6_ (bT6_ (by repeat (first|(with_reducible first|exact HB.out|apply bA6_|apply bN6_|apply bD6_)|exact HB.out)) hb);have n1_:=mk6_ (hbox);have n2_:=mk6_ ((by rw [hg];exact (bZ6_ (by repeat (first|(with_reducible first|exact HB.out|apply bA6_|apply bN6_|apply bD6_)|exact HB.out))):w.heap.size≤gb255));have n3_:=mk6_ ((by rw [hg];exact (bZ6_ (by repeat (first|(with_reducible first|exact HB.out|apply bA6_|apply bN6_|apply bD6_)|exact HB.out))):w.heap.size≤gb255));clear HB;have HB:=n0_;have BK255:=n1_;have GW255:=n2_;have GE255:=n3_;clear n0_ n1_ n2_ n3_;clear hb hbox hg)|((with_reducible refine gate_dst (N:=3) rfl ?_);refine box_event ?hg (N:=3) ?hd (cs:=#[.int .i64 a1_0,.int .i64 a1_1,.bool a1_2,.slice A1_3 l1_3.length c1_3]) (t:=92) ?hr ?_;(case hd=>rfl);(case hg=>rfl);(case hr=>first|(go_simp;done)|(go_simp;rfl));intro gb256 hg w29 hbox hb;have n0_:=mk6_ (blk_below (g:=gb255) (o:=.cells #[.int .i64 a0_0,.int .i64 a0_1,.bool a0_2,.slice A0_3 l0_3.length c0_3] 92 (0,0)) (by (with_reducible repeat (first|refine kN6_ ?_ _|refine kD6_ ?_|refine kA6_ ?_ _));exact BK255.out) hb);have n1_:=mk6_ (bT6_ (by repeat (first|(with_reducible first|exact HB.out|apply bA6_|apply bN6_|apply bD6_|refine bS6_ ?_ GE255.out)|exact HB.out)) hb);have n2_:=mk6_ (hbox);have n3_:=mk6_ ((by rw [hg];exact (bZ6_ (by repeat (first|(with_reducible first|exact HB.out|apply bA6_|apply bN6_|apply bD6_|refine bS6_ ?_ GE255.out)|exact HB.out))):w.heap.size≤gb256));have n4_:=mk6_ ((by rw [hg];exact (bZ6_ (by repeat (first|(with_reducible first|exact HB.out|apply bA6_|apply bN6_|apply bD6_|refine bS6_ ?_ GE255.out)|exact HB.out))):w.heap.size≤gb256));have n5_:=mk6_ ((by rw [hg];exact Nat.ne_of_lt (blk_lt (g:=gb255) (o:=.cells #[.int .i64 a0_0,.int .i64 a0_1,.bool a0_2,.slice A0_3 l0_3.length c0_3] 92 (0,0)) (by (with_reducible repeat (first|refine kN6_ ?_ _|refine kD6_ ?_|refine kA6_ ?_ _));exact BK255.out)):gb255≠gb256));have n6_:=mk6_ ((by rw [hg];exact Nat.ne_of_gt (blk_lt (g:=gb255) (o:=.cells #[.int .i64 a0_0,.int .i64 a0_1,.bool a0_2,.slice A0_3 l0_3.length c0_3] 92 (0,0)) (by (with_reducible repeat (first|refine kN6_ ?_ _|refine kD6_ ?_|refine kA6_ ?_ _));exact BK255.out)):gb256≠gb255));clear BK255;clear HB;have BK255:=n0_;have HB:=n1_;have BK256:=n2_;have GW256:=n3_;have GE256:=n4_;have NB255_256:=n5_;have NB256_255:=n6_;clear n0_ n1_ n2_ n3_ n4_ n5_ n6_;clear hb hbox hg;have hnb30:=NB255_256.out;have hnc30:=NB256_255.out;have hcz31_0:w29.cell? ⟨gb255,0,none⟩=some (.int .i64 a0_0):=(blk_cell BK255.out 0).trans rfl;have hcz31_1:w29.cell? ⟨gb255,1,none⟩=some (.int .i64 a0_1):=(blk_cell BK255.out 1).trans rfl;have hcz31_2:w29.cell? ⟨gb255,2,none⟩=some (.bool a0_2):=(blk_cell BK255.out 2).trans rfl;have hcz31_3:w29.cell? ⟨gb255,3,none⟩=some (.slice A0_3 l0_3.length c0_3):=(blk_cell BK255.out 3).trans rfl;have hfz31_0:=fZ6_ BK255.out 0;have hfz31_1:=fZ6_ BK255.out 1;have hfz31_2:=fZ6_ BK255.out 2;have hfz31_3:=fZ6_ BK255.out 3;have hcz32_0:w29.cell? ⟨gb256,0,none⟩=some (.int .i64 a1_0):=(blk_cell BK256.out 0).trans rfl;have hcz32_1:w29.cell? ⟨gb256,1,none⟩=some (.int .i64 a1_1):=(blk_cell BK256.out 1).trans rfl;have hcz32_2:w29.cell? ⟨gb256,2,none⟩=some (.bool a1_2):=(blk_cell BK256.out 2).trans rfl;have hcz32_3:w29.cell? ⟨gb256,3,none⟩=some (.slice A1_3 l1_3.length c1_3):=(blk_cell BK256.out 3).trans rfl;have hfz32_0:=fZ6_ BK256.out 0;have hfz32_1:=fZ6_ BK256.out 1;have hfz32_2:=fZ6_ BK256.out 2;have hfz32_3:=fZ6_ BK256.out 3))
  go_ret
  exact ⟨by first|rfl|(simp [errW_none,errW_some] <;> rfl)|(simp [*,errW_none,errW_some] <;> rfl),by repeat (first|(with_reducible first|exact HB.out|apply bA6_|apply bN6_|apply bD6_|refine bS6_ ?_ GE255.out|refine bS6_ ?_ GE256.out)|exact HB.out)⟩

def laws_eqBlockS.l0:Nat→List (S92)→List (S92)→Int→Option (Bool)
 | 0, _, _, _ => none
 | k+1,x0,x1,x5=>if x5 < (x0.length:Int) then (if 0≤x5 then (if x5 < (x1.length:Int) then ((laws_eqBlock.f k ((rd_T92 x0 x5).f0) ((rd_T92 x0 x5).f1) ((rd_T92 x0 x5).f2) ((rd_T92 x0 x5).f3) ((rd_T92 x1 x5).f0) ((rd_T92 x1 x5).f1) ((rd_T92 x1 x5).f2) ((rd_T92 x1 x5).f3)).bind fun t260=>(if t260=true then (laws_eqBlockS.l0 k x0 x1 (wrap64 (x5+1))) else (some false))) else (none)) else (none)) else (some true)
def laws_eqBlockS.f (k:Nat) (l0:List (S92)) (l1:List (S92)):Option (Bool):=if (l0.length:Int)=(l1.length:Int) then (laws_eqBlockS.l0 k l0 l1 0) else (some false)
def laws_eqBlockS.T6:Bool × List (List Nat × List Nat):=(true,[([],[]),([],[]),([0,1],[0,1]),([2],[2]),([],[]),([],[]),([4,5],[4,5]),([6],[6]),([3,7],[3,7]),([8],[8])])
def laws_eqBlockS.B6:List Nat:=[0,0,3,7,0,0,48,112,255,511]
theorem laws_eqBlockS.tab6:rtab .any (opsOf Try.f61 6)=laws_eqBlockS.T6:=by kernel_rfl
theorem laws_eqBlockS.bits6:waitsOk laws_eqBlockS.T6.2 laws_eqBlockS.B6=true:=by kernel_rfl
set_option maxHeartbeats 8000000 in
set_option maxRecDepth 100000 in
theorem laws_eqBlockS.calls (k:Nat) (A0:Option Addr) (c0:Nat) (l0:List (S92)) (A1:Option Addr) (c1:Nat) (l1:List (S92)) (r:Bool) (w:World) (hr0:Kd.C k92 w A0 l0.length l0) (hc0:l0.length≤c0) (hr1:Kd.C k92 w A1 l1.length l1) (hc1:l1.length≤c1) (h:laws_eqBlockS.f k l0 l1=some r) :
  Calls Try.prog 61 #[.slice A0 l0.length c0,.slice A1 l1.length c1] w fun e w'=>e=.returned (.bool r)∧Below w.heap.size w w':=by
 have hu92 := Try.underlying92
 have HR0 := Aside0.mk hr0
 have HC0 := Aside0.mk hc0
 clear hr0 hc0
 have HR1 := Aside0.mk hr1
 have HC1 := Aside0.mk hc1
 clear hr1 hc1
 have HB := Aside0.mk (Below.refl w.heap.size w)
 have H:(if (l0.length:Int)=(l1.length:Int) then (laws_eqBlockS.l0 k l0 l1 0) else (some false))=some r:=h
 clear h
 by_cases c3 : (l0.length : Int) = (l1.length : Int)
 ·rw [if_pos c3] at H
  have c3b0:((l0.length:Int) == (l1.length:Int))=true:=beq_iff_eq.mpr c3
  have c3b1:((l0.length:Int) != (l1.length:Int))=false:=bne_eq_false_iff_eq.mpr c3
  have c3b2:(l0.length == l1.length)=true:=by first|simpa using c3|(simp at c3 ⊢;omega)
  clear c3
  have H' := Aside0.mk H
  clear H
  go_enter Try.func61, Try.ntmps61
  go_wp2
  go_loopg [5] k (fun kq v5 w'=>∃ (x5_1:Int),v5=.int .i64 x5_1∧Aside0 (laws_eqBlockS.l0 kq l0 l1 x5_1=some r)∧Aside0 (kq≤k)∧Aside0 (Below w.heap.size w w'))
  case atStart=>exact ⟨(0),(by first|rfl|(simp;done)|(simp [*];done)),H',⟨Nat.le_refl _⟩,⟨by repeat (first|(with_reducible first|exact HB.out|apply bA6_|apply bN6_|apply bD6_)|exact HB.out)⟩⟩
  case round =>
   clear H'
   try clear c1
   try clear p2
   try clear c3
   try clear c3b0
   try clear c3b1
   try clear c3b2
   obtain ⟨x5_1, rfl, HA, HK1, HB⟩ := hrel
   cases gk with
   | zero => exact absurd HA.out (by simp [laws_eqBlockS.l0])
   | succ k1 =>
    have H := HA.out
    clear HA
    simp only [laws_eqBlockS.l0] at H
    by_cases c4 : x5_1 < (l0.length : Int)
    ·rw [if_pos c4] at H
     have c4b0:decide (x5_1 < (l0.length:Int))=true:=decide_eq_true c4
     clear c4
     by_cases c5 : 0 ≤ x5_1
     ·rw [if_pos c5] at H
      have c5b0 : decide (0 ≤ x5_1) = true := decide_eq_true c5
      clear c5
      by_cases c6 : x5_1 < (l1.length : Int)
      ·rw [if_pos c6] at H
       have c6b0:decide (x5_1 < (l1.length:Int))=true:=decide_eq_true c6
       clear c6
       replace H := Option.bind_eq_some_iff.mp H
       obtain ⟨t260, A70, H⟩ := H
       replace H:(if t260=true then (laws_eqBlockS.l0 k1 l0 l1 (wrap64 (x5_1+1))) else (some false))=some r:=H
       have A7 := Aside0.mk A70
       clear A70
       by_cases c8 : t260 = true
       ·subst c8
        have H1:(laws_eqBlockS.l0 k1 l0 l1 (wrap64 (x5_1+1)))=some r:=by rw [if_pos rfl] at H;exact H
        clear H
        have H := H1
        clear H1
        have H' := Aside0.mk H
        clear H
        try go_wp2
        have n0_ := Aside0.mk (below_drew1 HB.out)
        clear HB
        have HB := n0_
        clear n0_
        have p258:0≤(x5_1:Int):=of_decide_eq_true (by first|(with_reducible assumption)|assumption)
        have q258:x5_1 < (l0.length:Int):=of_decide_eq_true (by first|(with_reducible assumption)|assumption)
        obtain ⟨ad258,A258_3,c258_3,e258,hx258_0,hx258_1,hx258_2,hx258_3,hl258_3,hi258_3⟩:=at_T92 HR0.out x5_1 p258 q258
        have hw258_3 := hx258_3
        have hw258_2 := hx258_2
        have hw258_1 := hx258_1
        have hw258_0 := hx258_0
        cases e258
        replace hx258_0:=(HB.out.cell (World.block_lt_of_cell? w _ hx258_0)).trans hx258_0
        replace hx258_1:=(HB.out.cell (World.block_lt_of_cell? w _ hx258_1)).trans hx258_1
        replace hx258_2:=(HB.out.cell (World.block_lt_of_cell? w _ hx258_2)).trans hx258_2
        replace hx258_3:=(HB.out.cell (World.block_lt_of_cell? w _ hx258_3)).trans hx258_3
        have HR258_3 := Aside0.mk hi258_3
        have HC258_3 := Aside0.mk hl258_3
        clear hi258_3 hl258_3
        replace p258 := eq_true p258
        replace q258 := eq_true q258
        have p259:0≤(x5_1:Int):=of_decide_eq_true (by first|(with_reducible assumption)|assumption)
        have q259:x5_1 < (l1.length:Int):=of_decide_eq_true (by first|(with_reducible assumption)|assumption)
        obtain ⟨ad259,A259_3,c259_3,e259,hx259_0,hx259_1,hx259_2,hx259_3,hl259_3,hi259_3⟩:=at_T92 HR1.out x5_1 p259 q259
        have hw259_3 := hx259_3
        have hw259_2 := hx259_2
        have hw259_1 := hx259_1
        have hw259_0 := hx259_0
        cases e259
        replace hx259_0:=(HB.out.cell (World.block_lt_of_cell? w _ hx259_0)).trans hx259_0
        replace hx259_1:=(HB.out.cell (World.block_lt_of_cell? w _ hx259_1)).trans hx259_1
        replace hx259_2:=(HB.out.cell (World.block_lt_of_cell? w _ hx259_2)).trans hx259_2
        replace hx259_3:=(HB.out.cell (World.block_lt_of_cell? w _ hx259_3)).trans hx259_3
        have HR259_3 := Aside0.mk hi259_3
        have HC259_3 := Aside0.mk hl259_3
        clear hi259_3 hl259_3
        replace p259 := eq_true p259
        replace q259 := eq_true q259
        refine start_ (n:=10) (S:=fun w'=>w'.cell? (ad258.add ((x5_1).toNat * 4))=some (.int .i64 ((rd_T92 l0 x5_1).f0))∧w'.cell? ⟨(ad258.add ((x5_1).toNat * 4)).block,(ad258.add ((x5_1).toNat * 4)).off+1,none⟩=some (.int .i64 ((rd_T92 l0 x5_1).f1))∧w'.cell? ⟨(ad258.add ((x5_1).toNat * 4)).block,(ad258.add ((x5_1).toNat * 4)).off+2,none⟩=some (.bool ((rd_T92 l0 x5_1).f2))∧w'.cell? ⟨(ad258.add ((x5_1).toNat * 4)).block,(ad258.add ((x5_1).toNat * 4)).off+3,none⟩=some (.slice A258_3 ((rd_T92 l0 x5_1).f3).length c258_3)∧w'.cell? (ad259.add ((x5_1).toNat * 4))=some (.int .i64 ((rd_T92 l1 x5_1).f0))∧w'.cell? ⟨(ad259.add ((x5_1).toNat * 4)).block,(ad259.add ((x5_1).toNat * 4)).off+1,none⟩=some (.int .i64 ((rd_T92 l1 x5_1).f1))∧w'.cell? ⟨(ad259.add ((x5_1).toNat * 4)).block,(ad259.add ((x5_1).toNat * 4)).off+2,none⟩=some (.bool ((rd_T92 l1 x5_1).f2))∧w'.cell? ⟨(ad259.add ((x5_1).toNat * 4)).block,(ad259.add ((x5_1).toNat * 4)).off+3,none⟩=some (.slice A259_3 ((rd_T92 l1 x5_1).f3).length c259_3)) (ds:=[]) #[false,false,false,false,false,false,false,false,false,false] (by kernel_rfl) rfl rfl ⟨((HB.out.cell (World.block_lt_of_cell? w _ hw258_0)).trans hw258_0),((HB.out.cell (World.block_lt_of_cell? w _ hw258_1)).trans hw258_1),((HB.out.cell (World.block_lt_of_cell? w _ hw258_2)).trans hw258_2),((HB.out.cell (World.block_lt_of_cell? w _ hw258_3)).trans hw258_3),((HB.out.cell (World.block_lt_of_cell? w _ hw259_0)).trans hw259_0),((HB.out.cell (World.block_lt_of_cell? w _ hw259_1)).trans hw259_1),((HB.out.cell (World.block_lt_of_cell? w _ hw259_2)).trans hw259_2),((HB.out.cell (World.block_lt_of_cell? w _ hw259_3)).trans hw259_3)⟩ (fun hHeld=>?_);refine with_tabW laws_eqBlockS.tab6 laws_eqBlockS.bits6 (fun HT_ HW_=>?_)
        generalize wr.drew=w9 at HB HR258_3 HR259_3 hx258_0 hx258_1 hx258_2 hx258_3 hx259_0 hx259_1 hx259_2 hx259_3 hHeld ⊢
        refine pure_ (i:=0) (N:=some 17) (v:=?_) (a':=?_) #[true,false,false,false,false,false,false,false,false,false] rfl rfl (any_of HT_.out (by kernel_rfl)) (fun _ _ _ h=>h) (Or.inl ⟨by rfl,?_⟩) ?_ ?_
        rotate_left
        ·intro w'
         go_simp
         with_reducible rfl
        rotate_left
        ·simp only [Act.put,lS6_,lZ6_,lC6_,i64_w,i32_w]
         rfl
        refine pure_ (i:=1) (N:=some 18) (v:=?_) (a':=?_) #[true,true,false,false,false,false,false,false,false,false] rfl rfl (any_of HT_.out (by kernel_rfl)) (fun _ _ _ h=>h) (Or.inl ⟨by rfl,?_⟩) ?_ ?_
        rotate_left
        ·intro w'
         go_simp
         with_reducible rfl
        rotate_left
        ·simp only [Act.put,lS6_,lZ6_,lC6_,i64_w,i32_w]
         rfl
        refine pure_ (i:=2) (N:=some 19) (v:=?_) (a':=?_) #[true,true,true,false,false,false,false,false,false,false] rfl rfl (any_of HT_.out (by kernel_rfl)) (fun _ _ _ h=>h) (Or.inl ⟨by rfl,?_⟩) ?_ ?_
        rotate_left
        ·intro w'
         go_simp
         with_reducible rfl
        rotate_left
        ·simp only [Act.put,lS6_,lZ6_,lC6_,i64_w,i32_w]
         rfl
        refine pure_ (i:=4) (N:=some 21) (v:=?_) (a':=?_) #[true,true,true,false,true,false,false,false,false,false] rfl rfl (any_of HT_.out (by kernel_rfl)) (fun _ _ _ h=>h) (Or.inl ⟨by rfl,?_⟩) ?_ ?_
        rotate_left
        ·intro w'
         go_simp
         with_reducible rfl
        rotate_left
        ·simp only [Act.put,lS6_,lZ6_,lC6_,i64_w,i32_w]
         rfl
        refine pure_ (i:=5) (N:=some 22) (v:=?_) (a':=?_) #[true,true,true,false,true,true,false,false,false,false] rfl rfl (any_of HT_.out (by kernel_rfl)) (fun _ _ _ h=>h) (Or.inl ⟨by rfl,?_⟩) ?_ ?_
        rotate_left
        ·intro w'
         go_simp
         with_reducible rfl
        rotate_left
        ·simp only [Act.put,lS6_,lZ6_,lC6_,i64_w,i32_w]
         rfl
        refine pure_ (i:=6) (N:=some 23) (v:=?_) (a':=?_) #[true,true,true,false,true,true,true,false,false,false] rfl rfl (any_of HT_.out (by kernel_rfl)) (fun _ _ _ h=>h) (Or.inl ⟨by rfl,?_⟩) ?_ ?_
        rotate_left
        ·intro w'
         go_simp
         with_reducible rfl
        rotate_left
        ·simp only [Act.put,lS6_,lZ6_,lC6_,i64_w,i32_w]
         rfl
        refine take_ (i:=3) (N:=some 20) (v:=?_) (a':=?_) #[true,true,true,true,true,true,true,false,false,false] rfl rfl (take_ofW HT_.out HW_.out (by kernel_rfl)) (fun _ _ _ h=>h) (Or.inl ⟨by rfl,?_⟩) hHeld ?_ ?_
        rotate_left
        ·rintro w' ⟨s0, s1, s2, s3, s4, s5, s6, s7⟩
         go_simp
         with_reducible rfl
        rotate_left
        ·simp only [Act.put,lS6_,lZ6_,lC6_,i64_w,i32_w]
         rfl
        refine take_ (i:=7) (N:=some 24) (v:=?_) (a':=?_) #[true,true,true,true,true,true,true,true,false,false] rfl rfl (take_ofW HT_.out HW_.out (by kernel_rfl)) (fun _ _ _ h=>h) (Or.inl ⟨by rfl,?_⟩) hHeld ?_ ?_
        rotate_left
        ·rintro w' ⟨s0, s1, s2, s3, s4, s5, s6, s7⟩
         go_simp
         with_reducible rfl
        rotate_left
        ·simp only [Act.put,lS6_,lZ6_,lC6_,i64_w,i32_w]
         rfl
        refine one_ (i:=8) (N:=some 25) #[true,true,true,true,true,true,true,true,true,false] rfl rfl (one_of HT_.out (by kernel_rfl)) (by decide) (fun K hK=>?_)
        refine goes_ Try.func75 (by kernel_rfl) rfl #[.agg #[.int .i64 ((rd_T92 l0 x5_1).f0),.int .i64 ((rd_T92 l0 x5_1).f1),.bool ((rd_T92 l0 x5_1).f2),.slice A258_3 ((rd_T92 l0 x5_1).f3).length c258_3],.agg #[.int .i64 ((rd_T92 l1 x5_1).f0),.int .i64 ((rd_T92 l1 x5_1).f1),.bool ((rd_T92 l1 x5_1).f2),.slice A259_3 ((rd_T92 l1 x5_1).f3).length c259_3]] (by rfl) rfl rfl (by (try simp only [mA6_,mC6_,mN6_]);first|done|rfl|(simp only [List.length_drop,List.length_take];rfl)) ?_
        with_reducible refine (laws_eqBlock.calls k1 ((rd_T92 l0 x5_1).f0) ((rd_T92 l0 x5_1).f1) ((rd_T92 l0 x5_1).f2) _ _ ((rd_T92 l0 x5_1).f3) ((rd_T92 l1 x5_1).f0) ((rd_T92 l1 x5_1).f1) ((rd_T92 l1 x5_1).f2) _ _ ((rd_T92 l1 x5_1).f3) true _ ?side1 ?side2 ?side3 ?side4 A7.out).mono ?_
        (case side1=>repeat (first|exact (Kd.C_below HR258_3.out HB.out)|(with_reducible refine Kd.C_alloc ?_ _)|(with_reducible refine Kd.C_drewN ?_ _)|(with_reducible refine Kd.C_drew ?_)))
        (case side2 => exact HC258_3.out)
        (case side3=>repeat (first|exact (Kd.C_below HR259_3.out HB.out)|(with_reducible refine Kd.C_alloc ?_ _)|(with_reducible refine Kd.C_drewN ?_ _)|(with_reducible refine Kd.C_drew ?_)))
        (case side4 => exact HC259_3.out)
        rintro e w10 ⟨rfl, hb⟩
        refine ⟨_, rfl, ?_⟩
        have n0_:=mk6_ (bT6_ (by repeat (first|(with_reducible first|exact HB.out|apply bA6_|apply bN6_|apply bD6_)|exact HB.out)) hb)
        clear HB
        have HB := n0_
        clear n0_
        (try clear hb)
        (try clear hb2)
        (try clear hk)
        (try clear hi)
        refine hK.out _ _ ⟨((HB.out.cell (World.block_lt_of_cell? w _ hw258_0)).trans hw258_0),((HB.out.cell (World.block_lt_of_cell? w _ hw258_1)).trans hw258_1),((HB.out.cell (World.block_lt_of_cell? w _ hw258_2)).trans hw258_2),((HB.out.cell (World.block_lt_of_cell? w _ hw258_3)).trans hw258_3),((HB.out.cell (World.block_lt_of_cell? w _ hw259_0)).trans hw259_0),((HB.out.cell (World.block_lt_of_cell? w _ hw259_1)).trans hw259_1),((HB.out.cell (World.block_lt_of_cell? w _ hw259_2)).trans hw259_2),((HB.out.cell (World.block_lt_of_cell? w _ hw259_3)).trans hw259_3)⟩ (fun hHeld=>?_)
        clear hK K
        refine norm_ (a' := ?_) ?_ ?_
        rotate_left
        ·show Act.put _ (some 25) _ = _
         simp only [Act.put,lS6_,lZ6_,lC6_,i64_w,i32_w]
         rfl
        refine pure_ (i:=9) (N:=some 26) (v:=?_) (a':=?_) #[true,true,true,true,true,true,true,true,true,true] rfl rfl (any_of HT_.out (by kernel_rfl)) (fun _ _ _ h=>h) (Or.inl ⟨by rfl,?_⟩) ?_ ?_
        rotate_left
        ·intro w'
         go_simp
         with_reducible rfl
        rotate_left
        ·simp only [Act.put,lS6_,lZ6_,lC6_,i64_w,i32_w]
         rfl
        refine done_ (done_of HT_.out (by kernel_rfl)) ?_
        try go_wp2
        go_roundg k1
        case measure => have := HK1.out; omega
        case rel=>exact ⟨(wrap64 (x5_1+1)),(by first|rfl|(simp;done)|(simp [*];done)),H',⟨by have:=HK1.out;omega⟩,⟨by repeat (first|(with_reducible first|exact HB.out|apply bA6_|apply bN6_|apply bD6_)|exact HB.out)⟩⟩
       ·replace c8 := Bool.eq_false_iff.mpr c8
        subst c8
        have H1:(some false)=some r:=by rw [if_neg (show ¬ (false=true) by decide)] at H;exact H
        clear H
        have H := H1
        clear H1
        obtain rfl := Option.some.inj H
        try go_wp2
        have n0_ := Aside0.mk (below_drew1 HB.out)
        clear HB
        have HB := n0_
        clear n0_
        have p258:0≤(x5_1:Int):=of_decide_eq_true (by first|(with_reducible assumption)|assumption)
        have q258:x5_1 < (l0.length:Int):=of_decide_eq_true (by first|(with_reducible assumption)|assumption)
        obtain ⟨ad258,A258_3,c258_3,e258,hx258_0,hx258_1,hx258_2,hx258_3,hl258_3,hi258_3⟩:=at_T92 HR0.out x5_1 p258 q258
        have hw258_3 := hx258_3
        have hw258_2 := hx258_2
        have hw258_1 := hx258_1
        have hw258_0 := hx258_0
        cases e258
        replace hx258_0:=(HB.out.cell (World.block_lt_of_cell? w _ hx258_0)).trans hx258_0
        replace hx258_1:=(HB.out.cell (World.block_lt_of_cell? w _ hx258_1)).trans hx258_1
        replace hx258_2:=(HB.out.cell (World.block_lt_of_cell? w _ hx258_2)).trans hx258_2
        replace hx258_3:=(HB.out.cell (World.block_lt_of_cell? w _ hx258_3)).trans hx258_3
        have HR258_3 := Aside0.mk hi258_3
        have HC258_3 := Aside0.mk hl258_3
        clear hi258_3 hl258_3
        replace p258 := eq_true p258
        replace q258 := eq_true q258
        have p259:0≤(x5_1:Int):=of_decide_eq_true (by first|(with_reducible assumption)|assumption)
        have q259:x5_1 < (l1.length:Int):=of_decide_eq_true (by first|(with_reducible assumption)|assumption)
        obtain ⟨ad259,A259_3,c259_3,e259,hx259_0,hx259_1,hx259_2,hx259_3,hl259_3,hi259_3⟩:=at_T92 HR1.out x5_1 p259 q259
        have hw259_3 := hx259_3
        have hw259_2 := hx259_2
        have hw259_1 := hx259_1
        have hw259_0 := hx259_0
        cases e259
        replace hx259_0:=(HB.out.cell (World.block_lt_of_cell? w _ hx259_0)).trans hx259_0
        replace hx259_1:=(HB.out.cell (World.block_lt_of_cell? w _ hx259_1)).trans hx259_1
        replace hx259_2:=(HB.out.cell (World.block_lt_of_cell? w _ hx259_2)).trans hx259_2
        replace hx259_3:=(HB.out.cell (World.block_lt_of_cell? w _ hx259_3)).trans hx259_3
        have HR259_3 := Aside0.mk hi259_3
        have HC259_3 := Aside0.mk hl259_3
        clear hi259_3 hl259_3
        replace p259 := eq_true p259
        replace q259 := eq_true q259
        refine start_ (n:=10) (S:=fun w'=>w'.cell? (ad258.add ((x5_1).toNat * 4))=some (.int .i64 ((rd_T92 l0 x5_1).f0))∧w'.cell? ⟨(ad258.add ((x5_1).toNat * 4)).block,(ad258.add ((x5_1).toNat * 4)).off+1,none⟩=some (.int .i64 ((rd_T92 l0 x5_1).f1))∧w'.cell? ⟨(ad258.add ((x5_1).toNat * 4)).block,(ad258.add ((x5_1).toNat * 4)).off+2,none⟩=some (.bool ((rd_T92 l0 x5_1).f2))∧w'.cell? ⟨(ad258.add ((x5_1).toNat * 4)).block,(ad258.add ((x5_1).toNat * 4)).off+3,none⟩=some (.slice A258_3 ((rd_T92 l0 x5_1).f3).length c258_3)∧w'.cell? (ad259.add ((x5_1).toNat * 4))=some (.int .i64 ((rd_T92 l1 x5_1).f0))∧w'.cell? ⟨(ad259.add ((x5_1).toNat * 4)).block,(ad259.add ((x5_1).toNat * 4)).off+1,none⟩=some (.int .i64 ((rd_T92 l1 x5_1).f1))∧w'.cell? ⟨(ad259.add ((x5_1).toNat * 4)).block,(ad259.add ((x5_1).toNat * 4)).off+2,none⟩=some (.bool ((rd_T92 l1 x5_1).f2))∧w'.cell? ⟨(ad259.add ((x5_1).toNat * 4)).block,(ad259.add ((x5_1).toNat * 4)).off+3,none⟩=some (.slice A259_3 ((rd_T92 l1 x5_1).f3).length c259_3)) (ds:=[]) #[false,false,false,false,false,false,false,false,false,false] (by kernel_rfl) rfl rfl ⟨((HB.out.cell (World.block_lt_of_cell? w _ hw258_0)).trans hw258_0),((HB.out.cell (World.block_lt_of_cell? w _ hw258_1)).trans hw258_1),((HB.out.cell (World.block_lt_of_cell? w _ hw258_2)).trans hw258_2),((HB.out.cell (World.block_lt_of_cell? w _ hw258_3)).trans hw258_3),((HB.out.cell (World.block_lt_of_cell? w _ hw259_0)).trans hw259_0),((HB.out.cell (World.block_lt_of_cell? w _ hw259_1)).trans hw259_1),((HB.out.cell (World.block_lt_of_cell? w _ hw259_2)).trans hw259_2),((HB.out.cell (World.block_lt_of_cell? w _ hw259_3)).trans hw259_3)⟩ (fun hHeld=>?_);refine with_tabW laws_eqBlockS.tab6 laws_eqBlockS.bits6 (fun HT_ HW_=>?_)
        generalize wr.drew=w11 at HB HR258_3 HR259_3 hx258_0 hx258_1 hx258_2 hx258_3 hx259_0 hx259_1 hx259_2 hx259_3 hHeld ⊢
        refine pure_ (i:=0) (N:=some 17) (v:=?_) (a':=?_) #[true,false,false,false,false,false,false,false,false,false] rfl rfl (any_of HT_.out (by kernel_rfl)) (fun _ _ _ h=>h) (Or.inl ⟨by rfl,?_⟩) ?_ ?_
        rotate_left
        ·intro w'
         go_simp
         with_reducible rfl
        rotate_left
        ·simp only [Act.put,lS6_,lZ6_,lC6_,i64_w,i32_w]
         rfl
        refine pure_ (i:=1) (N:=some 18) (v:=?_) (a':=?_) #[true,true,false,false,false,false,false,false,false,false] rfl rfl (any_of HT_.out (by kernel_rfl)) (fun _ _ _ h=>h) (Or.inl ⟨by rfl,?_⟩) ?_ ?_
        rotate_left
        ·intro w'
         go_simp
         with_reducible rfl
        rotate_left
        ·simp only [Act.put,lS6_,lZ6_,lC6_,i64_w,i32_w]
         rfl
        refine pure_ (i:=2) (N:=some 19) (v:=?_) (a':=?_) #[true,true,true,false,false,false,false,false,false,false] rfl rfl (any_of HT_.out (by kernel_rfl)) (fun _ _ _ h=>h) (Or.inl ⟨by rfl,?_⟩) ?_ ?_
        rotate_left
        ·intro w'
         go_simp
         with_reducible rfl
        rotate_left
        ·simp only [Act.put,lS6_,lZ6_,lC6_,i64_w,i32_w]
         rfl
        refine pure_ (i:=4) (N:=some 21) (v:=?_) (a':=?_) #[true,true,true,false,true,false,false,false,false,false] rfl rfl (any_of HT_.out (by kernel_rfl)) (fun _ _ _ h=>h) (Or.inl ⟨by rfl,?_⟩) ?_ ?_
        rotate_left
        ·intro w'
         go_simp
         with_reducible rfl
        rotate_left
        ·simp only [Act.put,lS6_,lZ6_,lC6_,i64_w,i32_w]
         rfl
        refine pure_ (i:=5) (N:=some 22) (v:=?_) (a':=?_) #[true,true,true,false,true,true,false,false,false,false] rfl rfl (any_of HT_.out (by kernel_rfl)) (fun _ _ _ h=>h) (Or.inl ⟨by rfl,?_⟩) ?_ ?_
        rotate_left
        ·intro w'
         go_simp
         with_reducible rfl
        rotate_left
        ·simp only [Act.put,lS6_,lZ6_,lC6_,i64_w,i32_w]
         rfl
        refine pure_ (i:=6) (N:=some 23) (v:=?_) (a':=?_) #[true,true,true,false,true,true,true,false,false,false] rfl rfl (any_of HT_.out (by kernel_rfl)) (fun _ _ _ h=>h) (Or.inl ⟨by rfl,?_⟩) ?_ ?_
        rotate_left
        ·intro w'
         go_simp
         with_reducible rfl
        rotate_left
        ·simp only [Act.put,lS6_,lZ6_,lC6_,i64_w,i32_w]
         rfl
        refine take_ (i:=3) (N:=some 20) (v:=?_) (a':=?_) #[true,true,true,true,true,true,true,false,false,false] rfl rfl (take_ofW HT_.out HW_.out (by kernel_rfl)) (fun _ _ _ h=>h) (Or.inl ⟨by rfl,?_⟩) hHeld ?_ ?_
        rotate_left
        ·rintro w' ⟨s0, s1, s2, s3, s4, s5, s6, s7⟩
         go_simp
         with_reducible rfl
        rotate_left
        ·simp only [Act.put,lS6_,lZ6_,lC6_,i64_w,i32_w]
         rfl
        refine take_ (i:=7) (N:=some 24) (v:=?_) (a':=?_) #[true,true,true,true,true,true,true,true,false,false] rfl rfl (take_ofW HT_.out HW_.out (by kernel_rfl)) (fun _ _ _ h=>h) (Or.inl ⟨by rfl,?_⟩) hHeld ?_ ?_
        rotate_left
        ·rintro w' ⟨s0, s1, s2, s3, s4, s5, s6, s7⟩
         go_simp
         with_reducible rfl
        rotate_left
        ·simp only [Act.put,lS6_,lZ6_,lC6_,i64_w,i32_w]
         rfl
        refine one_ (i:=8) (N:=some 25) #[true,true,true,true,true,true,true,true,true,false] rfl rfl (one_of HT_.out (by kernel_rfl)) (by decide) (fun K hK=>?_)
        refine goes_ Try.func75 (by kernel_rfl) rfl #[.agg #[.int .i64 ((rd_T92 l0 x5_1).f0),.int .i64 ((rd_T92 l0 x5_1).f1),.bool ((rd_T92 l0 x5_1).f2),.slice A258_3 ((rd_T92 l0 x5_1).f3).length c258_3],.agg #[.int .i64 ((rd_T92 l1 x5_1).f0),.int .i64 ((rd_T92 l1 x5_1).f1),.bool ((rd_T92 l1 x5_1).f2),.slice A259_3 ((rd_T92 l1 x5_1).f3).length c259_3]] (by rfl) rfl rfl (by (try simp only [mA6_,mC6_,mN6_]);first|done|rfl|(simp only [List.length_drop,List.length_take];rfl)) ?_
        with_reducible refine (laws_eqBlock.calls k1 ((rd_T92 l0 x5_1).f0) ((rd_T92 l0 x5_1).f1) ((rd_T92 l0 x5_1).f2) _ _ ((rd_T92 l0 x5_1).f3) ((rd_T92 l1 x5_1).f0) ((rd_T92 l1 x5_1).f1) ((rd_T92 l1 x5_1).f2) _ _ ((rd_T92 l1 x5_1).f3) false _ ?side1 ?side2 ?side3 ?side4 A7.out).mono ?_
        (case side1=>repeat (first|exact (Kd.C_below HR258_3.out HB.out)|(with_reducible refine Kd.C_alloc ?_ _)|(with_reducible refine Kd.C_drewN ?_ _)|(with_reducible refine Kd.C_drew ?_)))
        (case side2 => exact HC258_3.out)
        (case side3=>repeat (first|exact (Kd.C_below HR259_3.out HB.out)|(with_reducible refine Kd.C_alloc ?_ _)|(with_reducible refine Kd.C_drewN ?_ _)|(with_reducible refine Kd.C_drew ?_)))
        (case side4 => exact HC259_3.out)
        rintro e w12 ⟨rfl, hb⟩
        refine ⟨_, rfl, ?_⟩
        have n0_:=mk6_ (bT6_ (by repeat (first|(with_reducible first|exact HB.out|apply bA6_|apply bN6_|apply bD6_)|exact HB.out)) hb)
        clear HB
        have HB := n0_
        clear n0_
        (try clear hb)
        (try clear hb2)
        (try clear hk)
        (try clear hi)
        refine hK.out _ _ ⟨((HB.out.cell (World.block_lt_of_cell? w _ hw258_0)).trans hw258_0),((HB.out.cell (World.block_lt_of_cell? w _ hw258_1)).trans hw258_1),((HB.out.cell (World.block_lt_of_cell? w _ hw258_2)).trans hw258_2),((HB.out.cell (World.block_lt_of_cell? w _ hw258_3)).trans hw258_3),((HB.out.cell (World.block_lt_of_cell? w _ hw259_0)).trans hw259_0),((HB.out.cell (World.block_lt_of_cell? w _ hw259_1)).trans hw259_1),((HB.out.cell (World.block_lt_of_cell? w _ hw259_2)).trans hw259_2),((HB.out.cell (World.block_lt_of_cell? w _ hw259_3)).trans hw259_3)⟩ (fun hHeld=>?_)
        clear hK K
        refine norm_ (a' := ?_) ?_ ?_
        rotate_left
        ·show Act.put _ (some 25) _ = _
         simp only [Act.put,lS6_,lZ6_,lC6_,i64_w,i32_w]
         rfl
        refine pure_ (i:=9) (N:=some 26) (v:=?_) (a':=?_) #[true,true,true,true,true,true,true,true,true,true] rfl rfl (any_of HT_.out (by kernel_rfl)) (fun _ _ _ h=>h) (Or.inl ⟨by rfl,?_⟩) ?_ ?_
        rotate_left
        ·intro w'
         go_simp
         with_reducible rfl
        rotate_left
        ·simp only [Act.put,lS6_,lZ6_,lC6_,i64_w,i32_w]
         rfl
        refine done_ (done_of HT_.out (by kernel_rfl)) ?_
        try go_wp2
        go_ret
        exact ⟨by first|rfl|(simp [errW_none,errW_some] <;> rfl)|(simp [*,errW_none,errW_some] <;> rfl),by repeat (first|(with_reducible first|exact HB.out|apply bA6_|apply bN6_|apply bD6_)|exact HB.out)⟩
      ·rw [if_neg c6] at H
       exact absurd H (by simp)
     ·rw [if_neg c5] at H
      exact absurd H (by simp)
    ·rw [if_neg c4] at H
     have c4b0:decide (x5_1 < (l0.length:Int))=false:=decide_eq_false c4
     clear c4
     obtain rfl := Option.some.inj H
     go_wp2
     go_ret
     exact ⟨by first|rfl|(simp [errW_none,errW_some] <;> rfl)|(simp [*,errW_none,errW_some] <;> rfl),by repeat (first|(with_reducible first|exact HB.out|apply bA6_|apply bN6_|apply bD6_)|exact HB.out)⟩
 ·rw [if_neg c3] at H
  have c3b0:((l0.length:Int) == (l1.length:Int))=false:=beq_eq_false_iff_ne.mpr c3
  have c3b1:((l0.length:Int) != (l1.length:Int))=true:=bne_iff_ne.mpr c3
  have c3b2:(l0.length == l1.length)=false:=by first|simpa using c3|(simp at c3 ⊢;omega)
  obtain rfl := Option.some.inj H
  go_enter Try.func61, Try.ntmps61
  go_wp2
  go_ret
  exact ⟨by first|rfl|(simp [errW_none,errW_some] <;> rfl)|(simp [*,errW_none,errW_some] <;> rfl),by repeat (first|(with_reducible first|exact HB.out|apply bA6_|apply bN6_|apply bD6_)|exact HB.out)⟩

end Go.Proofs.Ytajocpalpnpmdaa.Q
