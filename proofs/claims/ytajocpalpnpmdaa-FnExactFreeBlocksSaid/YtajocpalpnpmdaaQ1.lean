/- The program's functions as Lean functions,and for each the proof that the machine's call comes to what its function says. Conditions: those that stand before each theorem. -/
import Derived.Test.YtajocpalpnpmdaaQ0
import Derived.Test.YtajocpalpnpmdaaOpaque
namespace Go.Proofs.Ytajocpalpnpmdaa.Q
open Go.RowKit Go.Proofs.YtajocpalpnpmdaaW.PrintWords Go.Proofs.YtajocpalpnpmdaaW.PrintLast Go.Proofs.YtajocpalpnpmdaaW.PrintMore
abbrev bA1_ := @below_alloc
abbrev bN1_ := @pw_below_drewN
abbrev bD1_ := @below_drew1
abbrev bS1_ := @below_set
abbrev mk1_ := @Aside0.mk
abbrev fZ1_ := @blk_frozen
abbrev bT1_ := @below_step
abbrev bZ1_ := @below_size
abbrev lS1_ := @List.setIfInBounds_toArray
abbrev lZ1_ := @List.set_cons_zero
abbrev lC1_ := @List.set_cons_succ
abbrev mA1_ := @List.map_toArray
abbrev mC1_ := @List.map_cons
abbrev mN1_ := @List.map_nil
set_option linter.unusedVariables false
set_option linter.unusedSimpArgs false

def laws_szStringS.l0:Nat→List ByteArray→Int→Int→Option (Int)
 | 0, _, _, _ => none
 | k+1,x0,x1,x5=>if x5 < (x0.length:Int) then (if 0≤x5 then (if (wrap64 (x1 - ((rdOf ByteArray.empty x0 x5).size:Int))) < 0 then (some (-1)) else (laws_szStringS.l0 k x0 (wrap64 (x1 - ((rdOf ByteArray.empty x0 x5).size:Int))) (wrap64 (x5+1)))) else (none)) else (some x1)
def laws_szStringS.f (k:Nat) (l0:List ByteArray) (a1:Int):Option (Int):=if (wrap64 (a1 - (l0.length:Int))) < 0 then (some (-1)) else (laws_szStringS.l0 k l0 (wrap64 (a1 - (l0.length:Int))) 0)
set_option maxHeartbeats 8000000 in
set_option maxRecDepth 100000 in
theorem laws_szStringS.calls (k:Nat) (A0:Option Addr) (c0:Nat) (l0:List ByteArray) (a1:Int) (r:Int) (w:World) (hr0:Kd.C Kd.string w A0 l0.length l0) (hc0:l0.length≤c0) (h:laws_szStringS.f k l0 a1=some r) :
  Calls Try.prog 78 #[.slice A0 l0.length c0,.int .i64 a1] w fun e w'=>e=.returned (.int .i64 r)∧Drawn0 w w':=by
 have HR0 := Aside0.mk hr0
 have HC0 := Aside0.mk hc0
 clear hr0 hc0
 have H:(if (wrap64 (a1 - (l0.length:Int))) < 0 then (some (-1)) else (laws_szStringS.l0 k l0 (wrap64 (a1 - (l0.length:Int))) 0))=some r:=h
 clear h
 by_cases c3 : (wrap64 (a1 - (l0.length : Int))) < 0
 ·rw [if_pos c3] at H
  have c3b0:decide ((wrap64 (a1 - (l0.length:Int))) < 0)=true:=decide_eq_true c3
  clear c3
  obtain rfl := Option.some.inj H
  go_enter Try.func78, Try.ntmps78
  go_wp2
  go_ret
  exact ⟨by first|rfl|(simp;done)|(simp [*];done),by repeat (first|exact Drawn0.refl _|apply Drawn0.step)⟩
 ·rw [if_neg c3] at H
  have c3b0:decide ((wrap64 (a1 - (l0.length:Int))) < 0)=false:=decide_eq_false c3
  clear c3
  have H' := Aside0.mk H
  clear H
  go_enter Try.func78, Try.ntmps78
  go_wp2
  go_loopg [1,5] k (fun kq v1 v5 w'=>∃ (x1_1:Int) (x5_1:Int),v1=.int .i64 x1_1∧v5=.int .i64 x5_1∧Aside0 (laws_szStringS.l0 kq l0 x1_1 x5_1=some r)∧Aside0 (kq≤k)∧Drawn0 w w')
  case atStart=>exact ⟨(wrap64 (a1 - (l0.length:Int))),(0),(by first|rfl|(simp;done)|(simp [*];done)),(by first|rfl|(simp;done)|(simp [*];done)),H',⟨Nat.le_refl _⟩,by repeat (first|exact Drawn0.refl _|apply Drawn0.step)⟩
  case round =>
   clear H'
   try clear p2
   try clear c3
   try clear c3b0
   obtain ⟨x1_1, x5_1, rfl, rfl, HA, HK1, ⟨m1, rfl⟩⟩ := hrel
   cases gk with
   | zero => exact absurd HA.out (by simp [laws_szStringS.l0])
   | succ k1 =>
    have H := HA.out
    clear HA
    simp only [laws_szStringS.l0] at H
    by_cases c4 : x5_1 < (l0.length : Int)
    ·rw [if_pos c4] at H
     have c4b0:decide (x5_1 < (l0.length:Int))=true:=decide_eq_true c4
     clear c4
     by_cases c5 : 0 ≤ x5_1
     ·rw [if_pos c5] at H
      have c5b0 : decide (0 ≤ x5_1) = true := decide_eq_true c5
      clear c5
      by_cases c6:(wrap64 (x1_1 - ((rdOf ByteArray.empty l0 x5_1).size:Int))) < 0
      ·rw [if_pos c6] at H
       have c6b0:decide ((wrap64 (x1_1 - ((rdOf ByteArray.empty l0 x5_1).size:Int))) < 0)=true:=decide_eq_true c6
       clear c6
       obtain rfl := Option.some.inj H
       have p101:0≤(x5_1:Int):=of_decide_eq_true (by first|(with_reducible assumption)|assumption)
       have q101:x5_1 < (l0.length:Int):=of_decide_eq_true (by first|(with_reducible assumption)|assumption)
       obtain ⟨ad101,e101,hx101_0⟩:=Kd.at_string HR0.out x5_1 p101 q101
       cases e101
       replace p101 := eq_true p101
       replace q101 := eq_true q101
       go_wp2
       go_ret
       exact ⟨by first|rfl|(simp;done)|(simp [*];done),by repeat (first|exact Drawn0.refl _|apply Drawn0.step)⟩
      ·rw [if_neg c6] at H
       have c6b0:decide ((wrap64 (x1_1 - ((rdOf ByteArray.empty l0 x5_1).size:Int))) < 0)=false:=decide_eq_false c6
       clear c6
       have H' := Aside0.mk H
       clear H
       have p101:0≤(x5_1:Int):=of_decide_eq_true (by first|(with_reducible assumption)|assumption)
       have q101:x5_1 < (l0.length:Int):=of_decide_eq_true (by first|(with_reducible assumption)|assumption)
       obtain ⟨ad101,e101,hx101_0⟩:=Kd.at_string HR0.out x5_1 p101 q101
       cases e101
       replace p101 := eq_true p101
       replace q101 := eq_true q101
       go_wp2
       go_roundg k1
       case measure => have := HK1.out; omega
       case rel=>exact ⟨(wrap64 (x1_1 - ((rdOf ByteArray.empty l0 x5_1).size:Int))),(wrap64 (x5_1+1)),(by first|rfl|(simp;done)|(simp [*];done)),(by first|rfl|(simp;done)|(simp [*];done)),H',⟨by have:=HK1.out;omega⟩,by repeat (first|exact Drawn0.refl _|apply Drawn0.step)⟩
     ·rw [if_neg c5] at H
      exact absurd H (by simp)
    ·rw [if_neg c4] at H
     have c4b0:decide (x5_1 < (l0.length:Int))=false:=decide_eq_false c4
     clear c4
     obtain rfl := Option.some.inj H
     go_wp2
     go_ret
     exact ⟨by first|rfl|(simp;done)|(simp [*];done),by repeat (first|exact Drawn0.refl _|apply Drawn0.step)⟩

def laws_szBlock.f (k:Nat) (a0_0:Int) (a0_1:Int) (a0_2:Bool) (l0_3:List ByteArray) (a1:Int):Option (Int):=(laws_szStringS.f k l0_3 a1).bind fun t103=>(if t103 < 0 then (some (-1)) else (some t103))
set_option maxHeartbeats 8000000 in
set_option maxRecDepth 100000 in
theorem laws_szBlock.calls (k:Nat) (a0_0:Int) (a0_1:Int) (a0_2:Bool) (A0_3:Option Addr) (c0_3:Nat) (l0_3:List ByteArray) (a1:Int) (r:Int) (w:World) (hr0_3:Kd.C Kd.string w A0_3 l0_3.length l0_3) (hc0_3:l0_3.length≤c0_3) (h:laws_szBlock.f k a0_0 a0_1 a0_2 l0_3 a1=some r) :
  Calls Try.prog 67 #[.agg #[.int .i64 a0_0,.int .i64 a0_1,.bool a0_2,.slice A0_3 l0_3.length c0_3],.int .i64 a1] w fun e w'=>e=.returned (.int .i64 r)∧Below w.heap.size w w':=by
 have hu103 := Try.underlying103
 have HR0_3 := Aside0.mk hr0_3
 have HC0_3 := Aside0.mk hc0_3
 clear hr0_3 hc0_3
 have HB := Aside0.mk (Below.refl w.heap.size w)
 have H:((laws_szStringS.f k l0_3 a1).bind fun t103=>(if t103 < 0 then (some (-1)) else (some t103)))=some r:=h
 clear h
 replace H := Option.bind_eq_some_iff.mp H
 obtain ⟨t103, A30, H⟩ := H
 replace H:(if t103 < 0 then (some (-1)) else (some t103))=some r:=H
 have A3 := Aside0.mk A30
 clear A30
 by_cases c4 : t103 < 0
 ·rw [if_pos c4] at H
  have c4b0 : decide (t103 < 0) = true := decide_eq_true c4
  clear c4
  obtain rfl := Option.some.inj H
  go_enter Try.func67, Try.ntmps67
  go_wp2_with (first|((with_reducible refine gate_dst (N:=2) rfl ?_);refine box_event ?hg (N:=2) ?hd (cs:=#[.int .i64 a0_0,.int .i64 a0_1,.bool a0_2,.slice A0_3 l0_3.length c0_3]) (t:=103) ?hr ?_;(case hd=>rfl);(case hg=>rfl);(case hr=>first|(go_simp;done)|(go_simp;rfl));intro gb102 hg w5 hbox hb;have n0_:=mk1_ (bT1_ (by repeat (first|(with_reducible first|exact HB.out|apply bA1_|apply bN1_|apply bD1_)|exact HB.out)) hb);have n1_:=mk1_ (hbox);have n2_:=mk1_ ((by rw [hg];exact (bZ1_ (by repeat (first|(with_reducible first|exact HB.out|apply bA1_|apply bN1_|apply bD1_)|exact HB.out))):w.heap.size≤gb102));have n3_:=mk1_ ((by rw [hg];exact (bZ1_ (by repeat (first|(with_reducible first|exact HB.out|apply bA1_|apply bN1_|apply bD1_)|exact HB.out))):w.heap.size≤gb102));clear HB;have HB:=n0_;have BK102:=n1_;have GW102:=n2_;have GE102:=n3_;clear n0_ n1_ n2_ n3_;clear hb hbox hg;have hcz6_0:w5.cell? ⟨gb102,0,none⟩=some (.int .i64 a0_0):=(blk_cell BK102.out 0).trans rfl;have hcz6_1:w5.cell? ⟨gb102,1,none⟩=some (.int .i64 a0_1):=(blk_cell BK102.out 1).trans rfl;have hcz6_2:w5.cell? ⟨gb102,2,none⟩=some (.bool a0_2):=(blk_cell BK102.out 2).trans rfl;have hcz6_3:w5.cell? ⟨gb102,3,none⟩=some (.slice A0_3 l0_3.length c0_3):=(blk_cell BK102.out 3).trans rfl;have hfz6_0:=fZ1_ BK102.out 0;have hfz6_1:=fZ1_ BK102.out 1;have hfz6_2:=fZ1_ BK102.out 2;have hfz6_3:=fZ1_ BK102.out 3)|((with_reducible refine gate_callee (f:=78) rfl ?_);refine goesL_ (some 8) rfl rfl Try.func78 (by kernel_rfl) rfl #[.slice A0_3 l0_3.length c0_3,.int .i64 a1] rfl (by (try simp only [mA1_,mC1_,mN1_]);first|done|rfl|(simp only [List.length_drop,List.length_take];rfl)) ?_;(with_reducible refine (laws_szStringS.calls k _ _ l0_3 a1 t103 _ ?side1 ?side2 A3.out).mono ?_);(case side1=>repeat (first|exact (Kd.C_below HR0_3.out HB.out)|(with_reducible refine Kd.C_alloc ?_ _)|(with_reducible refine Kd.C_drewN ?_ _)|(with_reducible refine Kd.C_drew ?_)));(case side2=>exact HC0_3.out);rintro e w' ⟨rfl,⟨nd,rfl⟩⟩;refine ⟨_,rfl,?_⟩))
  go_ret
  exact ⟨by first|rfl|(simp [errW_none,errW_some] <;> rfl)|(simp [*,errW_none,errW_some] <;> rfl),by repeat (first|(with_reducible first|exact HB.out|apply bA1_|apply bN1_|apply bD1_|refine bS1_ ?_ GE102.out)|exact HB.out)⟩
 ·rw [if_neg c4] at H
  have c4b0 : decide (t103 < 0) = false := decide_eq_false c4
  clear c4
  obtain rfl := Option.some.inj H
  go_enter Try.func67, Try.ntmps67
  go_wp2_with (first|((with_reducible refine gate_dst (N:=2) rfl ?_);refine box_event ?hg (N:=2) ?hd (cs:=#[.int .i64 a0_0,.int .i64 a0_1,.bool a0_2,.slice A0_3 l0_3.length c0_3]) (t:=103) ?hr ?_;(case hd=>rfl);(case hg=>rfl);(case hr=>first|(go_simp;done)|(go_simp;rfl));intro gb102 hg w7 hbox hb;have n0_:=mk1_ (bT1_ (by repeat (first|(with_reducible first|exact HB.out|apply bA1_|apply bN1_|apply bD1_)|exact HB.out)) hb);have n1_:=mk1_ (hbox);have n2_:=mk1_ ((by rw [hg];exact (bZ1_ (by repeat (first|(with_reducible first|exact HB.out|apply bA1_|apply bN1_|apply bD1_)|exact HB.out))):w.heap.size≤gb102));have n3_:=mk1_ ((by rw [hg];exact (bZ1_ (by repeat (first|(with_reducible first|exact HB.out|apply bA1_|apply bN1_|apply bD1_)|exact HB.out))):w.heap.size≤gb102));clear HB;have HB:=n0_;have BK102:=n1_;have GW102:=n2_;have GE102:=n3_;clear n0_ n1_ n2_ n3_;clear hb hbox hg;have hcz8_0:w7.cell? ⟨gb102,0,none⟩=some (.int .i64 a0_0):=(blk_cell BK102.out 0).trans rfl;have hcz8_1:w7.cell? ⟨gb102,1,none⟩=some (.int .i64 a0_1):=(blk_cell BK102.out 1).trans rfl;have hcz8_2:w7.cell? ⟨gb102,2,none⟩=some (.bool a0_2):=(blk_cell BK102.out 2).trans rfl;have hcz8_3:w7.cell? ⟨gb102,3,none⟩=some (.slice A0_3 l0_3.length c0_3):=(blk_cell BK102.out 3).trans rfl;have hfz8_0:=fZ1_ BK102.out 0;have hfz8_1:=fZ1_ BK102.out 1;have hfz8_2:=fZ1_ BK102.out 2;have hfz8_3:=fZ1_ BK102.out 3)|((with_reducible refine gate_callee (f:=78) rfl ?_);refine goesL_ (some 8) rfl rfl Try.func78 (by kernel_rfl) rfl #[.slice A0_3 l0_3.length c0_3,.int .i64 a1] rfl (by (try simp only [mA1_,mC1_,mN1_]);first|done|rfl|(simp only [List.length_drop,List.length_take];rfl)) ?_;(with_reducible refine (laws_szStringS.calls k _ _ l0_3 a1 t103 _ ?side1 ?side2 A3.out).mono ?_);(case side1=>repeat (first|exact (Kd.C_below HR0_3.out HB.out)|(with_reducible refine Kd.C_alloc ?_ _)|(with_reducible refine Kd.C_drewN ?_ _)|(with_reducible refine Kd.C_drew ?_)));(case side2=>exact HC0_3.out);rintro e w' ⟨rfl,⟨nd,rfl⟩⟩;refine ⟨_,rfl,?_⟩))
  go_ret
  exact ⟨by first|rfl|(simp [errW_none,errW_some] <;> rfl)|(simp [*,errW_none,errW_some] <;> rfl),by repeat (first|(with_reducible first|exact HB.out|apply bA1_|apply bN1_|apply bD1_|refine bS1_ ?_ GE102.out)|exact HB.out)⟩

def laws_szBlockS.l0 : Nat → List (S103) → Int → Int → Option (Int)
 | 0, _, _, _ => none
 | k+1,x0,x1,x5=>if x5 < (x0.length:Int) then (if 0≤x5 then ((laws_szBlock.f k ((rd_T103 x0 x5).f0) ((rd_T103 x0 x5).f1) ((rd_T103 x0 x5).f2) ((rd_T103 x0 x5).f3) x1).bind fun t105=>(if t105 < 0 then (some (-1)) else (laws_szBlockS.l0 k x0 t105 (wrap64 (x5+1))))) else (none)) else (some x1)
def laws_szBlockS.f (k:Nat) (l0:List (S103)) (a1:Int):Option (Int):=if (wrap64 (a1 - (l0.length:Int))) < 0 then (some (-1)) else (laws_szBlockS.l0 k l0 (wrap64 (a1 - (l0.length:Int))) 0)
set_option maxHeartbeats 8000000 in
set_option maxRecDepth 100000 in
theorem laws_szBlockS.calls (k:Nat) (A0:Option Addr) (c0:Nat) (l0:List (S103)) (a1:Int) (r:Int) (w:World) (hr0:Kd.C k103 w A0 l0.length l0) (hc0:l0.length≤c0) (h:laws_szBlockS.f k l0 a1=some r) :
  Calls Try.prog 41 #[.slice A0 l0.length c0,.int .i64 a1] w fun e w'=>e=.returned (.int .i64 r)∧Below w.heap.size w w':=by
 have hu103 := Try.underlying103
 have HR0 := Aside0.mk hr0
 have HC0 := Aside0.mk hc0
 clear hr0 hc0
 have HB := Aside0.mk (Below.refl w.heap.size w)
 have H:(if (wrap64 (a1 - (l0.length:Int))) < 0 then (some (-1)) else (laws_szBlockS.l0 k l0 (wrap64 (a1 - (l0.length:Int))) 0))=some r:=h
 clear h
 by_cases c3 : (wrap64 (a1 - (l0.length : Int))) < 0
 ·rw [if_pos c3] at H
  have c3b0:decide ((wrap64 (a1 - (l0.length:Int))) < 0)=true:=decide_eq_true c3
  clear c3
  obtain rfl := Option.some.inj H
  go_enter Try.func41, Try.ntmps41
  go_wp2
  go_ret
  exact ⟨by first|rfl|(simp [errW_none,errW_some] <;> rfl)|(simp [*,errW_none,errW_some] <;> rfl),by repeat (first|(with_reducible first|exact HB.out|apply bA1_|apply bN1_|apply bD1_)|exact HB.out)⟩
 ·rw [if_neg c3] at H
  have c3b0:decide ((wrap64 (a1 - (l0.length:Int))) < 0)=false:=decide_eq_false c3
  clear c3
  have H' := Aside0.mk H
  clear H
  go_enter Try.func41, Try.ntmps41
  go_wp2
  go_loopg [1,5] k (fun kq v1 v5 w'=>∃ (x1_1:Int) (x5_1:Int),v1=.int .i64 x1_1∧v5=.int .i64 x5_1∧Aside0 (laws_szBlockS.l0 kq l0 x1_1 x5_1=some r)∧Aside0 (kq≤k)∧Aside0 (Below w.heap.size w w'))
  case atStart=>exact ⟨(wrap64 (a1 - (l0.length:Int))),(0),(by first|rfl|(simp;done)|(simp [*];done)),(by first|rfl|(simp;done)|(simp [*];done)),H',⟨Nat.le_refl _⟩,⟨by repeat (first|(with_reducible first|exact HB.out|apply bA1_|apply bN1_|apply bD1_)|exact HB.out)⟩⟩
  case round =>
   clear H'
   try clear p2
   try clear c3
   try clear c3b0
   obtain ⟨x1_1, x5_1, rfl, rfl, HA, HK1, HB⟩ := hrel
   cases gk with
   | zero => exact absurd HA.out (by simp [laws_szBlockS.l0])
   | succ k1 =>
    have H := HA.out
    clear HA
    simp only [laws_szBlockS.l0] at H
    by_cases c4 : x5_1 < (l0.length : Int)
    ·rw [if_pos c4] at H
     have c4b0:decide (x5_1 < (l0.length:Int))=true:=decide_eq_true c4
     clear c4
     by_cases c5 : 0 ≤ x5_1
     ·rw [if_pos c5] at H
      have c5b0 : decide (0 ≤ x5_1) = true := decide_eq_true c5
      clear c5
      replace H := Option.bind_eq_some_iff.mp H
      obtain ⟨t105, A60, H⟩ := H
      replace H:(if t105 < 0 then (some (-1)) else (laws_szBlockS.l0 k1 l0 t105 (wrap64 (x5_1+1))))=some r:=H
      have A6 := Aside0.mk A60
      clear A60
      by_cases c7 : t105 < 0
      ·rw [if_pos c7] at H
       have c7b0:decide (t105 < 0)=true:=decide_eq_true c7
       clear c7
       obtain rfl := Option.some.inj H
       have p104:0≤(x5_1:Int):=of_decide_eq_true (by first|(with_reducible assumption)|assumption)
       have q104:x5_1 < (l0.length:Int):=of_decide_eq_true (by first|(with_reducible assumption)|assumption)
       obtain ⟨ad104,A104_3,c104_3,e104,hx104_0,hx104_1,hx104_2,hx104_3,hl104_3,hi104_3⟩:=at_T103 HR0.out x5_1 p104 q104
       cases e104
       replace hx104_0:=(HB.out.cell (World.block_lt_of_cell? w _ hx104_0)).trans hx104_0
       replace hx104_1:=(HB.out.cell (World.block_lt_of_cell? w _ hx104_1)).trans hx104_1
       replace hx104_2:=(HB.out.cell (World.block_lt_of_cell? w _ hx104_2)).trans hx104_2
       replace hx104_3:=(HB.out.cell (World.block_lt_of_cell? w _ hx104_3)).trans hx104_3
       have HR104_3 := Aside0.mk hi104_3
       have HC104_3 := Aside0.mk hl104_3
       clear hi104_3 hl104_3
       replace p104 := eq_true p104
       replace q104 := eq_true q104
       go_wp2_with (first|((with_reducible refine gate_callee (f:=67) rfl ?_);refine goesL_ (some 23) rfl rfl Try.func67 (by kernel_rfl) rfl #[.agg #[.int .i64 ((rd_T103 l0 x5_1).f0),.int .i64 ((rd_T103 l0 x5_1).f1),.bool ((rd_T103 l0 x5_1).f2),.slice A104_3 ((rd_T103 l0 x5_1).f3).length c104_3],.int .i64 x1_1] rfl (by (try simp only [mA1_,mC1_,mN1_]);first|done|rfl|(simp only [List.length_drop,List.length_take];rfl)) ?_;(with_reducible refine (laws_szBlock.calls k1 ((rd_T103 l0 x5_1).f0) ((rd_T103 l0 x5_1).f1) ((rd_T103 l0 x5_1).f2) _ _ ((rd_T103 l0 x5_1).f3) x1_1 t105 _ ?side1 ?side2 A6.out).mono ?_);(case side1=>repeat (first|exact (Kd.C_below HR104_3.out HB.out)|(with_reducible refine Kd.C_alloc ?_ _)|(with_reducible refine Kd.C_drewN ?_ _)|(with_reducible refine Kd.C_drew ?_)));(case side2=>exact HC104_3.out);rintro e w8 ⟨rfl,hb⟩;refine ⟨_,rfl,?_⟩;have n0_:=mk1_ (bT1_ (by repeat (first|(with_reducible first|exact HB.out|apply bA1_|apply bN1_|apply bD1_)|exact HB.out)) hb);clear HB;have HB:=n0_;clear n0_;(try clear hb);(try clear hb2);(try clear hk);(try clear hi)))
       go_ret
       exact ⟨by first|rfl|(simp [errW_none,errW_some] <;> rfl)|(simp [*,errW_none,errW_some] <;> rfl),by repeat (first|(with_reducible first|exact HB.out|apply bA1_|apply bN1_|apply bD1_)|exact HB.out)⟩
      ·rw [if_neg c7] at H
       have c7b0:decide (t105 < 0)=false:=decide_eq_false c7
       clear c7
       have H' := Aside0.mk H
       clear H
       have p104:0≤(x5_1:Int):=of_decide_eq_true (by first|(with_reducible assumption)|assumption)
       have q104:x5_1 < (l0.length:Int):=of_decide_eq_true (by first|(with_reducible assumption)|assumption)
       obtain ⟨ad104,A104_3,c104_3,e104,hx104_0,hx104_1,hx104_2,hx104_3,hl104_3,hi104_3⟩:=at_T103 HR0.out x5_1 p104 q104
       cases e104
       replace hx104_0:=(HB.out.cell (World.block_lt_of_cell? w _ hx104_0)).trans hx104_0
       replace hx104_1:=(HB.out.cell (World.block_lt_of_cell? w _ hx104_1)).trans hx104_1
       replace hx104_2:=(HB.out.cell (World.block_lt_of_cell? w _ hx104_2)).trans hx104_2
       replace hx104_3:=(HB.out.cell (World.block_lt_of_cell? w _ hx104_3)).trans hx104_3
       have HR104_3 := Aside0.mk hi104_3
       have HC104_3 := Aside0.mk hl104_3
       clear hi104_3 hl104_3
       replace p104 := eq_true p104
       replace q104 := eq_true q104
       go_wp2_with (first|((with_reducible refine gate_callee (f:=67) rfl ?_);refine goesL_ (some 23) rfl rfl Try.func67 (by kernel_rfl) rfl #[.agg #[.int .i64 ((rd_T103 l0 x5_1).f0),.int .i64 ((rd_T103 l0 x5_1).f1),.bool ((rd_T103 l0 x5_1).f2),.slice A104_3 ((rd_T103 l0 x5_1).f3).length c104_3],.int .i64 x1_1] rfl (by (try simp only [mA1_,mC1_,mN1_]);first|done|rfl|(simp only [List.length_drop,List.length_take];rfl)) ?_;(with_reducible refine (laws_szBlock.calls k1 ((rd_T103 l0 x5_1).f0) ((rd_T103 l0 x5_1).f1) ((rd_T103 l0 x5_1).f2) _ _ ((rd_T103 l0 x5_1).f3) x1_1 t105 _ ?side1 ?side2 A6.out).mono ?_);(case side1=>repeat (first|exact (Kd.C_below HR104_3.out HB.out)|(with_reducible refine Kd.C_alloc ?_ _)|(with_reducible refine Kd.C_drewN ?_ _)|(with_reducible refine Kd.C_drew ?_)));(case side2=>exact HC104_3.out);rintro e w9 ⟨rfl,hb⟩;refine ⟨_,rfl,?_⟩;have n0_:=mk1_ (bT1_ (by repeat (first|(with_reducible first|exact HB.out|apply bA1_|apply bN1_|apply bD1_)|exact HB.out)) hb);clear HB;have HB:=n0_;clear n0_;(try clear hb);(try clear hb2);(try clear hk);(try clear hi)))
       go_roundg k1
       case measure => have := HK1.out; omega
       case rel=>exact ⟨(t105),(wrap64 (x5_1+1)),(by first|rfl|(simp;done)|(simp [*];done)),(by first|rfl|(simp;done)|(simp [*];done)),H',⟨by have:=HK1.out;omega⟩,⟨by repeat (first|(with_reducible first|exact HB.out|apply bA1_|apply bN1_|apply bD1_)|exact HB.out)⟩⟩
     ·rw [if_neg c5] at H
      exact absurd H (by simp)
    ·rw [if_neg c4] at H
     have c4b0:decide (x5_1 < (l0.length:Int))=false:=decide_eq_false c4
     clear c4
     obtain rfl := Option.some.inj H
     go_wp2
     go_ret
     exact ⟨by first|rfl|(simp [errW_none,errW_some] <;> rfl)|(simp [*,errW_none,errW_some] <;> rfl),by repeat (first|(with_reducible first|exact HB.out|apply bA1_|apply bN1_|apply bD1_)|exact HB.out)⟩

def laws_szFlash.f (k:Nat) (a0_0:Int) (a0_1:Int) (a0_2:Int) (l0_3:List (S103)) (a0_4:Int) (a0_5:Int) (a0_6:Bool) (a0_7:Int) (a1:Int):Option (Int):=(laws_szBlockS.f k l0_3 a1).bind fun t107=>(if t107 < 0 then (some (-1)) else (some t107))
set_option maxHeartbeats 8000000 in
set_option maxRecDepth 100000 in
theorem laws_szFlash.calls (k:Nat) (a0_0:Int) (a0_1:Int) (a0_2:Int) (A0_3:Option Addr) (c0_3:Nat) (l0_3:List (S103)) (a0_4:Int) (a0_5:Int) (a0_6:Bool) (a0_7:Int) (a1:Int) (r:Int) (w:World) (hr0_3:Kd.C k103 w A0_3 l0_3.length l0_3) (hc0_3:l0_3.length≤c0_3) (h:laws_szFlash.f k a0_0 a0_1 a0_2 l0_3 a0_4 a0_5 a0_6 a0_7 a1=some r) :
  Calls Try.prog 16 #[.agg #[.int .i64 a0_0,.int .i64 a0_1,.int .i64 a0_2,.slice A0_3 l0_3.length c0_3,.int .i64 a0_4,.int .i64 a0_5,.bool a0_6,.int .i64 a0_7],.int .i64 a1] w fun e w'=>e=.returned (.int .i64 r)∧Below w.heap.size w w':=by
 have hu26 := Try.underlying26
 have HR0_3 := Aside0.mk hr0_3
 have HC0_3 := Aside0.mk hc0_3
 clear hr0_3 hc0_3
 have HB := Aside0.mk (Below.refl w.heap.size w)
 have H:((laws_szBlockS.f k l0_3 a1).bind fun t107=>(if t107 < 0 then (some (-1)) else (some t107)))=some r:=h
 clear h
 replace H := Option.bind_eq_some_iff.mp H
 obtain ⟨t107, A30, H⟩ := H
 replace H:(if t107 < 0 then (some (-1)) else (some t107))=some r:=H
 have A3 := Aside0.mk A30
 clear A30
 by_cases c4 : t107 < 0
 ·rw [if_pos c4] at H
  have c4b0 : decide (t107 < 0) = true := decide_eq_true c4
  clear c4
  obtain rfl := Option.some.inj H
  go_enter Try.func16, Try.ntmps16
  go_wp2_with (first|((with_reducible refine gate_dst (N:=2) rfl ?_);refine box_event ?hg (N:=2) ?hd (cs:=#[.int .i64 a0_0,.int .i64 a0_1,.int .i64 a0_2,.slice A0_3 l0_3.length c0_3,.int .i64 a0_4,.int .i64 a0_5,.bool a0_6,.int .i64 a0_7]) (t:=26) ?hr ?_;(case hd=>rfl);(case hg=>rfl);(case hr=>first|(go_simp;done)|(go_simp;rfl));intro gb106 hg w5 hbox hb;have n0_:=mk1_ (bT1_ (by repeat (first|(with_reducible first|exact HB.out|apply bA1_|apply bN1_|apply bD1_)|exact HB.out)) hb);have n1_:=mk1_ (hbox);have n2_:=mk1_ ((by rw [hg];exact (bZ1_ (by repeat (first|(with_reducible first|exact HB.out|apply bA1_|apply bN1_|apply bD1_)|exact HB.out))):w.heap.size≤gb106));have n3_:=mk1_ ((by rw [hg];exact (bZ1_ (by repeat (first|(with_reducible first|exact HB.out|apply bA1_|apply bN1_|apply bD1_)|exact HB.out))):w.heap.size≤gb106));clear HB;have HB:=n0_;have BK106:=n1_;have GW106:=n2_;have GE106:=n3_;clear n0_ n1_ n2_ n3_;clear hb hbox hg;have hcz6_0:w5.cell? ⟨gb106,0,none⟩=some (.int .i64 a0_0):=(blk_cell BK106.out 0).trans rfl;have hcz6_1:w5.cell? ⟨gb106,1,none⟩=some (.int .i64 a0_1):=(blk_cell BK106.out 1).trans rfl;have hcz6_2:w5.cell? ⟨gb106,2,none⟩=some (.int .i64 a0_2):=(blk_cell BK106.out 2).trans rfl;have hcz6_3:w5.cell? ⟨gb106,3,none⟩=some (.slice A0_3 l0_3.length c0_3):=(blk_cell BK106.out 3).trans rfl;have hcz6_4:w5.cell? ⟨gb106,4,none⟩=some (.int .i64 a0_4):=(blk_cell BK106.out 4).trans rfl;have hcz6_5:w5.cell? ⟨gb106,5,none⟩=some (.int .i64 a0_5):=(blk_cell BK106.out 5).trans rfl;have hcz6_6:w5.cell? ⟨gb106,6,none⟩=some (.bool a0_6):=(blk_cell BK106.out 6).trans rfl;have hcz6_7:w5.cell? ⟨gb106,7,none⟩=some (.int .i64 a0_7):=(blk_cell BK106.out 7).trans rfl;have hfz6_0:=fZ1_ BK106.out 0;have hfz6_1:=fZ1_ BK106.out 1;have hfz6_2:=fZ1_ BK106.out 2;have hfz6_3:=fZ1_ BK106.out 3;have hfz6_4:=fZ1_ BK106.out 4;have hfz6_5:=fZ1_ BK106.out 5;have hfz6_6:=fZ1_ BK106.out 6;have hfz6_7:=fZ1_ BK106.out 7)|((with_reducible refine gate_callee (f:=41) rfl ?_);refine goesL_ (some 8) rfl rfl Try.func41 (by kernel_rfl) rfl #[.slice A0_3 l0_3.length c0_3,.int .i64 a1] rfl (by (try simp only [mA1_,mC1_,mN1_]);first|done|rfl|(simp only [List.length_drop,List.length_take];rfl)) ?_;(with_reducible refine (laws_szBlockS.calls k _ _ l0_3 a1 t107 _ ?side1 ?side2 A3.out).mono ?_);(case side1=>repeat (first|exact (Kd.C_below HR0_3.out HB.out)|(with_reducible refine Kd.C_alloc ?_ _)|(with_reducible refine Kd.C_drewN ?_ _)|(with_reducible refine Kd.C_drew ?_)));(case side2=>exact HC0_3.out);rintro e w7 ⟨rfl,hb⟩;refine ⟨_,rfl,?_⟩;have n0_:=mk1_ (blk_below (g:=gb106) (o:=.cells #[.int .i64 a0_0,.int .i64 a0_1,.int .i64 a0_2,.slice A0_3 l0_3.length c0_3,.int .i64 a0_4,.int .i64 a0_5,.bool a0_6,.int .i64 a0_7] 26 (0,0)) (by (with_reducible repeat (first|refine blk_drewN ?_ _|refine blk_drew ?_|refine blk_alloc ?_ _));exact BK106.out) hb);have n1_:=mk1_ (bT1_ (by repeat (first|(with_reducible first|exact HB.out|apply bA1_|apply bN1_|apply bD1_|refine bS1_ ?_ GE106.out)|exact HB.out)) hb);clear BK106;clear HB;have BK106:=n0_;have HB:=n1_;clear n0_ n1_;(try clear hb);(try clear hb2);(try clear hk);(try clear hi)))
  go_ret
  exact ⟨by first|rfl|(simp [errW_none,errW_some] <;> rfl)|(simp [*,errW_none,errW_some] <;> rfl),by repeat (first|(with_reducible first|exact HB.out|apply bA1_|apply bN1_|apply bD1_|refine bS1_ ?_ GE106.out)|exact HB.out)⟩
 ·rw [if_neg c4] at H
  have c4b0 : decide (t107 < 0) = false := decide_eq_false c4
  clear c4
  obtain rfl := Option.some.inj H
  go_enter Try.func16, Try.ntmps16
  go_wp2_with (first|((with_reducible refine gate_dst (N:=2) rfl ?_);refine box_event ?hg (N:=2) ?hd (cs:=#[.int .i64 a0_0,.int .i64 a0_1,.int .i64 a0_2,.slice A0_3 l0_3.length c0_3,.int .i64 a0_4,.int .i64 a0_5,.bool a0_6,.int .i64 a0_7]) (t:=26) ?hr ?_;(case hd=>rfl);(case hg=>rfl);(case hr=>first|(go_simp;done)|(go_simp;rfl));intro gb106 hg w8 hbox hb;have n0_:=mk1_ (bT1_ (by repeat (first|(with_reducible first|exact HB.out|apply bA1_|apply bN1_|apply bD1_)|exact HB.out)) hb);have n1_:=mk1_ (hbox);have n2_:=mk1_ ((by rw [hg];exact (bZ1_ (by repeat (first|(with_reducible first|exact HB.out|apply bA1_|apply bN1_|apply bD1_)|exact HB.out))):w.heap.size≤gb106));have n3_:=mk1_ ((by rw [hg];exact (bZ1_ (by repeat (first|(with_reducible first|exact HB.out|apply bA1_|apply bN1_|apply bD1_)|exact HB.out))):w.heap.size≤gb106));clear HB;have HB:=n0_;have BK106:=n1_;have GW106:=n2_;have GE106:=n3_;clear n0_ n1_ n2_ n3_;clear hb hbox hg;have hcz9_0:w8.cell? ⟨gb106,0,none⟩=some (.int .i64 a0_0):=(blk_cell BK106.out 0).trans rfl;have hcz9_1:w8.cell? ⟨gb106,1,none⟩=some (.int .i64 a0_1):=(blk_cell BK106.out 1).trans rfl;have hcz9_2:w8.cell? ⟨gb106,2,none⟩=some (.int .i64 a0_2):=(blk_cell BK106.out 2).trans rfl;have hcz9_3:w8.cell? ⟨gb106,3,none⟩=some (.slice A0_3 l0_3.length c0_3):=(blk_cell BK106.out 3).trans rfl;have hcz9_4:w8.cell? ⟨gb106,4,none⟩=some (.int .i64 a0_4):=(blk_cell BK106.out 4).trans rfl;have hcz9_5:w8.cell? ⟨gb106,5,none⟩=some (.int .i64 a0_5):=(blk_cell BK106.out 5).trans rfl;have hcz9_6:w8.cell? ⟨gb106,6,none⟩=some (.bool a0_6):=(blk_cell BK106.out 6).trans rfl;have hcz9_7:w8.cell? ⟨gb106,7,none⟩=some (.int .i64 a0_7):=(blk_cell BK106.out 7).trans rfl;have hfz9_0:=fZ1_ BK106.out 0;have hfz9_1:=fZ1_ BK106.out 1;have hfz9_2:=fZ1_ BK106.out 2;have hfz9_3:=fZ1_ BK106.out 3;have hfz9_4:=fZ1_ BK106.out 4;have hfz9_5:=fZ1_ BK106.out 5;have hfz9_6:=fZ1_ BK106.out 6;have hfz9_7:=fZ1_ BK106.out 7)|((with_reducible refine gate_callee (f:=41) rfl ?_);refine goesL_ (some 8) rfl rfl Try.func41 (by kernel_rfl) rfl #[.slice A0_3 l0_3.length c0_3,.int .i64 a1] rfl (by (try simp only [mA1_,mC1_,mN1_]);first|done|rfl|(simp only [List.length_drop,List.length_take];rfl)) ?_;(with_reducible refine (laws_szBlockS.calls k _ _ l0_3 a1 t107 _ ?side1 ?side2 A3.out).mono ?_);(case side1=>repeat (first|exact (Kd.C_below HR0_3.out HB.out)|(with_reducible refine Kd.C_alloc ?_ _)|(with_reducible refine Kd.C_drewN ?_ _)|(with_reducible refine Kd.C_drew ?_)));(case side2=>exact HC0_3.out);rintro e w10 ⟨rfl,hb⟩;refine ⟨_,rfl,?_⟩;have n0_:=mk1_ (blk_below (g:=gb106) (o:=.cells #[.int .i64 a0_0,.int .i64 a0_1,.int .i64 a0_2,.slice A0_3 l0_3.length c0_3,.int .i64 a0_4,.int .i64 a0_5,.bool a0_6,.int .i64 a0_7] 26 (0,0)) (by (with_reducible repeat (first|refine blk_drewN ?_ _|refine blk_drew ?_|refine blk_alloc ?_ _));exact BK106.out) hb);have n1_:=mk1_ (bT1_ (by repeat (first|(with_reducible first|exact HB.out|apply bA1_|apply bN1_|apply bD1_|refine bS1_ ?_ GE106.out)|exact HB.out)) hb);clear BK106;clear HB;have BK106:=n0_;have HB:=n1_;clear n0_ n1_;(try clear hb);(try clear hb2);(try clear hk);(try clear hi)))
  go_ret
  exact ⟨by first|rfl|(simp [errW_none,errW_some] <;> rfl)|(simp [*,errW_none,errW_some] <;> rfl),by repeat (first|(with_reducible first|exact HB.out|apply bA1_|apply bN1_|apply bD1_|refine bS1_ ?_ GE106.out)|exact HB.out)⟩

def laws_szInt64S.f (l0:List Int) (a1:Int):Option (Int):=if (wrap64 (a1 - (l0.length:Int))) < 0 then (some (-1)) else (some (wrap64 (a1 - (l0.length:Int))))
set_option maxHeartbeats 8000000 in
set_option maxRecDepth 100000 in
theorem laws_szInt64S.calls (A0:Option Addr) (c0:Nat) (l0:List Int) (a1:Int) (r:Int) (w:World) (hr0:Kd.C (Kd.int .i64) w A0 l0.length l0) (hc0:l0.length≤c0) (h:laws_szInt64S.f l0 a1=some r) :
  Calls Try.prog 19 #[.slice A0 l0.length c0,.int .i64 a1] w fun e w'=>e=.returned (.int .i64 r)∧Drawn0 w w':=by
 have HR0 := Aside0.mk hr0
 have HC0 := Aside0.mk hc0
 clear hr0 hc0
 have H:(if (wrap64 (a1 - (l0.length:Int))) < 0 then (some (-1)) else (some (wrap64 (a1 - (l0.length:Int)))))=some r:=h
 clear h
 by_cases c3 : (wrap64 (a1 - (l0.length : Int))) < 0
 ·rw [if_pos c3] at H
  have c3b0:decide ((wrap64 (a1 - (l0.length:Int))) < 0)=true:=decide_eq_true c3
  clear c3
  obtain rfl := Option.some.inj H
  go_enter Try.func19, Try.ntmps19
  go_wp2
  go_ret
  exact ⟨by first|rfl|(simp;done)|(simp [*];done),by repeat (first|exact Drawn0.refl _|apply Drawn0.step)⟩
 ·rw [if_neg c3] at H
  have c3b0:decide ((wrap64 (a1 - (l0.length:Int))) < 0)=false:=decide_eq_false c3
  clear c3
  obtain rfl := Option.some.inj H
  go_enter Try.func19, Try.ntmps19
  go_wp2
  go_ret
  exact ⟨by first|rfl|(simp;done)|(simp [*];done),by repeat (first|exact Drawn0.refl _|apply Drawn0.step)⟩

def laws_szBoolS.f (l0:List Bool) (a1:Int):Option (Int):=if (wrap64 (a1 - (l0.length:Int))) < 0 then (some (-1)) else (some (wrap64 (a1 - (l0.length:Int))))
set_option maxHeartbeats 8000000 in
set_option maxRecDepth 100000 in
theorem laws_szBoolS.calls (A0:Option Addr) (c0:Nat) (l0:List Bool) (a1:Int) (r:Int) (w:World) (hr0:Kd.C Kd.bool w A0 l0.length l0) (hc0:l0.length≤c0) (h:laws_szBoolS.f l0 a1=some r) :
  Calls Try.prog 42 #[.slice A0 l0.length c0,.int .i64 a1] w fun e w'=>e=.returned (.int .i64 r)∧Drawn0 w w':=by
 have HR0 := Aside0.mk hr0
 have HC0 := Aside0.mk hc0
 clear hr0 hc0
 have H:(if (wrap64 (a1 - (l0.length:Int))) < 0 then (some (-1)) else (some (wrap64 (a1 - (l0.length:Int)))))=some r:=h
 clear h
 by_cases c3 : (wrap64 (a1 - (l0.length : Int))) < 0
 ·rw [if_pos c3] at H
  have c3b0:decide ((wrap64 (a1 - (l0.length:Int))) < 0)=true:=decide_eq_true c3
  clear c3
  obtain rfl := Option.some.inj H
  go_enter Try.func42, Try.ntmps42
  go_wp2
  go_ret
  exact ⟨by first|rfl|(simp;done)|(simp [*];done),by repeat (first|exact Drawn0.refl _|apply Drawn0.step)⟩
 ·rw [if_neg c3] at H
  have c3b0:decide ((wrap64 (a1 - (l0.length:Int))) < 0)=false:=decide_eq_false c3
  clear c3
  obtain rfl := Option.some.inj H
  go_enter Try.func42, Try.ntmps42
  go_wp2
  go_ret
  exact ⟨by first|rfl|(simp;done)|(simp [*];done),by repeat (first|exact Drawn0.refl _|apply Drawn0.step)⟩

def laws_szPageMap.f (a0_0:Int) (a0_1:Int) (l0_2:List Int) (l0_3:List Bool) (a1:Int):Option (Int):=(laws_szInt64S.f l0_2 a1).bind fun t109=>(if t109 < 0 then (some (-1)) else ((laws_szBoolS.f l0_3 t109).bind fun t110=>(if t110 < 0 then (some (-1)) else (some t110))))
set_option maxHeartbeats 8000000 in
set_option maxRecDepth 100000 in
theorem laws_szPageMap.calls (a0_0:Int) (a0_1:Int) (A0_2:Option Addr) (c0_2:Nat) (l0_2:List Int) (A0_3:Option Addr) (c0_3:Nat) (l0_3:List Bool) (a1:Int) (r:Int) (w:World) (hr0_2:Kd.C (Kd.int .i64) w A0_2 l0_2.length l0_2) (hc0_2:l0_2.length≤c0_2) (hr0_3:Kd.C Kd.bool w A0_3 l0_3.length l0_3) (hc0_3:l0_3.length≤c0_3) (h:laws_szPageMap.f a0_0 a0_1 l0_2 l0_3 a1=some r) :
  Calls Try.prog 17 #[.agg #[.int .i64 a0_0,.int .i64 a0_1,.slice A0_2 l0_2.length c0_2,.slice A0_3 l0_3.length c0_3],.int .i64 a1] w fun e w'=>e=.returned (.int .i64 r)∧Below w.heap.size w w':=by
 have hu30 := Try.underlying30
 have HR0_2 := Aside0.mk hr0_2
 have HC0_2 := Aside0.mk hc0_2
 clear hr0_2 hc0_2
 have HR0_3 := Aside0.mk hr0_3
 have HC0_3 := Aside0.mk hc0_3
 clear hr0_3 hc0_3
 have HB := Aside0.mk (Below.refl w.heap.size w)
 have H:((laws_szInt64S.f l0_2 a1).bind fun t109=>(if t109 < 0 then (some (-1)) else ((laws_szBoolS.f l0_3 t109).bind fun t110=>(if t110 < 0 then (some (-1)) else (some t110)))))=some r:=h
 clear h
 replace H := Option.bind_eq_some_iff.mp H
 obtain ⟨t109, A30, H⟩ := H
 replace H:(if t109 < 0 then (some (-1)) else ((laws_szBoolS.f l0_3 t109).bind fun t110=>(if t110 < 0 then (some (-1)) else (some t110))))=some r:=H
 have A3 := Aside0.mk A30
 clear A30
 by_cases c4 : t109 < 0
 ·rw [if_pos c4] at H
  have c4b0 : decide (t109 < 0) = true := decide_eq_true c4
  clear c4
  obtain rfl := Option.some.inj H
  go_enter Try.func17, Try.ntmps17
  go_wp2_with (first|((with_reducible refine gate_dst (N:=2) rfl ?_);refine box_event ?hg (N:=2) ?hd (cs:=#[.int .i64 a0_0,.int .i64 a0_1,.slice A0_2 l0_2.length c0_2,.slice A0_3 l0_3.length c0_3]) (t:=30) ?hr ?_;(case hd=>rfl);(case hg=>rfl);(case hr=>first|(go_simp;done)|(go_simp;rfl));intro gb108 hg w5 hbox hb;have n0_:=mk1_ (bT1_ (by repeat (first|(with_reducible first|exact HB.out|apply bA1_|apply bN1_|apply bD1_)|exact HB.out)) hb);have n1_:=mk1_ (hbox);have n2_:=mk1_ ((by rw [hg];exact (bZ1_ (by repeat (first|(with_reducible first|exact HB.out|apply bA1_|apply bN1_|apply bD1_)|exact HB.out))):w.heap.size≤gb108));have n3_:=mk1_ ((by rw [hg];exact (bZ1_ (by repeat (first|(with_reducible first|exact HB.out|apply bA1_|apply bN1_|apply bD1_)|exact HB.out))):w.heap.size≤gb108));clear HB;have HB:=n0_;have BK108:=n1_;have GW108:=n2_;have GE108:=n3_;clear n0_ n1_ n2_ n3_;clear hb hbox hg;have hcz6_0:w5.cell? ⟨gb108,0,none⟩=some (.int .i64 a0_0):=(blk_cell BK108.out 0).trans rfl;have hcz6_1:w5.cell? ⟨gb108,1,none⟩=some (.int .i64 a0_1):=(blk_cell BK108.out 1).trans rfl;have hcz6_2:w5.cell? ⟨gb108,2,none⟩=some (.slice A0_2 l0_2.length c0_2):=(blk_cell BK108.out 2).trans rfl;have hcz6_3:w5.cell? ⟨gb108,3,none⟩=some (.slice A0_3 l0_3.length c0_3):=(blk_cell BK108.out 3).trans rfl;have hfz6_0:=fZ1_ BK108.out 0;have hfz6_1:=fZ1_ BK108.out 1;have hfz6_2:=fZ1_ BK108.out 2;have hfz6_3:=fZ1_ BK108.out 3)|((with_reducible refine gate_callee (f:=19) rfl ?_);refine goesL_ (some 8) rfl rfl Try.func19 (by kernel_rfl) rfl #[.slice A0_2 l0_2.length c0_2,.int .i64 a1] rfl (by (try simp only [mA1_,mC1_,mN1_]);first|done|rfl|(simp only [List.length_drop,List.length_take];rfl)) ?_;(with_reducible refine (laws_szInt64S.calls _ _ l0_2 a1 t109 _ ?side1 ?side2 A3.out).mono ?_);(case side1=>repeat (first|exact (Kd.C_below HR0_2.out HB.out)|(with_reducible refine Kd.C_alloc ?_ _)|(with_reducible refine Kd.C_drewN ?_ _)|(with_reducible refine Kd.C_drew ?_)));(case side2=>exact HC0_2.out);rintro e w' ⟨rfl,⟨nd,rfl⟩⟩;refine ⟨_,rfl,?_⟩))
  go_ret
  exact ⟨by first|rfl|(simp [errW_none,errW_some] <;> rfl)|(simp [*,errW_none,errW_some] <;> rfl),by repeat (first|(with_reducible first|exact HB.out|apply bA1_|apply bN1_|apply bD1_|refine bS1_ ?_ GE108.out)|exact HB.out)⟩
 ·rw [if_neg c4] at H
  have c4b0 : decide (t109 < 0) = false := decide_eq_false c4
  clear c4
  replace H := Option.bind_eq_some_iff.mp H
  obtain ⟨t110, A70, H⟩ := H
  replace H:(if t110 < 0 then (some (-1)) else (some t110))=some r:=H
  have A7 := Aside0.mk A70
  clear A70
  by_cases c8 : t110 < 0
  ·rw [if_pos c8] at H
   have c8b0 : decide (t110 < 0) = true := decide_eq_true c8
   clear c8
   obtain rfl := Option.some.inj H
   go_enter Try.func17, Try.ntmps17
   go_wp2_with (first|((with_reducible refine gate_dst (N:=2) rfl ?_);refine box_event ?hg (N:=2) ?hd (cs:=#[.int .i64 a0_0,.int .i64 a0_1,.slice A0_2 l0_2.length c0_2,.slice A0_3 l0_3.length c0_3]) (t:=30) ?hr ?_;(case hd=>rfl);(case hg=>rfl);(case hr=>first|(go_simp;done)|(go_simp;rfl));intro gb108 hg w9 hbox hb;have n0_:=mk1_ (bT1_ (by repeat (first|(with_reducible first|exact HB.out|apply bA1_|apply bN1_|apply bD1_)|exact HB.out)) hb);have n1_:=mk1_ (hbox);have n2_:=mk1_ ((by rw [hg];exact (bZ1_ (by repeat (first|(with_reducible first|exact HB.out|apply bA1_|apply bN1_|apply bD1_)|exact HB.out))):w.heap.size≤gb108));have n3_:=mk1_ ((by rw [hg];exact (bZ1_ (by repeat (first|(with_reducible first|exact HB.out|apply bA1_|apply bN1_|apply bD1_)|exact HB.out))):w.heap.size≤gb108));clear HB;have HB:=n0_;have BK108:=n1_;have GW108:=n2_;have GE108:=n3_;clear n0_ n1_ n2_ n3_;clear hb hbox hg;have hcz10_0:w9.cell? ⟨gb108,0,none⟩=some (.int .i64 a0_0):=(blk_cell BK108.out 0).trans rfl;have hcz10_1:w9.cell? ⟨gb108,1,none⟩=some (.int .i64 a0_1):=(blk_cell BK108.out 1).trans rfl;have hcz10_2:w9.cell? ⟨gb108,2,none⟩=some (.slice A0_2 l0_2.length c0_2):=(blk_cell BK108.out 2).trans rfl;have hcz10_3:w9.cell? ⟨gb108,3,none⟩=some (.slice A0_3 l0_3.length c0_3):=(blk_cell BK108.out 3).trans rfl;have hfz10_0:=fZ1_ BK108.out 0;have hfz10_1:=fZ1_ BK108.out 1;have hfz10_2:=fZ1_ BK108.out 2;have hfz10_3:=fZ1_ BK108.out 3)|((with_reducible refine gate_callee (f:=19) rfl ?_);refine goesL_ (some 8) rfl rfl Try.func19 (by kernel_rfl) rfl #[.slice A0_2 l0_2.length c0_2,.int .i64 a1] rfl (by (try simp only [mA1_,mC1_,mN1_]);first|done|rfl|(simp only [List.length_drop,List.length_take];rfl)) ?_;(with_reducible refine (laws_szInt64S.calls _ _ l0_2 a1 t109 _ ?side1 ?side2 A3.out).mono ?_);(case side1=>repeat (first|exact (Kd.C_below HR0_2.out HB.out)|(with_reducible refine Kd.C_alloc ?_ _)|(with_reducible refine Kd.C_drewN ?_ _)|(with_reducible refine Kd.C_drew ?_)));(case side2=>exact HC0_2.out);rintro e w' ⟨rfl,⟨nd,rfl⟩⟩;refine ⟨_,rfl,?_⟩)|((with_reducible refine gate_callee (f:=42) rfl ?_);refine goesL_ (some 14) rfl rfl Try.func42 (by kernel_rfl) rfl #[.slice A0_3 l0_3.length c0_3,.int .i64 t109] rfl (by (try simp only [mA1_,mC1_,mN1_]);first|done|rfl|(simp only [List.length_drop,List.length_take];rfl)) ?_;(with_reducible refine (laws_szBoolS.calls _ _ l0_3 t109 t110 _ ?side1 ?side2 A7.out).mono ?_);(case side1=>repeat (first|exact (Kd.C_below HR0_3.out (by repeat (first|(with_reducible first|exact HB.out|apply bA1_|apply bN1_|apply bD1_|refine bS1_ ?_ GE108.out)|exact HB.out)))|(with_reducible refine Kd.C_alloc ?_ _)|(with_reducible refine Kd.C_drewN ?_ _)|(with_reducible refine Kd.C_drew ?_)));(case side2=>exact HC0_3.out);rintro e w' ⟨rfl,⟨nd,rfl⟩⟩;refine ⟨_,rfl,?_⟩))
   go_ret
   exact ⟨by first|rfl|(simp [errW_none,errW_some] <;> rfl)|(simp [*,errW_none,errW_some] <;> rfl),by repeat (first|(with_reducible first|exact HB.out|apply bA1_|apply bN1_|apply bD1_|refine bS1_ ?_ GE108.out)|exact HB.out)⟩
  ·rw [if_neg c8] at H
   have c8b0 : decide (t110 < 0) = false := decide_eq_false c8
   clear c8
   obtain rfl := Option.some.inj H
   go_enter Try.func17, Try.ntmps17
   go_wp2_with (first|((with_reducible refine gate_dst (N:=2) rfl ?_);refine box_event ?hg (N:=2) ?hd (cs:=#[.int .i64 a0_0,.int .i64 a0_1,.slice A0_2 l0_2.length c0_2,.slice A0_3 l0_3.length c0_3]) (t:=30) ?hr ?_;(case hd=>rfl);(case hg=>rfl);(case hr=>first|(go_simp;done)|(go_simp;rfl));intro gb108 hg w11 hbox hb;have n0_:=mk1_ (bT1_ (by repeat (first|(with_reducible first|exact HB.out|apply bA1_|apply bN1_|apply bD1_)|exact HB.out)) hb);have n1_:=mk1_ (hbox);have n2_:=mk1_ ((by rw [hg];exact (bZ1_ (by repeat (first|(with_reducible first|exact HB.out|apply bA1_|apply bN1_|apply bD1_)|exact HB.out))):w.heap.size≤gb108));have n3_:=mk1_ ((by rw [hg];exact (bZ1_ (by repeat (first|(with_reducible first|exact HB.out|apply bA1_|apply bN1_|apply bD1_)|exact HB.out))):w.heap.size≤gb108));clear HB;have HB:=n0_;have BK108:=n1_;have GW108:=n2_;have GE108:=n3_;clear n0_ n1_ n2_ n3_;clear hb hbox hg;have hcz12_0:w11.cell? ⟨gb108,0,none⟩=some (.int .i64 a0_0):=(blk_cell BK108.out 0).trans rfl;have hcz12_1:w11.cell? ⟨gb108,1,none⟩=some (.int .i64 a0_1):=(blk_cell BK108.out 1).trans rfl;have hcz12_2:w11.cell? ⟨gb108,2,none⟩=some (.slice A0_2 l0_2.length c0_2):=(blk_cell BK108.out 2).trans rfl;have hcz12_3:w11.cell? ⟨gb108,3,none⟩=some (.slice A0_3 l0_3.length c0_3):=(blk_cell BK108.out 3).trans rfl;have hfz12_0:=fZ1_ BK108.out 0;have hfz12_1:=fZ1_ BK108.out 1;have hfz12_2:=fZ1_ BK108.out 2;have hfz12_3:=fZ1_ BK108.out 3)|((with_reducible refine gate_callee (f:=19) rfl ?_);refine goesL_ (some 8) rfl rfl Try.func19 (by kernel_rfl) rfl #[.slice A0_2 l0_2.length c0_2,.int .i64 a1] rfl (by (try simp only [mA1_,mC1_,mN1_]);first|done|rfl|(simp only [List.length_drop,List.length_take];rfl)) ?_;(with_reducible refine (laws_szInt64S.calls _ _ l0_2 a1 t109 _ ?side1 ?side2 A3.out).mono ?_);(case side1=>repeat (first|exact (Kd.C_below HR0_2.out HB.out)|(with_reducible refine Kd.C_alloc ?_ _)|(with_reducible refine Kd.C_drewN ?_ _)|(with_reducible refine Kd.C_drew ?_)));(case side2=>exact HC0_2.out);rintro e w' ⟨rfl,⟨nd,rfl⟩⟩;refine ⟨_,rfl,?_⟩)|((with_reducible refine gate_callee (f:=42) rfl ?_);refine goesL_ (some 14) rfl rfl Try.func42 (by kernel_rfl) rfl #[.slice A0_3 l0_3.length c0_3,.int .i64 t109] rfl (by (try simp only [mA1_,mC1_,mN1_]);first|done|rfl|(simp only [List.length_drop,List.length_take];rfl)) ?_;(with_reducible refine (laws_szBoolS.calls _ _ l0_3 t109 t110 _ ?side1 ?side2 A7.out).mono ?_);(case side1=>repeat (first|exact (Kd.C_below HR0_3.out (by repeat (first|(with_reducible first|exact HB.out|apply bA1_|apply bN1_|apply bD1_|refine bS1_ ?_ GE108.out)|exact HB.out)))|(with_reducible refine Kd.C_alloc ?_ _)|(with_reducible refine Kd.C_drewN ?_ _)|(with_reducible refine Kd.C_drew ?_)));(case side2=>exact HC0_3.out);rintro e w' ⟨rfl,⟨nd,rfl⟩⟩;refine ⟨_,rfl,?_⟩))
   go_ret
   exact ⟨by first|rfl|(simp [errW_none,errW_some] <;> rfl)|(simp [*,errW_none,errW_some] <;> rfl),by repeat (first|(with_reducible first|exact HB.out|apply bA1_|apply bN1_|apply bD1_|refine bS1_ ?_ GE108.out)|exact HB.out)⟩

def laws_szHeat.f (l0_0:List Int) (a0_1:Int) (a1:Int):Option (Int):=(laws_szInt64S.f l0_0 a1).bind fun t112=>(if t112 < 0 then (some (-1)) else (some t112))
set_option maxHeartbeats 8000000 in
set_option maxRecDepth 100000 in
theorem laws_szHeat.calls (A0_0:Option Addr) (c0_0:Nat) (l0_0:List Int) (a0_1:Int) (a1:Int) (r:Int) (w:World) (hr0_0:Kd.C (Kd.int .i64) w A0_0 l0_0.length l0_0) (hc0_0:l0_0.length≤c0_0) (h:laws_szHeat.f l0_0 a0_1 a1=some r) :
  Calls Try.prog 18 #[.agg #[.slice A0_0 l0_0.length c0_0,.int .i64 a0_1],.int .i64 a1] w fun e w'=>e=.returned (.int .i64 r)∧Below w.heap.size w w':=by
 have hu32 := Try.underlying32
 have HR0_0 := Aside0.mk hr0_0
 have HC0_0 := Aside0.mk hc0_0
 clear hr0_0 hc0_0
 have HB := Aside0.mk (Below.refl w.heap.size w)
 have H:((laws_szInt64S.f l0_0 a1).bind fun t112=>(if t112 < 0 then (some (-1)) else (some t112)))=some r:=h
 clear h
 replace H := Option.bind_eq_some_iff.mp H
 obtain ⟨t112, A30, H⟩ := H
 replace H:(if t112 < 0 then (some (-1)) else (some t112))=some r:=H
 have A3 := Aside0.mk A30
 clear A30
 by_cases c4 : t112 < 0
 ·rw [if_pos c4] at H
  have c4b0 : decide (t112 < 0) = true := decide_eq_true c4
  clear c4
  obtain rfl := Option.some.inj H
  go_enter Try.func18, Try.ntmps18
  go_wp2_with (first|((with_reducible refine gate_dst (N:=2) rfl ?_);refine box_event ?hg (N:=2) ?hd (cs:=#[.slice A0_0 l0_0.length c0_0,.int .i64 a0_1]) (t:=32) ?hr ?_;(case hd=>rfl);(case hg=>rfl);(case hr=>first|(go_simp;done)|(go_simp;rfl));intro gb111 hg w5 hbox hb;have n0_:=mk1_ (bT1_ (by repeat (first|(with_reducible first|exact HB.out|apply bA1_|apply bN1_|apply bD1_)|exact HB.out)) hb);have n1_:=mk1_ (hbox);have n2_:=mk1_ ((by rw [hg];exact (bZ1_ (by repeat (first|(with_reducible first|exact HB.out|apply bA1_|apply bN1_|apply bD1_)|exact HB.out))):w.heap.size≤gb111));have n3_:=mk1_ ((by rw [hg];exact (bZ1_ (by repeat (first|(with_reducible first|exact HB.out|apply bA1_|apply bN1_|apply bD1_)|exact HB.out))):w.heap.size≤gb111));clear HB;have HB:=n0_;have BK111:=n1_;have GW111:=n2_;have GE111:=n3_;clear n0_ n1_ n2_ n3_;clear hb hbox hg;have hcz6_0:w5.cell? ⟨gb111,0,none⟩=some (.slice A0_0 l0_0.length c0_0):=(blk_cell BK111.out 0).trans rfl;have hcz6_1:w5.cell? ⟨gb111,1,none⟩=some (.int .i64 a0_1):=(blk_cell BK111.out 1).trans rfl;have hfz6_0:=fZ1_ BK111.out 0;have hfz6_1:=fZ1_ BK111.out 1)|((with_reducible refine gate_callee (f:=19) rfl ?_);refine goesL_ (some 8) rfl rfl Try.func19 (by kernel_rfl) rfl #[.slice A0_0 l0_0.length c0_0,.int .i64 a1] rfl (by (try simp only [mA1_,mC1_,mN1_]);first|done|rfl|(simp only [List.length_drop,List.length_take];rfl)) ?_;(with_reducible refine (laws_szInt64S.calls _ _ l0_0 a1 t112 _ ?side1 ?side2 A3.out).mono ?_);(case side1=>repeat (first|exact (Kd.C_below HR0_0.out HB.out)|(with_reducible refine Kd.C_alloc ?_ _)|(with_reducible refine Kd.C_drewN ?_ _)|(with_reducible refine Kd.C_drew ?_)));(case side2=>exact HC0_0.out);rintro e w' ⟨rfl,⟨nd,rfl⟩⟩;refine ⟨_,rfl,?_⟩))
  go_ret
  exact ⟨by first|rfl|(simp [errW_none,errW_some] <;> rfl)|(simp [*,errW_none,errW_some] <;> rfl),by repeat (first|(with_reducible first|exact HB.out|apply bA1_|apply bN1_|apply bD1_|refine bS1_ ?_ GE111.out)|exact HB.out)⟩
 ·rw [if_neg c4] at H
  have c4b0 : decide (t112 < 0) = false := decide_eq_false c4
  clear c4
  obtain rfl := Option.some.inj H
  go_enter Try.func18, Try.ntmps18
  go_wp2_with (first|((with_reducible refine gate_dst (N:=2) rfl ?_);refine box_event ?hg (N:=2) ?hd (cs:=#[.slice A0_0 l0_0.length c0_0,.int .i64 a0_1]) (t:=32) ?hr ?_;(case hd=>rfl);(case hg=>rfl);(case hr=>first|(go_simp;done)|(go_simp;rfl));intro gb111 hg w7 hbox hb;have n0_:=mk1_ (bT1_ (by repeat (first|(with_reducible first|exact HB.out|apply bA1_|apply bN1_|apply bD1_)|exact HB.out)) hb);have n1_:=mk1_ (hbox);have n2_:=mk1_ ((by rw [hg];exact (bZ1_ (by repeat (first|(with_reducible first|exact HB.out|apply bA1_|apply bN1_|apply bD1_)|exact HB.out))):w.heap.size≤gb111));have n3_:=mk1_ ((by rw [hg];exact (bZ1_ (by repeat (first|(with_reducible first|exact HB.out|apply bA1_|apply bN1_|apply bD1_)|exact HB.out))):w.heap.size≤gb111));clear HB;have HB:=n0_;have BK111:=n1_;have GW111:=n2_;have GE111:=n3_;clear n0_ n1_ n2_ n3_;clear hb hbox hg;have hcz8_0:w7.cell? ⟨gb111,0,none⟩=some (.slice A0_0 l0_0.length c0_0):=(blk_cell BK111.out 0).trans rfl;have hcz8_1:w7.cell? ⟨gb111,1,none⟩=some (.int .i64 a0_1):=(blk_cell BK111.out 1).trans rfl;have hfz8_0:=fZ1_ BK111.out 0;have hfz8_1:=fZ1_ BK111.out 1)|((with_reducible refine gate_callee (f:=19) rfl ?_);refine goesL_ (some 8) rfl rfl Try.func19 (by kernel_rfl) rfl #[.slice A0_0 l0_0.length c0_0,.int .i64 a1] rfl (by (try simp only [mA1_,mC1_,mN1_]);first|done|rfl|(simp only [List.length_drop,List.length_take];rfl)) ?_;(with_reducible refine (laws_szInt64S.calls _ _ l0_0 a1 t112 _ ?side1 ?side2 A3.out).mono ?_);(case side1=>repeat (first|exact (Kd.C_below HR0_0.out HB.out)|(with_reducible refine Kd.C_alloc ?_ _)|(with_reducible refine Kd.C_drewN ?_ _)|(with_reducible refine Kd.C_drew ?_)));(case side2=>exact HC0_0.out);rintro e w' ⟨rfl,⟨nd,rfl⟩⟩;refine ⟨_,rfl,?_⟩))
  go_ret
  exact ⟨by first|rfl|(simp [errW_none,errW_some] <;> rfl)|(simp [*,errW_none,errW_some] <;> rfl),by repeat (first|(with_reducible first|exact HB.out|apply bA1_|apply bN1_|apply bD1_|refine bS1_ ?_ GE111.out)|exact HB.out)⟩

def laws_szFTL.f (k:Nat) (a0_0:Int) (a0_1:Int) (a0_2:Int) (l0_3:List (S103)) (a0_4:Int) (a0_5:Int) (a0_6:Bool) (a0_7:Int) (a0_8:Int) (a0_9:Int) (l0_10:List Int) (l0_11:List Bool) (l0_12:List Int) (a0_13:Int) (a0_14:Int) (l0_15:List Int) (l0_16:List Int) (a0_17:Int) (a0_18:Int) (a1:Int):Option (Int):=(laws_szFlash.f k a0_0 a0_1 a0_2 l0_3 a0_4 a0_5 a0_6 a0_7 a1).bind fun t114=>(if t114 < 0 then (some (-1)) else ((laws_szPageMap.f a0_8 a0_9 l0_10 l0_11 t114).bind fun t115=>(if t115 < 0 then (some (-1)) else ((laws_szHeat.f l0_12 a0_13 t115).bind fun t116=>(if t116 < 0 then (some (-1)) else ((laws_szInt64S.f l0_15 t116).bind fun t117=>(if t117 < 0 then (some (-1)) else ((laws_szInt64S.f l0_16 t117).bind fun t118=>(if t118 < 0 then (some (-1)) else (some t118))))))))))
theorem sz_below {w w1:World} (h:Drawn0 w w1):Below w.heap.size w w1:=by
 obtain ⟨nn, rfl⟩ := h.out
 exact pw_below_drewN (Below.refl _ _) nn
theorem sz_step {c:Prop} [Decidable c] {g:Option Int} {F:Int→Option Int} {r:Int} (h:(if c then some (-1) else g.bind F)=some r):∃ t,(¬ c→g=some t)∧(if c then some (-1) else F t)=some r:=by
 by_cases q : c
 ·exact ⟨0, fun p => absurd q p, by rw [if_pos q] at h ⊢; exact h⟩
 ·rw [if_neg q] at h
  obtain ⟨t, e, h⟩ := Option.bind_eq_some_iff.mp h
  exact ⟨t, fun _ => e, by rw [if_neg q]; exact h⟩
theorem sz_or {a b:Prop} [Decidable a] [Decidable b] {x y z:Option Int} (h:(if a then x else if b then x else y)=z):(if a∨b then x else y)=z:=by
 rw [← h]
 by_cases p : a <;> by_cases q : b <;> simp [p, q]
set_option maxHeartbeats 8000000 in
set_option maxRecDepth 100000 in
theorem laws_szFTL.calls (k:Nat) (a0_0:Int) (a0_1:Int) (a0_2:Int) (A0_3:Option Addr) (c0_3:Nat) (l0_3:List (S103)) (a0_4:Int) (a0_5:Int) (a0_6:Bool) (a0_7:Int) (a0_8:Int) (a0_9:Int) (A0_10:Option Addr) (c0_10:Nat) (l0_10:List Int) (A0_11:Option Addr) (c0_11:Nat) (l0_11:List Bool) (A0_12:Option Addr) (c0_12:Nat) (l0_12:List Int) (a0_13:Int) (a0_14:Int) (A0_15:Option Addr) (c0_15:Nat) (l0_15:List Int) (A0_16:Option Addr) (c0_16:Nat) (l0_16:List Int) (a0_17:Int) (a0_18:Int) (a1:Int) (r:Int) (w:World) (hr0_3:Kd.C k103 w A0_3 l0_3.length l0_3) (hc0_3:l0_3.length≤c0_3) (hr0_10:Kd.C (Kd.int .i64) w A0_10 l0_10.length l0_10) (hc0_10:l0_10.length≤c0_10) (hr0_11:Kd.C Kd.bool w A0_11 l0_11.length l0_11) (hc0_11:l0_11.length≤c0_11) (hr0_12:Kd.C (Kd.int .i64) w A0_12 l0_12.length l0_12) (hc0_12:l0_12.length≤c0_12) (hr0_15:Kd.C (Kd.int .i64) w A0_15 l0_15.length l0_15) (hc0_15:l0_15.length≤c0_15) (hr0_16:Kd.C (Kd.int .i64) w A0_16 l0_16.length l0_16) (hc0_16:l0_16.length≤c0_16) (h:laws_szFTL.f k a0_0 a0_1 a0_2 l0_3 a0_4 a0_5 a0_6 a0_7 a0_8 a0_9 l0_10 l0_11 l0_12 a0_13 a0_14 l0_15 l0_16 a0_17 a0_18 a1=some r) :
  Calls Try.prog 5 #[.agg #[.int .i64 a0_0,.int .i64 a0_1,.int .i64 a0_2,.slice A0_3 l0_3.length c0_3,.int .i64 a0_4,.int .i64 a0_5,.bool a0_6,.int .i64 a0_7,.int .i64 a0_8,.int .i64 a0_9,.slice A0_10 l0_10.length c0_10,.slice A0_11 l0_11.length c0_11,.slice A0_12 l0_12.length c0_12,.int .i64 a0_13,.int .i64 a0_14,.slice A0_15 l0_15.length c0_15,.slice A0_16 l0_16.length c0_16,.int .i64 a0_17,.int .i64 a0_18],.int .i64 a1] w fun e w'=>e=.returned (.int .i64 r)∧Below w.heap.size w w':=by
 have HR3 := Aside0.mk hr0_3
 have HC3 := Aside0.mk hc0_3
 have HR10 := Aside0.mk hr0_10
 have HC10 := Aside0.mk hc0_10
 have HR11 := Aside0.mk hr0_11
 have HC11 := Aside0.mk hc0_11
 have HR12 := Aside0.mk hr0_12
 have HC12 := Aside0.mk hc0_12
 have HR15 := Aside0.mk hr0_15
 have HC15 := Aside0.mk hc0_15
 have HR16 := Aside0.mk hr0_16
 have HC16 := Aside0.mk hc0_16
 clear hr0_3 hc0_3 hr0_10 hc0_10 hr0_11 hc0_11 hr0_12 hc0_12 hr0_15 hc0_15 hr0_16 hc0_16
 have HB := Aside0.mk (Below.refl w.heap.size w)
 unfold laws_szFTL.f at h
 obtain ⟨t1, E1, h⟩ := Option.bind_eq_some_iff.mp h
 obtain ⟨t2, E2, h⟩ := sz_step h
 obtain ⟨t3, E3, h⟩ := sz_step (sz_or h)
 obtain ⟨t4, E4, h⟩ := sz_step (sz_or h)
 obtain ⟨t5, E5, h⟩ := sz_step (sz_or h)
 have HE := Aside0.mk (sz_or h)
 replace E1 := Aside0.mk E1
 replace E2 := Aside0.mk E2
 replace E3 := Aside0.mk E3
 replace E4 := Aside0.mk E4
 replace E5 := Aside0.mk E5
 clear h
 go_enter Try.func5, Try.ntmps5
 go_wp2_with (first
  | ((with_reducible refine gate_dst (N:=2) rfl ?_);refine box_event (cs:=[.int .i64 a0_0,.int .i64 a0_1,.int .i64 a0_2,.slice A0_3 l0_3.length c0_3,.int .i64 a0_4,.int .i64 a0_5,.bool a0_6,.int .i64 a0_7,.int .i64 a0_8,.int .i64 a0_9,.slice A0_10 l0_10.length c0_10,.slice A0_11 l0_11.length c0_11,.slice A0_12 l0_12.length c0_12,.int .i64 a0_13,.int .i64 a0_14,.slice A0_15 l0_15.length c0_15,.slice A0_16 l0_16.length c0_16,.int .i64 a0_17,.int .i64 a0_18].toArray) (t:=34) rfl (N:=2) rfl (by first|(go_simp;done)|(go_simp;rfl)) ?_;intro g hg w1 hbox hb;have n0_:=mk1_ (bT1_ HB.out hb);have BK:=mk1_ hbox;clear HB;have HB:=n0_;clear n0_;clear hg hb hbox;have z15:=(blk_cell BK.out 15).trans rfl;have z16:=(blk_cell BK.out 16).trans rfl;(try simp only [Act.put,lS1_,lZ1_,lC1_]))
  | ((with_reducible refine gate_dst (N:=6) rfl ?_);refine wpList_load_mid rfl 26 (.tmp 5) rfl g 0 rfl [.int .i64 a0_0,.int .i64 a0_1,.int .i64 a0_2,.slice A0_3 l0_3.length c0_3,.int .i64 a0_4,.int .i64 a0_5,.bool a0_6,.int .i64 a0_7] _ (range_part [.int .i64 a0_0,.int .i64 a0_1,.int .i64 a0_2,.slice A0_3 l0_3.length c0_3,.int .i64 a0_4,.int .i64 a0_5,.bool a0_6,.int .i64 a0_7,.int .i64 a0_8,.int .i64 a0_9,.slice A0_10 l0_10.length c0_10,.slice A0_11 l0_11.length c0_11,.slice A0_12 l0_12.length c0_12,.int .i64 a0_13,.int .i64 a0_14,.slice A0_15 l0_15.length c0_15,.slice A0_16 l0_16.length c0_16,.int .i64 a0_17,.int .i64 a0_18] BK.out 0 [.int .i64 a0_0,.int .i64 a0_1,.int .i64 a0_2,.slice A0_3 l0_3.length c0_3,.int .i64 a0_4,.int .i64 a0_5,.bool a0_6,.int .i64 a0_7] rfl) Try.underlying26 rfl (by kernel_rfl) ?_;(try simp only [Act.put,lS1_,lZ1_,lC1_]))
  | ((with_reducible refine gate_dst (N:=8) rfl ?_);refine goesL_ (some 8) rfl rfl Try.func16 (by kernel_rfl) rfl #[.agg #[.int .i64 a0_0,.int .i64 a0_1,.int .i64 a0_2,.slice A0_3 l0_3.length c0_3,.int .i64 a0_4,.int .i64 a0_5,.bool a0_6,.int .i64 a0_7],.int .i64 a1] rfl (by first|rfl|(simp only [mA1_,mC1_,mN1_];rfl)) ?_;refine Calls.mono (laws_szFlash.calls k a0_0 a0_1 a0_2 A0_3 c0_3 l0_3 a0_4 a0_5 a0_6 a0_7 a1 t1 _ (Kd.C_below HR3.out HB.out) HC3.out E1.out) ?_;rintro e w2 ⟨rfl,hb⟩;refine ⟨_,rfl,?_⟩;clear z15 z16;have n0_:=mk1_ (bT1_ HB.out hb);have n1_:=mk1_ (blk_below BK.out hb);clear HB BK;have HB:=n0_;have BK:=n1_;clear n0_ n1_;clear hb;have z15:=(blk_cell BK.out 15).trans rfl;have z16:=(blk_cell BK.out 16).trans rfl;(try simp only [Act.put,lS1_,lZ1_,lC1_]))
  | ((with_reducible refine gate_dst (N:=12) rfl ?_);refine wpList_load_mid rfl 30 (.tmp 11) rfl g 8 rfl [.int .i64 a0_8,.int .i64 a0_9,.slice A0_10 l0_10.length c0_10,.slice A0_11 l0_11.length c0_11] _ (range_part [.int .i64 a0_0,.int .i64 a0_1,.int .i64 a0_2,.slice A0_3 l0_3.length c0_3,.int .i64 a0_4,.int .i64 a0_5,.bool a0_6,.int .i64 a0_7,.int .i64 a0_8,.int .i64 a0_9,.slice A0_10 l0_10.length c0_10,.slice A0_11 l0_11.length c0_11,.slice A0_12 l0_12.length c0_12,.int .i64 a0_13,.int .i64 a0_14,.slice A0_15 l0_15.length c0_15,.slice A0_16 l0_16.length c0_16,.int .i64 a0_17,.int .i64 a0_18] BK.out 8 [.int .i64 a0_8,.int .i64 a0_9,.slice A0_10 l0_10.length c0_10,.slice A0_11 l0_11.length c0_11] rfl) Try.underlying30 rfl (by kernel_rfl) ?_;(try simp only [Act.put,lS1_,lZ1_,lC1_]))
  | ((with_reducible refine gate_dst (N:=14) rfl ?_);refine goesL_ (some 14) rfl rfl Try.func17 (by kernel_rfl) rfl #[.agg #[.int .i64 a0_8,.int .i64 a0_9,.slice A0_10 l0_10.length c0_10,.slice A0_11 l0_11.length c0_11],.int .i64 t1] rfl (by first|rfl|(simp only [mA1_,mC1_,mN1_];rfl)) ?_;refine Calls.mono (laws_szPageMap.calls a0_8 a0_9 A0_10 c0_10 l0_10 A0_11 c0_11 l0_11 t1 t2 _ (Kd.C_below HR10.out HB.out) HC10.out (Kd.C_below HR11.out HB.out) HC11.out (E2.out (by omega))) ?_;rintro e w2 ⟨rfl,hb⟩;refine ⟨_,rfl,?_⟩;clear z15 z16;have n0_:=mk1_ (bT1_ HB.out hb);have n1_:=mk1_ (blk_below BK.out hb);clear HB BK;have HB:=n0_;have BK:=n1_;clear n0_ n1_;clear hb;have z15:=(blk_cell BK.out 15).trans rfl;have z16:=(blk_cell BK.out 16).trans rfl;(try simp only [Act.put,lS1_,lZ1_,lC1_]))
  | ((with_reducible refine gate_dst (N:=18) rfl ?_);refine wpList_load_mid rfl 32 (.tmp 17) rfl g 12 rfl [.slice A0_12 l0_12.length c0_12,.int .i64 a0_13] _ (range_part [.int .i64 a0_0,.int .i64 a0_1,.int .i64 a0_2,.slice A0_3 l0_3.length c0_3,.int .i64 a0_4,.int .i64 a0_5,.bool a0_6,.int .i64 a0_7,.int .i64 a0_8,.int .i64 a0_9,.slice A0_10 l0_10.length c0_10,.slice A0_11 l0_11.length c0_11,.slice A0_12 l0_12.length c0_12,.int .i64 a0_13,.int .i64 a0_14,.slice A0_15 l0_15.length c0_15,.slice A0_16 l0_16.length c0_16,.int .i64 a0_17,.int .i64 a0_18] BK.out 12 [.slice A0_12 l0_12.length c0_12,.int .i64 a0_13] rfl) Try.underlying32 rfl (by kernel_rfl) ?_;(try simp only [Act.put,lS1_,lZ1_,lC1_]))
  | ((with_reducible refine gate_dst (N:=20) rfl ?_);refine goesL_ (some 20) rfl rfl Try.func18 (by kernel_rfl) rfl #[.agg #[.slice A0_12 l0_12.length c0_12,.int .i64 a0_13],.int .i64 t2] rfl (by first|rfl|(simp only [mA1_,mC1_,mN1_];rfl)) ?_;refine Calls.mono (laws_szHeat.calls A0_12 c0_12 l0_12 a0_13 t2 t3 _ (Kd.C_below HR12.out HB.out) HC12.out (E3.out (by omega))) ?_;rintro e w2 ⟨rfl,hb⟩;refine ⟨_,rfl,?_⟩;clear z15 z16;have n0_:=mk1_ (bT1_ HB.out hb);have n1_:=mk1_ (blk_below BK.out hb);clear HB BK;have HB:=n0_;have BK:=n1_;clear n0_ n1_;clear hb;have z15:=(blk_cell BK.out 15).trans rfl;have z16:=(blk_cell BK.out 16).trans rfl;(try simp only [Act.put,lS1_,lZ1_,lC1_]))
  | ((with_reducible refine gate_dst (N:=26) rfl ?_);refine goesL_ (some 26) rfl rfl Try.func19 (by kernel_rfl) rfl #[.slice A0_15 l0_15.length c0_15,.int .i64 t3] rfl (by first|rfl|(simp only [mA1_,mC1_,mN1_];rfl)) ?_;refine Calls.mono (laws_szInt64S.calls A0_15 c0_15 l0_15 t3 t4 _ (Kd.C_below HR15.out HB.out) HC15.out (E4.out (by omega))) ?_;rintro e w2 ⟨rfl,hb⟩;refine ⟨_,rfl,?_⟩;replace hb:=sz_below hb;clear z15 z16;have n0_:=mk1_ (bT1_ HB.out hb);have n1_:=mk1_ (blk_below BK.out hb);clear HB BK;have HB:=n0_;have BK:=n1_;clear n0_ n1_;clear hb;have z15:=(blk_cell BK.out 15).trans rfl;have z16:=(blk_cell BK.out 16).trans rfl;(try simp only [Act.put,lS1_,lZ1_,lC1_]))
  | ((with_reducible refine gate_dst (N:=32) rfl ?_);refine goesL_ (some 32) rfl rfl Try.func19 (by kernel_rfl) rfl #[.slice A0_16 l0_16.length c0_16,.int .i64 t4] rfl (by first|rfl|(simp only [mA1_,mC1_,mN1_];rfl)) ?_;refine Calls.mono (laws_szInt64S.calls A0_16 c0_16 l0_16 t4 t5 _ (Kd.C_below HR16.out HB.out) HC16.out (E5.out (by omega))) ?_;rintro e w2 ⟨rfl,hb⟩;refine ⟨_,rfl,?_⟩;replace hb:=sz_below hb;clear z15 z16;have n0_:=mk1_ (bT1_ HB.out hb);have n1_:=mk1_ (blk_below BK.out hb);clear HB BK;have HB:=n0_;have BK:=n1_;clear n0_ n1_;clear hb;have z15:=(blk_cell BK.out 15).trans rfl;have z16:=(blk_cell BK.out 16).trans rfl;(try simp only [Act.put,lS1_,lZ1_,lC1_])))
 all_goals (go_ret;refine ⟨?_,HB.out⟩;first|(rw [← Option.some.inj ((if_pos (by omega)).symm.trans HE.out)];rfl)|(rw [← Option.some.inj ((if_neg (by omega)).symm.trans HE.out)];rfl))
def IsS40 (w0 W:World) (g:Nat) (f0:Int) (f1:Int) (f2:Int) (f3:List (S92)) (f4:Int) (f5:Int) (f6:Bool) (f7:Int):Prop:=∃ A3 c3,W.heap[g]?=some (.cells #[.int .i64 f0,.int .i64 f1,.int .i64 f2,.slice A3 f3.length c3,.int .i64 f4,.int .i64 f5,.bool f6,.int .i64 f7] 40 (0,0))∧w0.heap.size≤g∧Kd.C k92 w0 A3 f3.length f3
theorem IsS40.grown {w0 W:World} {g:Nat} {f0:Int} {f1:Int} {f2:Int} {f3:List (S92)} {f4:Int} {f5:Int} {f6:Bool} {f7:Int} {W1:World} {row:Option Nat} (h:IsS40 w0 W g f0 f1 f2 f3 f4 f5 f6 f7) (hw:W.grownBy W1 row) (hne:some g≠row):IsS40 w0 W1 g f0 f1 f2 f3 f4 f5 f6 f7:=by
 obtain ⟨A3, c3, hb, hg, hr3⟩ := h
 exact ⟨A3, c3, blk_grown hb hw hne, hg, hr3⟩
theorem IsS40.kept {w0 W:World} {g:Nat} {f0:Int} {f1:Int} {f2:Int} {f3:List (S92)} {f4:Int} {f5:Int} {f6:Bool} {f7:Int} {W1:World} {S:Nat→Prop} (h:IsS40 w0 W g f0 f1 f2 f3 f4 f5 f6 f7) (hk:Kept W W1 S) (hne:¬ S g):IsS40 w0 W1 g f0 f1 f2 f3 f4 f5 f6 f7:=by
 obtain ⟨A3, c3, hb, hg, hr3⟩ := h
 exact ⟨A3, c3, blk_kept hb hk hne, hg, hr3⟩
theorem IsS40.below {w0 W:World} {g:Nat} {f0:Int} {f1:Int} {f2:Int} {f3:List (S92)} {f4:Int} {f5:Int} {f6:Bool} {f7:Int} {W1:World} (h:IsS40 w0 W g f0 f1 f2 f3 f4 f5 f6 f7) (hw:Below W.heap.size W W1):IsS40 w0 W1 g f0 f1 f2 f3 f4 f5 f6 f7:=h.grown (grown_of_below hw none) (by simp)
theorem IsS40.alloc {w0 W:World} {g:Nat} {f0:Int} {f1:Int} {f2:Int} {f3:List (S92)} {f4:Int} {f5:Int} {f6:Bool} {f7:Int} (h:IsS40 w0 W g f0 f1 f2 f3 f4 f5 f6 f7) (o:Obj):IsS40 w0 (W.alloc o) g f0 f1 f2 f3 f4 f5 f6 f7:=h.below (bA1_ (Below.refl _ _) o)
theorem IsS40.drew {w0 W:World} {g:Nat} {f0:Int} {f1:Int} {f2:Int} {f3:List (S92)} {f4:Int} {f5:Int} {f6:Bool} {f7:Int} (h:IsS40 w0 W g f0 f1 f2 f3 f4 f5 f6 f7):IsS40 w0 W.drew g f0 f1 f2 f3 f4 f5 f6 f7:=h
theorem IsS40.apart {w0 W:World} {g:Nat} {f0:Int} {f1:Int} {f2:Int} {f3:List (S92)} {f4:Int} {f5:Int} {f6:Bool} {f7:Int} {α:Type} {d:Kd α} {e:Nat} {base:Nat} {ok:Nat→Prop} {v:Value} {xs:List α} (h:IsS40 w0 W g f0 f1 f2 f3 f4 f5 f6 f7) (ho:d.R e W base ok v xs) (ht:∀ q,q ∈ e::d.E→q≠40):d.R e W base (fun k=>ok k∧k≠g) v xs:=by
 obtain ⟨A3, c3, hb, hg, hr3⟩ := h
 exact Kd.R_types ho hb ht

def spec_l14Blocks.f (s0_0:Int) (s0_1:Int) (s0_2:Int) (s0_3:List (S92)) (s0_4:Int) (s0_5:Int) (s0_6:Bool) (s0_7:Int):Option (Int × Int × Int × Int × Int × Int × Bool × Int):=some ((s0_3.length:Int),s0_0,s0_1,s0_2,s0_4,s0_5,s0_6,s0_7)

def spec_l00In.f (a0:Int) (a1:Int) (a2:Int):Option (Bool):=if a0 ≥ a1 then (some (decide (a0≤a2))) else (some false)
set_option maxHeartbeats 8000000 in
set_option maxRecDepth 100000 in
theorem spec_l00In.calls (a0:Int) (a1:Int) (a2:Int) (r:Bool) (w:World) (h:spec_l00In.f a0 a1 a2=some r) :
  Calls Try.prog 47 #[.int .i64 a0,.int .i64 a1,.int .i64 a2] w fun e w'=>e=.returned (.bool r)∧Drawn0 w w':=by
 have H:(if a0 ≥ a1 then (some (decide (a0≤a2))) else (some false))=some r:=h
 clear h
 by_cases c4 : a0 ≥ a1
 ·rw [if_pos c4] at H
  have c4b0 : decide (a1 ≤ a0) = true := decide_eq_true c4
  clear c4
  obtain rfl := Option.some.inj H
  go_enter Try.func47, Try.ntmps47
  go_wp2
  go_ret
  exact ⟨by first|rfl|(simp;done)|(simp [*];done),by repeat (first|exact Drawn0.refl _|apply Drawn0.step)⟩
 ·rw [if_neg c4] at H
  have c4b0 : decide (a1 ≤ a0) = false := decide_eq_false c4
  clear c4
  obtain rfl := Option.some.inj H
  go_enter Try.func47, Try.ntmps47
  go_wp2
  go_ret
  exact ⟨by first|rfl|(simp;done)|(simp [*];done),by repeat (first|exact Drawn0.refl _|apply Drawn0.step)⟩

def spec_ValidGeometry.f (a0_0:Int) (a0_1:Int) (a0_2:Int):Option (Bool):=(spec_l00In.f a0_0 2 3).bind fun t120=>(if t120=true then ((spec_l00In.f a0_1 4 12).bind fun t121=>(if t121=true then (if a0_2=8 then (some true) else (some (a0_2 == 16))) else (some false))) else (some false))
set_option maxHeartbeats 8000000 in
set_option maxRecDepth 100000 in
theorem spec_ValidGeometry.calls (a0_0:Int) (a0_1:Int) (a0_2:Int) (r:Bool) (w:World) (h:spec_ValidGeometry.f a0_0 a0_1 a0_2=some r) :
  Calls Try.prog 68 #[.agg #[.int .i64 a0_0,.int .i64 a0_1,.int .i64 a0_2]] w fun e w'=>e=.returned (.bool r)∧Below w.heap.size w w':=by
 have hu37 := Try.underlying37
 have HB := Aside0.mk (Below.refl w.heap.size w)
 have H:((spec_l00In.f a0_0 2 3).bind fun t120=>(if t120=true then ((spec_l00In.f a0_1 4 12).bind fun t121=>(if t121=true then (if a0_2=8 then (some true) else (some (a0_2 == 16))) else (some false))) else (some false)))=some r:=h
 clear h
 replace H := Option.bind_eq_some_iff.mp H
 obtain ⟨t120, A20, H⟩ := H
 replace H:(if t120=true then ((spec_l00In.f a0_1 4 12).bind fun t121=>(if t121=true then (if a0_2=8 then (some true) else (some (a0_2 == 16))) else (some false))) else (some false))=some r:=H
 have A2 := Aside0.mk A20
 clear A20
 by_cases c3 : t120 = true
 ·subst c3
  have H1:((spec_l00In.f a0_1 4 12).bind fun t121=>(if t121=true then (if a0_2=8 then (some true) else (some (a0_2 == 16))) else (some false)))=some r:=by rw [if_pos rfl] at H;exact H
  clear H
  have H := H1
  clear H1
  replace H := Option.bind_eq_some_iff.mp H
  obtain ⟨t121, A40, H⟩ := H
  replace H:(if t121=true then (if a0_2=8 then (some true) else (some (a0_2 == 16))) else (some false))=some r:=H
  have A4 := Aside0.mk A40
  clear A40
  by_cases c5 : t121 = true
  ·subst c5
   have H1:(if a0_2=8 then (some true) else (some (a0_2 == 16)))=some r:=by rw [if_pos rfl] at H;exact H
   clear H
   have H := H1
   clear H1
   by_cases c6 : a0_2 = 8
   ·rw [if_pos c6] at H
    have c6b0 : (a0_2 == 8) = true := beq_iff_eq.mpr c6
    have c6b1 : (a0_2 != 8) = false := bne_eq_false_iff_eq.mpr c6
    clear c6
    obtain rfl := Option.some.inj H
    go_enter Try.func68, Try.ntmps68
    go_wp2_with (first|((with_reducible refine gate_dst (N:=1) rfl ?_);refine box_event ?hg (N:=1) ?hd (cs:=#[.int .i64 a0_0,.int .i64 a0_1,.int .i64 a0_2]) (t:=37) ?hr ?_;(case hd=>rfl);(case hg=>rfl);(case hr=>first|(go_simp;done)|(go_simp;rfl));intro gb119 hg w7 hbox hb;have n0_:=mk1_ (bT1_ (by repeat (first|(with_reducible first|exact HB.out|apply bA1_|apply bN1_|apply bD1_)|exact HB.out)) hb);have n1_:=mk1_ (hbox);have n2_:=mk1_ ((by rw [hg];exact (bZ1_ (by repeat (first|(with_reducible first|exact HB.out|apply bA1_|apply bN1_|apply bD1_)|exact HB.out))):w.heap.size≤gb119));have n3_:=mk1_ ((by rw [hg];exact (bZ1_ (by repeat (first|(with_reducible first|exact HB.out|apply bA1_|apply bN1_|apply bD1_)|exact HB.out))):w.heap.size≤gb119));clear HB;have HB:=n0_;have BK119:=n1_;have GW119:=n2_;have GE119:=n3_;clear n0_ n1_ n2_ n3_;clear hb hbox hg;have hcz8_0:w7.cell? ⟨gb119,0,none⟩=some (.int .i64 a0_0):=(blk_cell BK119.out 0).trans rfl;have hcz8_1:w7.cell? ⟨gb119,1,none⟩=some (.int .i64 a0_1):=(blk_cell BK119.out 1).trans rfl;have hcz8_2:w7.cell? ⟨gb119,2,none⟩=some (.int .i64 a0_2):=(blk_cell BK119.out 2).trans rfl;have hfz8_0:=fZ1_ BK119.out 0;have hfz8_1:=fZ1_ BK119.out 1;have hfz8_2:=fZ1_ BK119.out 2)|((with_reducible refine gate_callee (f:=47) rfl ?_);refine goesL_ (some 5) rfl rfl Try.func47 (by kernel_rfl) rfl #[.int .i64 a0_0,.int .i64 2,.int .i64 3] rfl (by (try simp only [mA1_,mC1_,mN1_]);first|done|rfl|(simp only [List.length_drop,List.length_take];rfl)) ?_;(with_reducible refine (spec_l00In.calls a0_0 2 3 true _ A2.out).mono ?_);rintro e w' ⟨rfl,⟨nd,rfl⟩⟩;refine ⟨_,rfl,?_⟩)|(go_at_call 47;(with_reducible refine (spec_l00In.calls a0_1 4 12 true _ A4.out).mono ?_);rintro e w' ⟨rfl,⟨nd,rfl⟩⟩))
    go_ret
    exact ⟨by first|rfl|(simp [errW_none,errW_some] <;> rfl)|(simp [*,errW_none,errW_some] <;> rfl),by repeat (first|(with_reducible first|exact HB.out|apply bA1_|apply bN1_|apply bD1_|refine bS1_ ?_ GE119.out)|exact HB.out)⟩
   ·rw [if_neg c6] at H
    have c6b0 : (a0_2 == 8) = false := beq_eq_false_iff_ne.mpr c6
    have c6b1 : (a0_2 != 8) = true := bne_iff_ne.mpr c6
    obtain rfl := Option.some.inj H
    go_enter Try.func68, Try.ntmps68
    go_wp2_with (first|((with_reducible refine gate_dst (N:=1) rfl ?_);refine box_event ?hg (N:=1) ?hd (cs:=#[.int .i64 a0_0,.int .i64 a0_1,.int .i64 a0_2]) (t:=37) ?hr ?_;(case hd=>rfl);(case hg=>rfl);(case hr=>first|(go_simp;done)|(go_simp;rfl));intro gb119 hg w9 hbox hb;have n0_:=mk1_ (bT1_ (by repeat (first|(with_reducible first|exact HB.out|apply bA1_|apply bN1_|apply bD1_)|exact HB.out)) hb);have n1_:=mk1_ (hbox);have n2_:=mk1_ ((by rw [hg];exact (bZ1_ (by repeat (first|(with_reducible first|exact HB.out|apply bA1_|apply bN1_|apply bD1_)|exact HB.out))):w.heap.size≤gb119));have n3_:=mk1_ ((by rw [hg];exact (bZ1_ (by repeat (first|(with_reducible first|exact HB.out|apply bA1_|apply bN1_|apply bD1_)|exact HB.out))):w.heap.size≤gb119));clear HB;have HB:=n0_;have BK119:=n1_;have GW119:=n2_;have GE119:=n3_;clear n0_ n1_ n2_ n3_;clear hb hbox hg;have hcz10_0:w9.cell? ⟨gb119,0,none⟩=some (.int .i64 a0_0):=(blk_cell BK119.out 0).trans rfl;have hcz10_1:w9.cell? ⟨gb119,1,none⟩=some (.int .i64 a0_1):=(blk_cell BK119.out 1).trans rfl;have hcz10_2:w9.cell? ⟨gb119,2,none⟩=some (.int .i64 a0_2):=(blk_cell BK119.out 2).trans rfl;have hfz10_0:=fZ1_ BK119.out 0;have hfz10_1:=fZ1_ BK119.out 1;have hfz10_2:=fZ1_ BK119.out 2)|((with_reducible refine gate_callee (f:=47) rfl ?_);refine goesL_ (some 5) rfl rfl Try.func47 (by kernel_rfl) rfl #[.int .i64 a0_0,.int .i64 2,.int .i64 3] rfl (by (try simp only [mA1_,mC1_,mN1_]);first|done|rfl|(simp only [List.length_drop,List.length_take];rfl)) ?_;(with_reducible refine (spec_l00In.calls a0_0 2 3 true _ A2.out).mono ?_);rintro e w' ⟨rfl,⟨nd,rfl⟩⟩;refine ⟨_,rfl,?_⟩)|(go_at_call 47;(with_reducible refine (spec_l00In.calls a0_1 4 12 true _ A4.out).mono ?_);rintro e w' ⟨rfl,⟨nd,rfl⟩⟩))
    go_ret
    exact ⟨by first|rfl|(simp [errW_none,errW_some] <;> rfl)|(simp [*,errW_none,errW_some] <;> rfl),by repeat (first|(with_reducible first|exact HB.out|apply bA1_|apply bN1_|apply bD1_|refine bS1_ ?_ GE119.out)|exact HB.out)⟩
  ·replace c5 := Bool.eq_false_iff.mpr c5
   subst c5
   have H1:(some false)=some r:=by rw [if_neg (show ¬ (false=true) by decide)] at H;exact H
   clear H
   have H := H1
   clear H1
   obtain rfl := Option.some.inj H
   go_enter Try.func68, Try.ntmps68
   go_wp2_with (first|((with_reducible refine gate_dst (N:=1) rfl ?_);refine box_event ?hg (N:=1) ?hd (cs:=#[.int .i64 a0_0,.int .i64 a0_1,.int .i64 a0_2]) (t:=37) ?hr ?_;(case hd=>rfl);(case hg=>rfl);(case hr=>first|(go_simp;done)|(go_simp;rfl));intro gb119 hg w11 hbox hb;have n0_:=mk1_ (bT1_ (by repeat (first|(with_reducible first|exact HB.out|apply bA1_|apply bN1_|apply bD1_)|exact HB.out)) hb);have n1_:=mk1_ (hbox);have n2_:=mk1_ ((by rw [hg];exact (bZ1_ (by repeat (first|(with_reducible first|exact HB.out|apply bA1_|apply bN1_|apply bD1_)|exact HB.out))):w.heap.size≤gb119));have n3_:=mk1_ ((by rw [hg];exact (bZ1_ (by repeat (first|(with_reducible first|exact HB.out|apply bA1_|apply bN1_|apply bD1_)|exact HB.out))):w.heap.size≤gb119));clear HB;have HB:=n0_;have BK119:=n1_;have GW119:=n2_;have GE119:=n3_;clear n0_ n1_ n2_ n3_;clear hb hbox hg;have hcz12_0:w11.cell? ⟨gb119,0,none⟩=some (.int .i64 a0_0):=(blk_cell BK119.out 0).trans rfl;have hcz12_1:w11.cell? ⟨gb119,1,none⟩=some (.int .i64 a0_1):=(blk_cell BK119.out 1).trans rfl;have hcz12_2:w11.cell? ⟨gb119,2,none⟩=some (.int .i64 a0_2):=(blk_cell BK119.out 2).trans rfl;have hfz12_0:=fZ1_ BK119.out 0;have hfz12_1:=fZ1_ BK119.out 1;have hfz12_2:=fZ1_ BK119.out 2)|((with_reducible refine gate_callee (f:=47) rfl ?_);refine goesL_ (some 5) rfl rfl Try.func47 (by kernel_rfl) rfl #[.int .i64 a0_0,.int .i64 2,.int .i64 3] rfl (by (try simp only [mA1_,mC1_,mN1_]);first|done|rfl|(simp only [List.length_drop,List.length_take];rfl)) ?_;(with_reducible refine (spec_l00In.calls a0_0 2 3 true _ A2.out).mono ?_);rintro e w' ⟨rfl,⟨nd,rfl⟩⟩;refine ⟨_,rfl,?_⟩)|(go_at_call 47;(with_reducible refine (spec_l00In.calls a0_1 4 12 false _ A4.out).mono ?_);rintro e w' ⟨rfl,⟨nd,rfl⟩⟩))
   go_ret
   exact ⟨by first|rfl|(simp [errW_none,errW_some] <;> rfl)|(simp [*,errW_none,errW_some] <;> rfl),by repeat (first|(with_reducible first|exact HB.out|apply bA1_|apply bN1_|apply bD1_|refine bS1_ ?_ GE119.out)|exact HB.out)⟩
 ·replace c3 := Bool.eq_false_iff.mpr c3
  subst c3
  have H1:(some false)=some r:=by rw [if_neg (show ¬ (false=true) by decide)] at H;exact H
  clear H
  have H := H1
  clear H1
  obtain rfl := Option.some.inj H
  go_enter Try.func68, Try.ntmps68
  go_wp2_with (first|((with_reducible refine gate_dst (N:=1) rfl ?_);refine box_event ?hg (N:=1) ?hd (cs:=#[.int .i64 a0_0,.int .i64 a0_1,.int .i64 a0_2]) (t:=37) ?hr ?_;(case hd=>rfl);(case hg=>rfl);(case hr=>first|(go_simp;done)|(go_simp;rfl));intro gb119 hg w13 hbox hb;have n0_:=mk1_ (bT1_ (by repeat (first|(with_reducible first|exact HB.out|apply bA1_|apply bN1_|apply bD1_)|exact HB.out)) hb);have n1_:=mk1_ (hbox);have n2_:=mk1_ ((by rw [hg];exact (bZ1_ (by repeat (first|(with_reducible first|exact HB.out|apply bA1_|apply bN1_|apply bD1_)|exact HB.out))):w.heap.size≤gb119));have n3_:=mk1_ ((by rw [hg];exact (bZ1_ (by repeat (first|(with_reducible first|exact HB.out|apply bA1_|apply bN1_|apply bD1_)|exact HB.out))):w.heap.size≤gb119));clear HB;have HB:=n0_;have BK119:=n1_;have GW119:=n2_;have GE119:=n3_;clear n0_ n1_ n2_ n3_;clear hb hbox hg;have hcz14_0:w13.cell? ⟨gb119,0,none⟩=some (.int .i64 a0_0):=(blk_cell BK119.out 0).trans rfl;have hcz14_1:w13.cell? ⟨gb119,1,none⟩=some (.int .i64 a0_1):=(blk_cell BK119.out 1).trans rfl;have hcz14_2:w13.cell? ⟨gb119,2,none⟩=some (.int .i64 a0_2):=(blk_cell BK119.out 2).trans rfl;have hfz14_0:=fZ1_ BK119.out 0;have hfz14_1:=fZ1_ BK119.out 1;have hfz14_2:=fZ1_ BK119.out 2)|((with_reducible refine gate_callee (f:=47) rfl ?_);refine goesL_ (some 5) rfl rfl Try.func47 (by kernel_rfl) rfl #[.int .i64 a0_0,.int .i64 2,.int .i64 3] rfl (by (try simp only [mA1_,mC1_,mN1_]);first|done|rfl|(simp only [List.length_drop,List.length_take];rfl)) ?_;(with_reducible refine (spec_l00In.calls a0_0 2 3 false _ A2.out).mono ?_);rintro e w' ⟨rfl,⟨nd,rfl⟩⟩;refine ⟨_,rfl,?_⟩))
  go_ret
  exact ⟨by first|rfl|(simp [errW_none,errW_some] <;> rfl)|(simp [*,errW_none,errW_some] <;> rfl),by repeat (first|(with_reducible first|exact HB.out|apply bA1_|apply bN1_|apply bD1_|refine bS1_ ?_ GE119.out)|exact HB.out)⟩

end Go.Proofs.Ytajocpalpnpmdaa.Q
