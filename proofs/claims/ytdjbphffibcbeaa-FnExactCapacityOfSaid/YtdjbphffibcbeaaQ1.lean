/- The program's functions as Lean functions,and for each the proof that the machine's call comes to what its function says. Conditions: those that stand before each theorem. -/
import Derived.Test.YtdjbphffibcbeaaQ0
namespace Go.Proofs.Ytdjbphffibcbeaa.Q
open Go.RowKit Go.Proofs.YtdjbphffibcbeaaW.PrintWords Go.Proofs.YtdjbphffibcbeaaW.PrintLast Go.Proofs.YtdjbphffibcbeaaW.PrintMore
abbrev kN1_ := @blk_drewN
abbrev kD1_ := @blk_drew
abbrev rN1_ := @Kd.R_drewN
abbrev bA1_ := @below_alloc
abbrev bN1_ := @pw_below_drewN
abbrev bD1_ := @below_drew1
abbrev bS1_ := @below_set
abbrev mk1_ := @Aside0.mk
abbrev fZ1_ := @blk_frozen
abbrev sB1_ := @Kd.S_below
abbrev bT1_ := @below_step
abbrev bZ1_ := @below_size
set_option linter.unusedVariables false
set_option linter.unusedSimpArgs false

def laws_szStringS.l0 : Nat → List ByteArray → Int → Int → Option (Int)
 | 0, _, _, _ => none
 | k+1,x0,x1,x5=>if x5 < (x0.length:Int) then (if 0≤x5 then (if (wrap64 (x1 - ((rdOf ByteArray.empty x0 x5).size:Int))) < 0 then (some (-1)) else (laws_szStringS.l0 k x0 (wrap64 (x1 - ((rdOf ByteArray.empty x0 x5).size:Int))) (wrap64 (x5+1)))) else (none)) else (some x1)
def laws_szStringS.f (k:Nat) (l0:List ByteArray) (a1:Int):Option (Int):=if (wrap64 (a1 - (l0.length:Int))) < 0 then (some (-1)) else (laws_szStringS.l0 k l0 (wrap64 (a1 - (l0.length:Int))) 0)
set_option maxHeartbeats 8000000 in
set_option maxRecDepth 100000 in
theorem laws_szStringS.calls (k:Nat) (A0:Option Addr) (c0:Nat) (l0:List ByteArray) (a1:Int) (r:Int) (w:World) (hr0:Kd.C Kd.string w A0 l0.length l0) (hc0:l0.length≤c0) (h:laws_szStringS.f k l0 a1=some r) :
  Calls Try.prog 55 #[.slice A0 l0.length c0,.int .i64 a1] w fun e w'=>e=.returned (.int .i64 r)∧Drawn0 w w':=by
 have HR0 := Aside0.mk hr0
 have HC0 := Aside0.mk hc0
 clear hr0 hc0
 have H:(if (wrap64 (a1 - (l0.length:Int))) < 0 then (some (-1)) else (laws_szStringS.l0 k l0 (wrap64 (a1 - (l0.length:Int))) 0))=some r:=h
 clear h
 by_cases c3 : (wrap64 (a1 - (l0.length : Int))) < 0
 ·rw [if_pos c3] at H
  have c3b0 : decide ((wrap64 (a1 - (l0.length : Int))) < 0) = true := decide_eq_true c3
  clear c3
  obtain rfl := Option.some.inj H
  go_enter Try.func55, Try.ntmps55
  go_wp2
  go_ret
  exact ⟨by first|rfl|(simp;done)|(simp [*];done),by repeat (first|exact Drawn0.refl _|apply Drawn0.step)⟩
 ·rw [if_neg c3] at H
  have c3b0 : decide ((wrap64 (a1 - (l0.length : Int))) < 0) = false := decide_eq_false c3
  clear c3
  have H' := Aside0.mk H
  clear H
  go_enter Try.func55, Try.ntmps55
  go_wp2
  go_loopg [1,5] k (fun kq v1 v5 w'=>∃ (x1_1:Int) (x5_1:Int),v1=.int .i64 x1_1∧v5=.int .i64 x5_1∧Aside0 (laws_szStringS.l0 kq l0 x1_1 x5_1=some r)∧Aside0 (kq≤k)∧Drawn0 w w')
  case atStart=>exact ⟨(wrap64 (a1 - (l0.length:Int))),(0),(by first|rfl|(simp;done)|(simp [*];done)),(by first|rfl|(simp;done)|(simp [*];done)),H',⟨Nat.le_refl _⟩,by repeat (first|exact Drawn0.refl _|apply Drawn0.step)⟩
  case round =>
   clear H'
   try clear p2
   try clear c3
   try clear c3b0
   obtain ⟨x1_1, x5_1, rfl, rfl, HA, HK1, ⟨m1, rfl⟩⟩ := hrel
   cases gk with
   | zero => exact absurd HA.out (by simp [laws_szStringS.l0])
   | succ k1 =>
    have H := HA.out
    clear HA
    simp only [laws_szStringS.l0] at H
    by_cases c4 : x5_1 < (l0.length : Int)
    ·rw [if_pos c4] at H
     have c4b0 : decide (x5_1 < (l0.length : Int)) = true := decide_eq_true c4
     clear c4
     by_cases c5 : 0 ≤ x5_1
     ·rw [if_pos c5] at H
      have c5b0 : decide (0 ≤ x5_1) = true := decide_eq_true c5
      clear c5
      by_cases c6 : (wrap64 (x1_1 - ((rdOf ByteArray.empty l0 x5_1).size : Int))) < 0
      ·rw [if_pos c6] at H
       have c6b0:decide ((wrap64 (x1_1 - ((rdOf ByteArray.empty l0 x5_1).size:Int))) < 0)=true:=decide_eq_true c6
       clear c6
       obtain rfl := Option.some.inj H
       have p101:0≤(x5_1:Int):=of_decide_eq_true (by first|(with_reducible assumption)|assumption)
       have q101:x5_1 < (l0.length:Int):=of_decide_eq_true (by first|(with_reducible assumption)|assumption)
       obtain ⟨ad101, e101, hx101_0⟩ := Kd.at_string HR0.out x5_1 p101 q101
       cases e101
       replace p101 := eq_true p101
       replace q101 := eq_true q101
       go_wp2
       go_ret
       exact ⟨by first|rfl|(simp;done)|(simp [*];done),by repeat (first|exact Drawn0.refl _|apply Drawn0.step)⟩
      ·rw [if_neg c6] at H
       have c6b0:decide ((wrap64 (x1_1 - ((rdOf ByteArray.empty l0 x5_1).size:Int))) < 0)=false:=decide_eq_false c6
       clear c6
       have H' := Aside0.mk H
       clear H
       have p101:0≤(x5_1:Int):=of_decide_eq_true (by first|(with_reducible assumption)|assumption)
       have q101:x5_1 < (l0.length:Int):=of_decide_eq_true (by first|(with_reducible assumption)|assumption)
       obtain ⟨ad101, e101, hx101_0⟩ := Kd.at_string HR0.out x5_1 p101 q101
       cases e101
       replace p101 := eq_true p101
       replace q101 := eq_true q101
       go_wp2
       go_roundg k1
       case measure => have := HK1.out; omega
       case rel=>exact ⟨(wrap64 (x1_1 - ((rdOf ByteArray.empty l0 x5_1).size:Int))),(wrap64 (x5_1+1)),(by first|rfl|(simp;done)|(simp [*];done)),(by first|rfl|(simp;done)|(simp [*];done)),H',⟨by have:=HK1.out;omega⟩,by repeat (first|exact Drawn0.refl _|apply Drawn0.step)⟩
     ·rw [if_neg c5] at H
      exact absurd H (by simp)
    ·rw [if_neg c4] at H
     have c4b0 : decide (x5_1 < (l0.length : Int)) = false := decide_eq_false c4
     clear c4
     obtain rfl := Option.some.inj H
     go_wp2
     go_ret
     exact ⟨by first|rfl|(simp;done)|(simp [*];done),by repeat (first|exact Drawn0.refl _|apply Drawn0.step)⟩

def laws_szBlock.f (k:Nat) (a0_0:Int) (a0_1:Int) (a0_2:Bool) (l0_3:List ByteArray) (a1:Int):Option (Int):=(laws_szStringS.f k l0_3 a1).bind fun t103=>(if t103 < 0 then (some (-1)) else (some t103))
set_option maxHeartbeats 8000000 in
set_option maxRecDepth 100000 in
theorem laws_szBlock.calls (k:Nat) (a0_0:Int) (a0_1:Int) (a0_2:Bool) (A0_3:Option Addr) (c0_3:Nat) (l0_3:List ByteArray) (a1:Int) (r:Int) (w:World) (hr0_3:Kd.C Kd.string w A0_3 l0_3.length l0_3) (hc0_3:l0_3.length≤c0_3) (h:laws_szBlock.f k a0_0 a0_1 a0_2 l0_3 a1=some r) :
  Calls Try.prog 53 #[.agg #[.int .i64 a0_0,.int .i64 a0_1,.bool a0_2,.slice A0_3 l0_3.length c0_3],.int .i64 a1] w fun e w'=>e=.returned (.int .i64 r)∧Below w.heap.size w w':=by
 have hu83 := Try.underlying83
 have HR0_3 := Aside0.mk hr0_3
 have HC0_3 := Aside0.mk hc0_3
 clear hr0_3 hc0_3
 have HB := Aside0.mk (Below.refl w.heap.size w)
 have H:((laws_szStringS.f k l0_3 a1).bind fun t103=>(if t103 < 0 then (some (-1)) else (some t103)))=some r:=h
 clear h
 replace H := Option.bind_eq_some_iff.mp H
 obtain ⟨t103, A30, H⟩ := H
 replace H : (if t103 < 0 then (some (-1)) else (some t103)) = some r := H
 have A3 := Aside0.mk A30
 clear A30
 by_cases c4 : t103 < 0
 ·rw [if_pos c4] at H
  have c4b0 : decide (t103 < 0) = true := decide_eq_true c4
  clear c4
  obtain rfl := Option.some.inj H
  go_enter Try.func53, Try.ntmps53
  go_wp2_with (first|((with_reducible refine gate_dst (N:=2) rfl ?_);refine box_event ?hg (N:=2) ?hd (cs:=#[.int .i64 a0_0,.int .i64 a0_1,.bool a0_2,.slice A0_3 l0_3.length c0_3]) (t:=83) ?hr ?_;(case hd=>rfl);(case hg=>rfl);(case hr=>first|(go_simp;done)|(go_simp;rfl));intro gb102 hg w5 hbox hb;have n0_:=mk1_ (bT1_ (by repeat (first|(with_reducible first|exact HB.out|apply bA1_|apply bN1_|apply bD1_)|exact HB.out)) hb);have n1_:=mk1_ (hbox);have n2_:=mk1_ ((by rw [hg];exact (bZ1_ (by repeat (first|(with_reducible first|exact HB.out|apply bA1_|apply bN1_|apply bD1_)|exact HB.out))):w.heap.size≤gb102));have n3_:=mk1_ ((by rw [hg];exact (bZ1_ (by repeat (first|(with_reducible first|exact HB.out|apply bA1_|apply bN1_|apply bD1_)|exact HB.out))):w.heap.size≤gb102));clear HB;have HB:=n0_;have BK102:=n1_;have GW102:=n2_;have GE102:=n3_;clear n0_ n1_ n2_ n3_;clear hb hbox hg;have hcz6_0:w5.cell? ⟨gb102,0,none⟩=some (.int .i64 a0_0):=(blk_cell BK102.out 0).trans rfl;have hcz6_1:w5.cell? ⟨gb102,1,none⟩=some (.int .i64 a0_1):=(blk_cell BK102.out 1).trans rfl;have hcz6_2:w5.cell? ⟨gb102,2,none⟩=some (.bool a0_2):=(blk_cell BK102.out 2).trans rfl;have hcz6_3:w5.cell? ⟨gb102,3,none⟩=some (.slice A0_3 l0_3.length c0_3):=(blk_cell BK102.out 3).trans rfl;have hfz6_0:=fZ1_ BK102.out 0;have hfz6_1:=fZ1_ BK102.out 1;have hfz6_2:=fZ1_ BK102.out 2;have hfz6_3:=fZ1_ BK102.out 3)|((with_reducible refine gate_callee (f:=55) rfl ?_);refine goesL_ (some 8) rfl rfl Try.func55 (by kernel_rfl) rfl #[.slice A0_3 l0_3.length c0_3,.int .i64 a1] rfl (by (try simp only [List.map_toArray,List.map_cons,List.map_nil]);first|done|rfl|(simp only [List.length_drop,List.length_take];rfl)) ?_;(with_reducible refine (laws_szStringS.calls k _ _ l0_3 a1 t103 _ ?side1 ?side2 A3.out).mono ?_);(case side1=>repeat (first|exact (Kd.C_below HR0_3.out HB.out)|(with_reducible refine Kd.C_alloc ?_ _)|(with_reducible refine Kd.C_drewN ?_ _)|(with_reducible refine Kd.C_drew ?_)));(case side2=>exact HC0_3.out);rintro e w' ⟨rfl,⟨nd,rfl⟩⟩;refine ⟨_,rfl,?_⟩))
  go_ret
  exact ⟨by first|rfl|(simp [errW_none,errW_some] <;> rfl)|(simp [*,errW_none,errW_some] <;> rfl),by repeat (first|(with_reducible first|exact HB.out|apply bA1_|apply bN1_|apply bD1_|refine bS1_ ?_ GE102.out)|exact HB.out)⟩
 ·rw [if_neg c4] at H
  have c4b0 : decide (t103 < 0) = false := decide_eq_false c4
  clear c4
  obtain rfl := Option.some.inj H
  go_enter Try.func53, Try.ntmps53
  go_wp2_with (first|((with_reducible refine gate_dst (N:=2) rfl ?_);refine box_event ?hg (N:=2) ?hd (cs:=#[.int .i64 a0_0,.int .i64 a0_1,.bool a0_2,.slice A0_3 l0_3.length c0_3]) (t:=83) ?hr ?_;(case hd=>rfl);(case hg=>rfl);(case hr=>first|(go_simp;done)|(go_simp;rfl));intro gb102 hg w7 hbox hb;have n0_:=mk1_ (bT1_ (by repeat (first|(with_reducible first|exact HB.out|apply bA1_|apply bN1_|apply bD1_)|exact HB.out)) hb);have n1_:=mk1_ (hbox);have n2_:=mk1_ ((by rw [hg];exact (bZ1_ (by repeat (first|(with_reducible first|exact HB.out|apply bA1_|apply bN1_|apply bD1_)|exact HB.out))):w.heap.size≤gb102));have n3_:=mk1_ ((by rw [hg];exact (bZ1_ (by repeat (first|(with_reducible first|exact HB.out|apply bA1_|apply bN1_|apply bD1_)|exact HB.out))):w.heap.size≤gb102));clear HB;have HB:=n0_;have BK102:=n1_;have GW102:=n2_;have GE102:=n3_;clear n0_ n1_ n2_ n3_;clear hb hbox hg;have hcz8_0:w7.cell? ⟨gb102,0,none⟩=some (.int .i64 a0_0):=(blk_cell BK102.out 0).trans rfl;have hcz8_1:w7.cell? ⟨gb102,1,none⟩=some (.int .i64 a0_1):=(blk_cell BK102.out 1).trans rfl;have hcz8_2:w7.cell? ⟨gb102,2,none⟩=some (.bool a0_2):=(blk_cell BK102.out 2).trans rfl;have hcz8_3:w7.cell? ⟨gb102,3,none⟩=some (.slice A0_3 l0_3.length c0_3):=(blk_cell BK102.out 3).trans rfl;have hfz8_0:=fZ1_ BK102.out 0;have hfz8_1:=fZ1_ BK102.out 1;have hfz8_2:=fZ1_ BK102.out 2;have hfz8_3:=fZ1_ BK102.out 3)|((with_reducible refine gate_callee (f:=55) rfl ?_);refine goesL_ (some 8) rfl rfl Try.func55 (by kernel_rfl) rfl #[.slice A0_3 l0_3.length c0_3,.int .i64 a1] rfl (by (try simp only [List.map_toArray,List.map_cons,List.map_nil]);first|done|rfl|(simp only [List.length_drop,List.length_take];rfl)) ?_;(with_reducible refine (laws_szStringS.calls k _ _ l0_3 a1 t103 _ ?side1 ?side2 A3.out).mono ?_);(case side1=>repeat (first|exact (Kd.C_below HR0_3.out HB.out)|(with_reducible refine Kd.C_alloc ?_ _)|(with_reducible refine Kd.C_drewN ?_ _)|(with_reducible refine Kd.C_drew ?_)));(case side2=>exact HC0_3.out);rintro e w' ⟨rfl,⟨nd,rfl⟩⟩;refine ⟨_,rfl,?_⟩))
  go_ret
  exact ⟨by first|rfl|(simp [errW_none,errW_some] <;> rfl)|(simp [*,errW_none,errW_some] <;> rfl),by repeat (first|(with_reducible first|exact HB.out|apply bA1_|apply bN1_|apply bD1_|refine bS1_ ?_ GE102.out)|exact HB.out)⟩

def laws_szBlockS.l0 : Nat → List (S83) → Int → Int → Option (Int)
 | 0, _, _, _ => none
 | k+1,x0,x1,x5=>if x5 < (x0.length:Int) then (if 0≤x5 then ((laws_szBlock.f k ((rd_T83 x0 x5).f0) ((rd_T83 x0 x5).f1) ((rd_T83 x0 x5).f2) ((rd_T83 x0 x5).f3) x1).bind fun t105=>(if t105 < 0 then (some (-1)) else (laws_szBlockS.l0 k x0 t105 (wrap64 (x5+1))))) else (none)) else (some x1)
def laws_szBlockS.f (k:Nat) (l0:List (S83)) (a1:Int):Option (Int):=if (wrap64 (a1 - (l0.length:Int))) < 0 then (some (-1)) else (laws_szBlockS.l0 k l0 (wrap64 (a1 - (l0.length:Int))) 0)
set_option maxHeartbeats 8000000 in
set_option maxRecDepth 100000 in
theorem laws_szBlockS.calls (k:Nat) (A0:Option Addr) (c0:Nat) (l0:List (S83)) (a1:Int) (r:Int) (w:World) (hr0:Kd.C k83 w A0 l0.length l0) (hc0:l0.length≤c0) (h:laws_szBlockS.f k l0 a1=some r) :
  Calls Try.prog 30 #[.slice A0 l0.length c0,.int .i64 a1] w fun e w'=>e=.returned (.int .i64 r)∧Below w.heap.size w w':=by
 have hu83 := Try.underlying83
 have HR0 := Aside0.mk hr0
 have HC0 := Aside0.mk hc0
 clear hr0 hc0
 have HB := Aside0.mk (Below.refl w.heap.size w)
 have H:(if (wrap64 (a1 - (l0.length:Int))) < 0 then (some (-1)) else (laws_szBlockS.l0 k l0 (wrap64 (a1 - (l0.length:Int))) 0))=some r:=h
 clear h
 by_cases c3 : (wrap64 (a1 - (l0.length : Int))) < 0
 ·rw [if_pos c3] at H
  have c3b0 : decide ((wrap64 (a1 - (l0.length : Int))) < 0) = true := decide_eq_true c3
  clear c3
  obtain rfl := Option.some.inj H
  go_enter Try.func30, Try.ntmps30
  go_wp2
  go_ret
  exact ⟨by first|rfl|(simp [errW_none,errW_some] <;> rfl)|(simp [*,errW_none,errW_some] <;> rfl),by repeat (first|(with_reducible first|exact HB.out|apply bA1_|apply bN1_|apply bD1_)|exact HB.out)⟩
 ·rw [if_neg c3] at H
  have c3b0 : decide ((wrap64 (a1 - (l0.length : Int))) < 0) = false := decide_eq_false c3
  clear c3
  have H' := Aside0.mk H
  clear H
  go_enter Try.func30, Try.ntmps30
  go_wp2
  go_loopg [1,5] k (fun kq v1 v5 w'=>∃ (x1_1:Int) (x5_1:Int),v1=.int .i64 x1_1∧v5=.int .i64 x5_1∧Aside0 (laws_szBlockS.l0 kq l0 x1_1 x5_1=some r)∧Aside0 (kq≤k)∧Aside0 (Below w.heap.size w w'))
  case atStart=>exact ⟨(wrap64 (a1 - (l0.length:Int))),(0),(by first|rfl|(simp;done)|(simp [*];done)),(by first|rfl|(simp;done)|(simp [*];done)),H',⟨Nat.le_refl _⟩,⟨by repeat (first|(with_reducible first|exact HB.out|apply bA1_|apply bN1_|apply bD1_)|exact HB.out)⟩⟩
  case round =>
   clear H'
   try clear p2
   try clear c3
   try clear c3b0
   obtain ⟨x1_1, x5_1, rfl, rfl, HA, HK1, HB⟩ := hrel
   cases gk with
   | zero => exact absurd HA.out (by simp [laws_szBlockS.l0])
   | succ k1 =>
    have H := HA.out
    clear HA
    simp only [laws_szBlockS.l0] at H
    by_cases c4 : x5_1 < (l0.length : Int)
    ·rw [if_pos c4] at H
     have c4b0 : decide (x5_1 < (l0.length : Int)) = true := decide_eq_true c4
     clear c4
     by_cases c5 : 0 ≤ x5_1
     ·rw [if_pos c5] at H
      have c5b0 : decide (0 ≤ x5_1) = true := decide_eq_true c5
      clear c5
      replace H := Option.bind_eq_some_iff.mp H
      obtain ⟨t105, A60, H⟩ := H
      replace H:(if t105 < 0 then (some (-1)) else (laws_szBlockS.l0 k1 l0 t105 (wrap64 (x5_1+1))))=some r:=H
      have A6 := Aside0.mk A60
      clear A60
      by_cases c7 : t105 < 0
      ·rw [if_pos c7] at H
       have c7b0 : decide (t105 < 0) = true := decide_eq_true c7
       clear c7
       obtain rfl := Option.some.inj H
       have p104:0≤(x5_1:Int):=of_decide_eq_true (by first|(with_reducible assumption)|assumption)
       have q104:x5_1 < (l0.length:Int):=of_decide_eq_true (by first|(with_reducible assumption)|assumption)
       obtain ⟨ad104,A104_3,c104_3,e104,hx104_0,hx104_1,hx104_2,hx104_3,hl104_3,hi104_3⟩:=at_T83 HR0.out x5_1 p104 q104
       cases e104
       replace hx104_0 := (HB.out.cell (World.block_lt_of_cell? w _ hx104_0)).trans hx104_0
       replace hx104_1 := (HB.out.cell (World.block_lt_of_cell? w _ hx104_1)).trans hx104_1
       replace hx104_2 := (HB.out.cell (World.block_lt_of_cell? w _ hx104_2)).trans hx104_2
       replace hx104_3 := (HB.out.cell (World.block_lt_of_cell? w _ hx104_3)).trans hx104_3
       have HR104_3 := Aside0.mk hi104_3
       have HC104_3 := Aside0.mk hl104_3
       clear hi104_3 hl104_3
       replace p104 := eq_true p104
       replace q104 := eq_true q104
       go_wp2_with (first|((with_reducible refine gate_callee (f:=53) rfl ?_);refine goesL_ (some 23) rfl rfl Try.func53 (by kernel_rfl) rfl #[.agg #[.int .i64 ((rd_T83 l0 x5_1).f0),.int .i64 ((rd_T83 l0 x5_1).f1),.bool ((rd_T83 l0 x5_1).f2),.slice A104_3 ((rd_T83 l0 x5_1).f3).length c104_3],.int .i64 x1_1] rfl (by (try simp only [List.map_toArray,List.map_cons,List.map_nil]);first|done|rfl|(simp only [List.length_drop,List.length_take];rfl)) ?_;(with_reducible refine (laws_szBlock.calls k1 ((rd_T83 l0 x5_1).f0) ((rd_T83 l0 x5_1).f1) ((rd_T83 l0 x5_1).f2) _ _ ((rd_T83 l0 x5_1).f3) x1_1 t105 _ ?side1 ?side2 A6.out).mono ?_);(case side1=>repeat (first|exact (Kd.C_below HR104_3.out HB.out)|(with_reducible refine Kd.C_alloc ?_ _)|(with_reducible refine Kd.C_drewN ?_ _)|(with_reducible refine Kd.C_drew ?_)));(case side2=>exact HC104_3.out);rintro e w8 ⟨rfl,hb⟩;refine ⟨_,rfl,?_⟩;have n0_:=mk1_ (bT1_ (by repeat (first|(with_reducible first|exact HB.out|apply bA1_|apply bN1_|apply bD1_)|exact HB.out)) hb);clear HB;have HB:=n0_;clear n0_;(try clear hb);(try clear hb2);(try clear hk);(try clear hi)))
       go_ret
       exact ⟨by first|rfl|(simp [errW_none,errW_some] <;> rfl)|(simp [*,errW_none,errW_some] <;> rfl),by repeat (first|(with_reducible first|exact HB.out|apply bA1_|apply bN1_|apply bD1_)|exact HB.out)⟩
      ·rw [if_neg c7] at H
       have c7b0 : decide (t105 < 0) = false := decide_eq_false c7
       clear c7
       have H' := Aside0.mk H
       clear H
       have p104:0≤(x5_1:Int):=of_decide_eq_true (by first|(with_reducible assumption)|assumption)
       have q104:x5_1 < (l0.length:Int):=of_decide_eq_true (by first|(with_reducible assumption)|assumption)
       obtain ⟨ad104,A104_3,c104_3,e104,hx104_0,hx104_1,hx104_2,hx104_3,hl104_3,hi104_3⟩:=at_T83 HR0.out x5_1 p104 q104
       cases e104
       replace hx104_0 := (HB.out.cell (World.block_lt_of_cell? w _ hx104_0)).trans hx104_0
       replace hx104_1 := (HB.out.cell (World.block_lt_of_cell? w _ hx104_1)).trans hx104_1
       replace hx104_2 := (HB.out.cell (World.block_lt_of_cell? w _ hx104_2)).trans hx104_2
       replace hx104_3 := (HB.out.cell (World.block_lt_of_cell? w _ hx104_3)).trans hx104_3
       have HR104_3 := Aside0.mk hi104_3
       have HC104_3 := Aside0.mk hl104_3
       clear hi104_3 hl104_3
       replace p104 := eq_true p104
       replace q104 := eq_true q104
       go_wp2_with (first|((with_reducible refine gate_callee (f:=53) rfl ?_);refine goesL_ (some 23) rfl rfl Try.func53 (by kernel_rfl) rfl #[.agg #[.int .i64 ((rd_T83 l0 x5_1).f0),.int .i64 ((rd_T83 l0 x5_1).f1),.bool ((rd_T83 l0 x5_1).f2),.slice A104_3 ((rd_T83 l0 x5_1).f3).length c104_3],.int .i64 x1_1] rfl (by (try simp only [List.map_toArray,List.map_cons,List.map_nil]);first|done|rfl|(simp only [List.length_drop,List.length_take];rfl)) ?_;(with_reducible refine (laws_szBlock.calls k1 ((rd_T83 l0 x5_1).f0) ((rd_T83 l0 x5_1).f1) ((rd_T83 l0 x5_1).f2) _ _ ((rd_T83 l0 x5_1).f3) x1_1 t105 _ ?side1 ?side2 A6.out).mono ?_);(case side1=>repeat (first|exact (Kd.C_below HR104_3.out HB.out)|(with_reducible refine Kd.C_alloc ?_ _)|(with_reducible refine Kd.C_drewN ?_ _)|(with_reducible refine Kd.C_drew ?_)));(case side2=>exact HC104_3.out);rintro e w9 ⟨rfl,hb⟩;refine ⟨_,rfl,?_⟩;have n0_:=mk1_ (bT1_ (by repeat (first|(with_reducible first|exact HB.out|apply bA1_|apply bN1_|apply bD1_)|exact HB.out)) hb);clear HB;have HB:=n0_;clear n0_;(try clear hb);(try clear hb2);(try clear hk);(try clear hi)))
       go_roundg k1
       case measure => have := HK1.out; omega
       case rel=>exact ⟨(t105),(wrap64 (x5_1+1)),(by first|rfl|(simp;done)|(simp [*];done)),(by first|rfl|(simp;done)|(simp [*];done)),H',⟨by have:=HK1.out;omega⟩,⟨by repeat (first|(with_reducible first|exact HB.out|apply bA1_|apply bN1_|apply bD1_)|exact HB.out)⟩⟩
     ·rw [if_neg c5] at H
      exact absurd H (by simp)
    ·rw [if_neg c4] at H
     have c4b0 : decide (x5_1 < (l0.length : Int)) = false := decide_eq_false c4
     clear c4
     obtain rfl := Option.some.inj H
     go_wp2
     go_ret
     exact ⟨by first|rfl|(simp [errW_none,errW_some] <;> rfl)|(simp [*,errW_none,errW_some] <;> rfl),by repeat (first|(with_reducible first|exact HB.out|apply bA1_|apply bN1_|apply bD1_)|exact HB.out)⟩

def laws_szFlash.f (k:Nat) (a0_0:Int) (a0_1:Int) (a0_2:Int) (l0_3:List (S83)) (a0_4:Int) (a0_5:Int) (a0_6:Bool) (a0_7:Int) (a1:Int):Option (Int):=(laws_szBlockS.f k l0_3 a1).bind fun t107=>(if t107 < 0 then (some (-1)) else (some t107))
set_option maxHeartbeats 8000000 in
set_option maxRecDepth 100000 in
theorem laws_szFlash.calls (k:Nat) (a0_0:Int) (a0_1:Int) (a0_2:Int) (A0_3:Option Addr) (c0_3:Nat) (l0_3:List (S83)) (a0_4:Int) (a0_5:Int) (a0_6:Bool) (a0_7:Int) (a1:Int) (r:Int) (w:World) (hr0_3:Kd.C k83 w A0_3 l0_3.length l0_3) (hc0_3:l0_3.length≤c0_3) (h:laws_szFlash.f k a0_0 a0_1 a0_2 l0_3 a0_4 a0_5 a0_6 a0_7 a1=some r) :
  Calls Try.prog 12 #[.agg #[.int .i64 a0_0,.int .i64 a0_1,.int .i64 a0_2,.slice A0_3 l0_3.length c0_3,.int .i64 a0_4,.int .i64 a0_5,.bool a0_6,.int .i64 a0_7],.int .i64 a1] w fun e w'=>e=.returned (.int .i64 r)∧Below w.heap.size w w':=by
 have hu26 := Try.underlying26
 have HR0_3 := Aside0.mk hr0_3
 have HC0_3 := Aside0.mk hc0_3
 clear hr0_3 hc0_3
 have HB := Aside0.mk (Below.refl w.heap.size w)
 have H:((laws_szBlockS.f k l0_3 a1).bind fun t107=>(if t107 < 0 then (some (-1)) else (some t107)))=some r:=h
 clear h
 replace H := Option.bind_eq_some_iff.mp H
 obtain ⟨t107, A30, H⟩ := H
 replace H : (if t107 < 0 then (some (-1)) else (some t107)) = some r := H
 have A3 := Aside0.mk A30
 clear A30
 by_cases c4 : t107 < 0
 ·rw [if_pos c4] at H
  have c4b0 : decide (t107 < 0) = true := decide_eq_true c4
  clear c4
  obtain rfl := Option.some.inj H
  go_enter Try.func12, Try.ntmps12
  go_wp2_with (first|((with_reducible refine gate_dst (N:=2) rfl ?_);refine box_event ?hg (N:=2) ?hd (cs:=#[.int .i64 a0_0,.int .i64 a0_1,.int .i64 a0_2,.slice A0_3 l0_3.length c0_3,.int .i64 a0_4,.int .i64 a0_5,.bool a0_6,.int .i64 a0_7]) (t:=26) ?hr ?_;(case hd=>rfl);(case hg=>rfl);(case hr=>first|(go_simp;done)|(go_simp;rfl));intro gb106 hg w5 hbox hb;have n0_:=mk1_ (bT1_ (by repeat (first|(with_reducible first|exact HB.out|apply bA1_|apply bN1_|apply bD1_)|exact HB.out)) hb);have n1_:=mk1_ (hbox);have n2_:=mk1_ ((by rw [hg];exact (bZ1_ (by repeat (first|(with_reducible first|exact HB.out|apply bA1_|apply bN1_|apply bD1_)|exact HB.out))):w.heap.size≤gb106));have n3_:=mk1_ ((by rw [hg];exact (bZ1_ (by repeat (first|(with_reducible first|exact HB.out|apply bA1_|apply bN1_|apply bD1_)|exact HB.out))):w.heap.size≤gb106));clear HB;have HB:=n0_;have BK106:=n1_;have GW106:=n2_;have GE106:=n3_;clear n0_ n1_ n2_ n3_;clear hb hbox hg;have hcz6_0:w5.cell? ⟨gb106,0,none⟩=some (.int .i64 a0_0):=(blk_cell BK106.out 0).trans rfl;have hcz6_1:w5.cell? ⟨gb106,1,none⟩=some (.int .i64 a0_1):=(blk_cell BK106.out 1).trans rfl;have hcz6_2:w5.cell? ⟨gb106,2,none⟩=some (.int .i64 a0_2):=(blk_cell BK106.out 2).trans rfl;have hcz6_3:w5.cell? ⟨gb106,3,none⟩=some (.slice A0_3 l0_3.length c0_3):=(blk_cell BK106.out 3).trans rfl;have hcz6_4:w5.cell? ⟨gb106,4,none⟩=some (.int .i64 a0_4):=(blk_cell BK106.out 4).trans rfl;have hcz6_5:w5.cell? ⟨gb106,5,none⟩=some (.int .i64 a0_5):=(blk_cell BK106.out 5).trans rfl;have hcz6_6:w5.cell? ⟨gb106,6,none⟩=some (.bool a0_6):=(blk_cell BK106.out 6).trans rfl;have hcz6_7:w5.cell? ⟨gb106,7,none⟩=some (.int .i64 a0_7):=(blk_cell BK106.out 7).trans rfl;have hfz6_0:=fZ1_ BK106.out 0;have hfz6_1:=fZ1_ BK106.out 1;have hfz6_2:=fZ1_ BK106.out 2;have hfz6_3:=fZ1_ BK106.out 3;have hfz6_4:=fZ1_ BK106.out 4;have hfz6_5:=fZ1_ BK106.out 5;have hfz6_6:=fZ1_ BK106.out 6;have hfz6_7:=fZ1_ BK106.out 7)|((with_reducible refine gate_callee (f:=30) rfl ?_);refine goesL_ (some 8) rfl rfl Try.func30 (by kernel_rfl) rfl #[.slice A0_3 l0_3.length c0_3,.int .i64 a1] rfl (by (try simp only [List.map_toArray,List.map_cons,List.map_nil]);first|done|rfl|(simp only [List.length_drop,List.length_take];rfl)) ?_;(with_reducible refine (laws_szBlockS.calls k _ _ l0_3 a1 t107 _ ?side1 ?side2 A3.out).mono ?_);(case side1=>repeat (first|exact (Kd.C_below HR0_3.out HB.out)|(with_reducible refine Kd.C_alloc ?_ _)|(with_reducible refine Kd.C_drewN ?_ _)|(with_reducible refine Kd.C_drew ?_)));(case side2=>exact HC0_3.out);rintro e w7 ⟨rfl,hb⟩;refine ⟨_,rfl,?_⟩;have n0_:=mk1_ (blk_below (g:=gb106) (o:=.cells #[.int .i64 a0_0,.int .i64 a0_1,.int .i64 a0_2,.slice A0_3 l0_3.length c0_3,.int .i64 a0_4,.int .i64 a0_5,.bool a0_6,.int .i64 a0_7] 26 (0,0)) (by (with_reducible repeat (first|refine kN1_ ?_ _|refine kD1_ ?_|refine blk_alloc ?_ _));exact BK106.out) hb);have n1_:=mk1_ (bT1_ (by repeat (first|(with_reducible first|exact HB.out|apply bA1_|apply bN1_|apply bD1_|refine bS1_ ?_ GE106.out)|exact HB.out)) hb);clear BK106;clear HB;have BK106:=n0_;have HB:=n1_;clear n0_ n1_;(try clear hb);(try clear hb2);(try clear hk);(try clear hi)))
  go_ret
  exact ⟨by first|rfl|(simp [errW_none,errW_some] <;> rfl)|(simp [*,errW_none,errW_some] <;> rfl),by repeat (first|(with_reducible first|exact HB.out|apply bA1_|apply bN1_|apply bD1_|refine bS1_ ?_ GE106.out)|exact HB.out)⟩
 ·rw [if_neg c4] at H
  have c4b0 : decide (t107 < 0) = false := decide_eq_false c4
  clear c4
  obtain rfl := Option.some.inj H
  go_enter Try.func12, Try.ntmps12
  go_wp2_with (first|((with_reducible refine gate_dst (N:=2) rfl ?_);refine box_event ?hg (N:=2) ?hd (cs:=#[.int .i64 a0_0,.int .i64 a0_1,.int .i64 a0_2,.slice A0_3 l0_3.length c0_3,.int .i64 a0_4,.int .i64 a0_5,.bool a0_6,.int .i64 a0_7]) (t:=26) ?hr ?_;(case hd=>rfl);(case hg=>rfl);(case hr=>first|(go_simp;done)|(go_simp;rfl));intro gb106 hg w8 hbox hb;have n0_:=mk1_ (bT1_ (by repeat (first|(with_reducible first|exact HB.out|apply bA1_|apply bN1_|apply bD1_)|exact HB.out)) hb);have n1_:=mk1_ (hbox);have n2_:=mk1_ ((by rw [hg];exact (bZ1_ (by repeat (first|(with_reducible first|exact HB.out|apply bA1_|apply bN1_|apply bD1_)|exact HB.out))):w.heap.size≤gb106));have n3_:=mk1_ ((by rw [hg];exact (bZ1_ (by repeat (first|(with_reducible first|exact HB.out|apply bA1_|apply bN1_|apply bD1_)|exact HB.out))):w.heap.size≤gb106));clear HB;have HB:=n0_;have BK106:=n1_;have GW106:=n2_;have GE106:=n3_;clear n0_ n1_ n2_ n3_;clear hb hbox hg;have hcz9_0:w8.cell? ⟨gb106,0,none⟩=some (.int .i64 a0_0):=(blk_cell BK106.out 0).trans rfl;have hcz9_1:w8.cell? ⟨gb106,1,none⟩=some (.int .i64 a0_1):=(blk_cell BK106.out 1).trans rfl;have hcz9_2:w8.cell? ⟨gb106,2,none⟩=some (.int .i64 a0_2):=(blk_cell BK106.out 2).trans rfl;have hcz9_3:w8.cell? ⟨gb106,3,none⟩=some (.slice A0_3 l0_3.length c0_3):=(blk_cell BK106.out 3).trans rfl;have hcz9_4:w8.cell? ⟨gb106,4,none⟩=some (.int .i64 a0_4):=(blk_cell BK106.out 4).trans rfl;have hcz9_5:w8.cell? ⟨gb106,5,none⟩=some (.int .i64 a0_5):=(blk_cell BK106.out 5).trans rfl;have hcz9_6:w8.cell? ⟨gb106,6,none⟩=some (.bool a0_6):=(blk_cell BK106.out 6).trans rfl;have hcz9_7:w8.cell? ⟨gb106,7,none⟩=some (.int .i64 a0_7):=(blk_cell BK106.out 7).trans rfl;have hfz9_0:=fZ1_ BK106.out 0;have hfz9_1:=fZ1_ BK106.out 1;have hfz9_2:=fZ1_ BK106.out 2;have hfz9_3:=fZ1_ BK106.out 3;have hfz9_4:=fZ1_ BK106.out 4;have hfz9_5:=fZ1_ BK106.out 5;have hfz9_6:=fZ1_ BK106.out 6;have hfz9_7:=fZ1_ BK106.out 7)|((with_reducible refine gate_callee (f:=30) rfl ?_);refine goesL_ (some 8) rfl rfl Try.func30 (by kernel_rfl) rfl #[.slice A0_3 l0_3.length c0_3,.int .i64 a1] rfl (by (try simp only [List.map_toArray,List.map_cons,List.map_nil]);first|done|rfl|(simp only [List.length_drop,List.length_take];rfl)) ?_;(with_reducible refine (laws_szBlockS.calls k _ _ l0_3 a1 t107 _ ?side1 ?side2 A3.out).mono ?_);(case side1=>repeat (first|exact (Kd.C_below HR0_3.out HB.out)|(with_reducible refine Kd.C_alloc ?_ _)|(with_reducible refine Kd.C_drewN ?_ _)|(with_reducible refine Kd.C_drew ?_)));(case side2=>exact HC0_3.out);rintro e w10 ⟨rfl,hb⟩;refine ⟨_,rfl,?_⟩;have n0_:=mk1_ (blk_below (g:=gb106) (o:=.cells #[.int .i64 a0_0,.int .i64 a0_1,.int .i64 a0_2,.slice A0_3 l0_3.length c0_3,.int .i64 a0_4,.int .i64 a0_5,.bool a0_6,.int .i64 a0_7] 26 (0,0)) (by (with_reducible repeat (first|refine kN1_ ?_ _|refine kD1_ ?_|refine blk_alloc ?_ _));exact BK106.out) hb);have n1_:=mk1_ (bT1_ (by repeat (first|(with_reducible first|exact HB.out|apply bA1_|apply bN1_|apply bD1_|refine bS1_ ?_ GE106.out)|exact HB.out)) hb);clear BK106;clear HB;have BK106:=n0_;have HB:=n1_;clear n0_ n1_;(try clear hb);(try clear hb2);(try clear hk);(try clear hi)))
  go_ret
  exact ⟨by first|rfl|(simp [errW_none,errW_some] <;> rfl)|(simp [*,errW_none,errW_some] <;> rfl),by repeat (first|(with_reducible first|exact HB.out|apply bA1_|apply bN1_|apply bD1_|refine bS1_ ?_ GE106.out)|exact HB.out)⟩

def laws_szInt64S.f (l0:List Int) (a1:Int):Option (Int):=if (wrap64 (a1 - (l0.length:Int))) < 0 then (some (-1)) else (some (wrap64 (a1 - (l0.length:Int))))
set_option maxHeartbeats 8000000 in
set_option maxRecDepth 100000 in
theorem laws_szInt64S.calls (A0:Option Addr) (c0:Nat) (l0:List Int) (a1:Int) (r:Int) (w:World) (hr0:Kd.C (Kd.int .i64) w A0 l0.length l0) (hc0:l0.length≤c0) (h:laws_szInt64S.f l0 a1=some r) :
  Calls Try.prog 54 #[.slice A0 l0.length c0,.int .i64 a1] w fun e w'=>e=.returned (.int .i64 r)∧Drawn0 w w':=by
 have HR0 := Aside0.mk hr0
 have HC0 := Aside0.mk hc0
 clear hr0 hc0
 have H:(if (wrap64 (a1 - (l0.length:Int))) < 0 then (some (-1)) else (some (wrap64 (a1 - (l0.length:Int)))))=some r:=h
 clear h
 by_cases c3 : (wrap64 (a1 - (l0.length : Int))) < 0
 ·rw [if_pos c3] at H
  have c3b0 : decide ((wrap64 (a1 - (l0.length : Int))) < 0) = true := decide_eq_true c3
  clear c3
  obtain rfl := Option.some.inj H
  go_enter Try.func54, Try.ntmps54
  go_wp2
  go_ret
  exact ⟨by first|rfl|(simp;done)|(simp [*];done),by repeat (first|exact Drawn0.refl _|apply Drawn0.step)⟩
 ·rw [if_neg c3] at H
  have c3b0 : decide ((wrap64 (a1 - (l0.length : Int))) < 0) = false := decide_eq_false c3
  clear c3
  obtain rfl := Option.some.inj H
  go_enter Try.func54, Try.ntmps54
  go_wp2
  go_ret
  exact ⟨by first|rfl|(simp;done)|(simp [*];done),by repeat (first|exact Drawn0.refl _|apply Drawn0.step)⟩

def laws_szZone.f (k:Nat) (a0_0:Int) (l0_1:List Int) (a0_2:Int) (a0_3:Int) (l0_4:List Int) (l0_5:List ByteArray) (a1:Int):Option (Int):=(laws_szInt64S.f l0_1 a1).bind fun t109=>(if t109 < 0 then (some (-1)) else ((laws_szInt64S.f l0_4 t109).bind fun t110=>(if t110 < 0 then (some (-1)) else ((laws_szStringS.f k l0_5 t110).bind fun t111=>(if t111 < 0 then (some (-1)) else (some t111))))))
set_option maxHeartbeats 8000000 in
set_option maxRecDepth 100000 in
theorem laws_szZone.calls (k:Nat) (a0_0:Int) (A0_1:Option Addr) (c0_1:Nat) (l0_1:List Int) (a0_2:Int) (a0_3:Int) (A0_4:Option Addr) (c0_4:Nat) (l0_4:List Int) (A0_5:Option Addr) (c0_5:Nat) (l0_5:List ByteArray) (a1:Int) (r:Int) (w:World) (hr0_1:Kd.C (Kd.int .i64) w A0_1 l0_1.length l0_1) (hc0_1:l0_1.length≤c0_1) (hr0_4:Kd.C (Kd.int .i64) w A0_4 l0_4.length l0_4) (hc0_4:l0_4.length≤c0_4) (hr0_5:Kd.C Kd.string w A0_5 l0_5.length l0_5) (hc0_5:l0_5.length≤c0_5) (h:laws_szZone.f k a0_0 l0_1 a0_2 a0_3 l0_4 l0_5 a1=some r) :
  Calls Try.prog 31 #[.agg #[.int .i64 a0_0,.slice A0_1 l0_1.length c0_1,.int .i64 a0_2,.int .i64 a0_3,.slice A0_4 l0_4.length c0_4,.slice A0_5 l0_5.length c0_5],.int .i64 a1] w fun e w'=>e=.returned (.int .i64 r)∧Below w.heap.size w w':=by
 have hu64 := Try.underlying64
 have HR0_1 := Aside0.mk hr0_1
 have HC0_1 := Aside0.mk hc0_1
 clear hr0_1 hc0_1
 have HR0_4 := Aside0.mk hr0_4
 have HC0_4 := Aside0.mk hc0_4
 clear hr0_4 hc0_4
 have HR0_5 := Aside0.mk hr0_5
 have HC0_5 := Aside0.mk hc0_5
 clear hr0_5 hc0_5
 have HB := Aside0.mk (Below.refl w.heap.size w)
 have H:((laws_szInt64S.f l0_1 a1).bind fun t109=>(if t109 < 0 then (some (-1)) else ((laws_szInt64S.f l0_4 t109).bind fun t110=>(if t110 < 0 then (some (-1)) else ((laws_szStringS.f k l0_5 t110).bind fun t111=>(if t111 < 0 then (some (-1)) else (some t111)))))))=some r:=h
 clear h
 replace H := Option.bind_eq_some_iff.mp H
 obtain ⟨t109, A30, H⟩ := H
 replace H:(if t109 < 0 then (some (-1)) else ((laws_szInt64S.f l0_4 t109).bind fun t110=>(if t110 < 0 then (some (-1)) else ((laws_szStringS.f k l0_5 t110).bind fun t111=>(if t111 < 0 then (some (-1)) else (some t111))))))=some r:=H
 have A3 := Aside0.mk A30
 clear A30
 by_cases c4 : t109 < 0
 ·rw [if_pos c4] at H
  have c4b0 : decide (t109 < 0) = true := decide_eq_true c4
  clear c4
  obtain rfl := Option.some.inj H
  go_enter Try.func31, Try.ntmps31
  go_wp2_with (first|((with_reducible refine gate_dst (N:=2) rfl ?_);refine box_event ?hg (N:=2) ?hd (cs:=#[.int .i64 a0_0,.slice A0_1 l0_1.length c0_1,.int .i64 a0_2,.int .i64 a0_3,.slice A0_4 l0_4.length c0_4,.slice A0_5 l0_5.length c0_5]) (t:=64) ?hr ?_;(case hd=>rfl);(case hg=>rfl);(case hr=>first|(go_simp;done)|(go_simp;rfl));intro gb108 hg w5 hbox hb;have n0_:=mk1_ (bT1_ (by repeat (first|(with_reducible first|exact HB.out|apply bA1_|apply bN1_|apply bD1_)|exact HB.out)) hb);have n1_:=mk1_ (hbox);have n2_:=mk1_ ((by rw [hg];exact (bZ1_ (by repeat (first|(with_reducible first|exact HB.out|apply bA1_|apply bN1_|apply bD1_)|exact HB.out))):w.heap.size≤gb108));have n3_:=mk1_ ((by rw [hg];exact (bZ1_ (by repeat (first|(with_reducible first|exact HB.out|apply bA1_|apply bN1_|apply bD1_)|exact HB.out))):w.heap.size≤gb108));clear HB;have HB:=n0_;have BK108:=n1_;have GW108:=n2_;have GE108:=n3_;clear n0_ n1_ n2_ n3_;clear hb hbox hg;have hcz6_0:w5.cell? ⟨gb108,0,none⟩=some (.int .i64 a0_0):=(blk_cell BK108.out 0).trans rfl;have hcz6_1:w5.cell? ⟨gb108,1,none⟩=some (.slice A0_1 l0_1.length c0_1):=(blk_cell BK108.out 1).trans rfl;have hcz6_2:w5.cell? ⟨gb108,2,none⟩=some (.int .i64 a0_2):=(blk_cell BK108.out 2).trans rfl;have hcz6_3:w5.cell? ⟨gb108,3,none⟩=some (.int .i64 a0_3):=(blk_cell BK108.out 3).trans rfl;have hcz6_4:w5.cell? ⟨gb108,4,none⟩=some (.slice A0_4 l0_4.length c0_4):=(blk_cell BK108.out 4).trans rfl;have hcz6_5:w5.cell? ⟨gb108,5,none⟩=some (.slice A0_5 l0_5.length c0_5):=(blk_cell BK108.out 5).trans rfl;have hfz6_0:=fZ1_ BK108.out 0;have hfz6_1:=fZ1_ BK108.out 1;have hfz6_2:=fZ1_ BK108.out 2;have hfz6_3:=fZ1_ BK108.out 3;have hfz6_4:=fZ1_ BK108.out 4;have hfz6_5:=fZ1_ BK108.out 5)|((with_reducible refine gate_callee (f:=54) rfl ?_);refine goesL_ (some 8) rfl rfl Try.func54 (by kernel_rfl) rfl #[.slice A0_1 l0_1.length c0_1,.int .i64 a1] rfl (by (try simp only [List.map_toArray,List.map_cons,List.map_nil]);first|done|rfl|(simp only [List.length_drop,List.length_take];rfl)) ?_;(with_reducible refine (laws_szInt64S.calls _ _ l0_1 a1 t109 _ ?side1 ?side2 A3.out).mono ?_);(case side1=>repeat (first|exact (Kd.C_below HR0_1.out HB.out)|(with_reducible refine Kd.C_alloc ?_ _)|(with_reducible refine Kd.C_drewN ?_ _)|(with_reducible refine Kd.C_drew ?_)));(case side2=>exact HC0_1.out);rintro e w' ⟨rfl,⟨nd,rfl⟩⟩;refine ⟨_,rfl,?_⟩))
  go_ret
  exact ⟨by first|rfl|(simp [errW_none,errW_some] <;> rfl)|(simp [*,errW_none,errW_some] <;> rfl),by repeat (first|(with_reducible first|exact HB.out|apply bA1_|apply bN1_|apply bD1_|refine bS1_ ?_ GE108.out)|exact HB.out)⟩
 ·rw [if_neg c4] at H
  have c4b0 : decide (t109 < 0) = false := decide_eq_false c4
  clear c4
  replace H := Option.bind_eq_some_iff.mp H
  obtain ⟨t110, A70, H⟩ := H
  replace H:(if t110 < 0 then (some (-1)) else ((laws_szStringS.f k l0_5 t110).bind fun t111=>(if t111 < 0 then (some (-1)) else (some t111))))=some r:=H
  have A7 := Aside0.mk A70
  clear A70
  by_cases c8 : t110 < 0
  ·rw [if_pos c8] at H
   have c8b0 : decide (t110 < 0) = true := decide_eq_true c8
   clear c8
   obtain rfl := Option.some.inj H
   go_enter Try.func31, Try.ntmps31
   go_wp2_with (first|((with_reducible refine gate_dst (N:=2) rfl ?_);refine box_event ?hg (N:=2) ?hd (cs:=#[.int .i64 a0_0,.slice A0_1 l0_1.length c0_1,.int .i64 a0_2,.int .i64 a0_3,.slice A0_4 l0_4.length c0_4,.slice A0_5 l0_5.length c0_5]) (t:=64) ?hr ?_;(case hd=>rfl);(case hg=>rfl);(case hr=>first|(go_simp;done)|(go_simp;rfl));intro gb108 hg w9 hbox hb;have n0_:=mk1_ (bT1_ (by repeat (first|(with_reducible first|exact HB.out|apply bA1_|apply bN1_|apply bD1_)|exact HB.out)) hb);have n1_:=mk1_ (hbox);have n2_:=mk1_ ((by rw [hg];exact (bZ1_ (by repeat (first|(with_reducible first|exact HB.out|apply bA1_|apply bN1_|apply bD1_)|exact HB.out))):w.heap.size≤gb108));have n3_:=mk1_ ((by rw [hg];exact (bZ1_ (by repeat (first|(with_reducible first|exact HB.out|apply bA1_|apply bN1_|apply bD1_)|exact HB.out))):w.heap.size≤gb108));clear HB;have HB:=n0_;have BK108:=n1_;have GW108:=n2_;have GE108:=n3_;clear n0_ n1_ n2_ n3_;clear hb hbox hg;have hcz10_0:w9.cell? ⟨gb108,0,none⟩=some (.int .i64 a0_0):=(blk_cell BK108.out 0).trans rfl;have hcz10_1:w9.cell? ⟨gb108,1,none⟩=some (.slice A0_1 l0_1.length c0_1):=(blk_cell BK108.out 1).trans rfl;have hcz10_2:w9.cell? ⟨gb108,2,none⟩=some (.int .i64 a0_2):=(blk_cell BK108.out 2).trans rfl;have hcz10_3:w9.cell? ⟨gb108,3,none⟩=some (.int .i64 a0_3):=(blk_cell BK108.out 3).trans rfl;have hcz10_4:w9.cell? ⟨gb108,4,none⟩=some (.slice A0_4 l0_4.length c0_4):=(blk_cell BK108.out 4).trans rfl;have hcz10_5:w9.cell? ⟨gb108,5,none⟩=some (.slice A0_5 l0_5.length c0_5):=(blk_cell BK108.out 5).trans rfl;have hfz10_0:=fZ1_ BK108.out 0;have hfz10_1:=fZ1_ BK108.out 1;have hfz10_2:=fZ1_ BK108.out 2;have hfz10_3:=fZ1_ BK108.out 3;have hfz10_4:=fZ1_ BK108.out 4;have hfz10_5:=fZ1_ BK108.out 5)|((with_reducible refine gate_callee (f:=54) rfl ?_);refine goesL_ (some 8) rfl rfl Try.func54 (by kernel_rfl) rfl #[.slice A0_1 l0_1.length c0_1,.int .i64 a1] rfl (by (try simp only [List.map_toArray,List.map_cons,List.map_nil]);first|done|rfl|(simp only [List.length_drop,List.length_take];rfl)) ?_;(with_reducible refine (laws_szInt64S.calls _ _ l0_1 a1 t109 _ ?side1 ?side2 A3.out).mono ?_);(case side1=>repeat (first|exact (Kd.C_below HR0_1.out HB.out)|(with_reducible refine Kd.C_alloc ?_ _)|(with_reducible refine Kd.C_drewN ?_ _)|(with_reducible refine Kd.C_drew ?_)));(case side2=>exact HC0_1.out);rintro e w' ⟨rfl,⟨nd,rfl⟩⟩;refine ⟨_,rfl,?_⟩)|((with_reducible refine gate_callee (f:=54) rfl ?_);refine goesL_ (some 14) rfl rfl Try.func54 (by kernel_rfl) rfl #[.slice A0_4 l0_4.length c0_4,.int .i64 t109] rfl (by (try simp only [List.map_toArray,List.map_cons,List.map_nil]);first|done|rfl|(simp only [List.length_drop,List.length_take];rfl)) ?_;(with_reducible refine (laws_szInt64S.calls _ _ l0_4 t109 t110 _ ?side1 ?side2 A7.out).mono ?_);(case side1=>repeat (first|exact (Kd.C_below HR0_4.out (by repeat (first|(with_reducible first|exact HB.out|apply bA1_|apply bN1_|apply bD1_|refine bS1_ ?_ GE108.out)|exact HB.out)))|(with_reducible refine Kd.C_alloc ?_ _)|(with_reducible refine Kd.C_drewN ?_ _)|(with_reducible refine Kd.C_drew ?_)));(case side2=>exact HC0_4.out);rintro e w' ⟨rfl,⟨nd,rfl⟩⟩;refine ⟨_,rfl,?_⟩))
   go_ret
   exact ⟨by first|rfl|(simp [errW_none,errW_some] <;> rfl)|(simp [*,errW_none,errW_some] <;> rfl),by repeat (first|(with_reducible first|exact HB.out|apply bA1_|apply bN1_|apply bD1_|refine bS1_ ?_ GE108.out)|exact HB.out)⟩
  ·rw [if_neg c8] at H
   have c8b0 : decide (t110 < 0) = false := decide_eq_false c8
   clear c8
   replace H := Option.bind_eq_some_iff.mp H
   obtain ⟨t111, A110, H⟩ := H
   replace H : (if t111 < 0 then (some (-1)) else (some t111)) = some r := H
   have A11 := Aside0.mk A110
   clear A110
   by_cases c12 : t111 < 0
   ·rw [if_pos c12] at H
    have c12b0 : decide (t111 < 0) = true := decide_eq_true c12
    clear c12
    obtain rfl := Option.some.inj H
    go_enter Try.func31, Try.ntmps31
    go_wp2_with (first|((with_reducible refine gate_dst (N:=2) rfl ?_);refine box_event ?hg (N:=2) ?hd (cs:=#[.int .i64 a0_0,.slice A0_1 l0_1.length c0_1,.int .i64 a0_2,.int .i64 a0_3,.slice A0_4 l0_4.length c0_4,.slice A0_5 l0_5.length c0_5]) (t:=64) ?hr ?_;(case hd=>rfl);(case hg=>rfl);(case hr=>first|(go_simp;done)|(go_simp;rfl));intro gb108 hg w13 hbox hb;have n0_:=mk1_ (bT1_ (by repeat (first|(with_reducible first|exact HB.out|apply bA1_|apply bN1_|apply bD1_)|exact HB.out)) hb);have n1_:=mk1_ (hbox);have n2_:=mk1_ ((by rw [hg];exact (bZ1_ (by repeat (first|(with_reducible first|exact HB.out|apply bA1_|apply bN1_|apply bD1_)|exact HB.out))):w.heap.size≤gb108));have n3_:=mk1_ ((by rw [hg];exact (bZ1_ (by repeat (first|(with_reducible first|exact HB.out|apply bA1_|apply bN1_|apply bD1_)|exact HB.out))):w.heap.size≤gb108));clear HB;have HB:=n0_;have BK108:=n1_;have GW108:=n2_;have GE108:=n3_;clear n0_ n1_ n2_ n3_;clear hb hbox hg;have hcz14_0:w13.cell? ⟨gb108,0,none⟩=some (.int .i64 a0_0):=(blk_cell BK108.out 0).trans rfl;have hcz14_1:w13.cell? ⟨gb108,1,none⟩=some (.slice A0_1 l0_1.length c0_1):=(blk_cell BK108.out 1).trans rfl;have hcz14_2:w13.cell? ⟨gb108,2,none⟩=some (.int .i64 a0_2):=(blk_cell BK108.out 2).trans rfl;have hcz14_3:w13.cell? ⟨gb108,3,none⟩=some (.int .i64 a0_3):=(blk_cell BK108.out 3).trans rfl;have hcz14_4:w13.cell? ⟨gb108,4,none⟩=some (.slice A0_4 l0_4.length c0_4):=(blk_cell BK108.out 4).trans rfl;have hcz14_5:w13.cell? ⟨gb108,5,none⟩=some (.slice A0_5 l0_5.length c0_5):=(blk_cell BK108.out 5).trans rfl;have hfz14_0:=fZ1_ BK108.out 0;have hfz14_1:=fZ1_ BK108.out 1;have hfz14_2:=fZ1_ BK108.out 2;have hfz14_3:=fZ1_ BK108.out 3;have hfz14_4:=fZ1_ BK108.out 4;have hfz14_5:=fZ1_ BK108.out 5)|((with_reducible refine gate_callee (f:=54) rfl ?_);refine goesL_ (some 8) rfl rfl Try.func54 (by kernel_rfl) rfl #[.slice A0_1 l0_1.length c0_1,.int .i64 a1] rfl (by (try simp only [List.map_toArray,List.map_cons,List.map_nil]);first|done|rfl|(simp only [List.length_drop,List.length_take];rfl)) ?_;(with_reducible refine (laws_szInt64S.calls _ _ l0_1 a1 t109 _ ?side1 ?side2 A3.out).mono ?_);(case side1=>repeat (first|exact (Kd.C_below HR0_1.out HB.out)|(with_reducible refine Kd.C_alloc ?_ _)|(with_reducible refine Kd.C_drewN ?_ _)|(with_reducible refine Kd.C_drew ?_)));(case side2=>exact HC0_1.out);rintro e w' ⟨rfl,⟨nd,rfl⟩⟩;refine ⟨_,rfl,?_⟩)|((with_reducible refine gate_callee (f:=54) rfl ?_);refine goesL_ (some 14) rfl rfl Try.func54 (by kernel_rfl) rfl #[.slice A0_4 l0_4.length c0_4,.int .i64 t109] rfl (by (try simp only [List.map_toArray,List.map_cons,List.map_nil]);first|done|rfl|(simp only [List.length_drop,List.length_take];rfl)) ?_;(with_reducible refine (laws_szInt64S.calls _ _ l0_4 t109 t110 _ ?side1 ?side2 A7.out).mono ?_);(case side1=>repeat (first|exact (Kd.C_below HR0_4.out (by repeat (first|(with_reducible first|exact HB.out|apply bA1_|apply bN1_|apply bD1_|refine bS1_ ?_ GE108.out)|exact HB.out)))|(with_reducible refine Kd.C_alloc ?_ _)|(with_reducible refine Kd.C_drewN ?_ _)|(with_reducible refine Kd.C_drew ?_)));(case side2=>exact HC0_4.out);rintro e w' ⟨rfl,⟨nd,rfl⟩⟩;refine ⟨_,rfl,?_⟩)|((with_reducible refine gate_callee (f:=55) rfl ?_);refine goesL_ (some 20) rfl rfl Try.func55 (by kernel_rfl) rfl #[.slice A0_5 l0_5.length c0_5,.int .i64 t110] rfl (by (try simp only [List.map_toArray,List.map_cons,List.map_nil]);first|done|rfl|(simp only [List.length_drop,List.length_take];rfl)) ?_;(with_reducible refine (laws_szStringS.calls k _ _ l0_5 t110 t111 _ ?side1 ?side2 A11.out).mono ?_);(case side1=>repeat (first|exact (Kd.C_below HR0_5.out (by repeat (first|(with_reducible first|exact HB.out|apply bA1_|apply bN1_|apply bD1_|refine bS1_ ?_ GE108.out)|exact HB.out)))|(with_reducible refine Kd.C_alloc ?_ _)|(with_reducible refine Kd.C_drewN ?_ _)|(with_reducible refine Kd.C_drew ?_)));(case side2=>exact HC0_5.out);rintro e w' ⟨rfl,⟨nd,rfl⟩⟩;refine ⟨_,rfl,?_⟩))
    go_ret
    exact ⟨by first|rfl|(simp [errW_none,errW_some] <;> rfl)|(simp [*,errW_none,errW_some] <;> rfl),by repeat (first|(with_reducible first|exact HB.out|apply bA1_|apply bN1_|apply bD1_|refine bS1_ ?_ GE108.out)|exact HB.out)⟩
   ·rw [if_neg c12] at H
    have c12b0 : decide (t111 < 0) = false := decide_eq_false c12
    clear c12
    obtain rfl := Option.some.inj H
    go_enter Try.func31, Try.ntmps31
    go_wp2_with (first|((with_reducible refine gate_dst (N:=2) rfl ?_);refine box_event ?hg (N:=2) ?hd (cs:=#[.int .i64 a0_0,.slice A0_1 l0_1.length c0_1,.int .i64 a0_2,.int .i64 a0_3,.slice A0_4 l0_4.length c0_4,.slice A0_5 l0_5.length c0_5]) (t:=64) ?hr ?_;(case hd=>rfl);(case hg=>rfl);(case hr=>first|(go_simp;done)|(go_simp;rfl));intro gb108 hg w15 hbox hb;have n0_:=mk1_ (bT1_ (by repeat (first|(with_reducible first|exact HB.out|apply bA1_|apply bN1_|apply bD1_)|exact HB.out)) hb);have n1_:=mk1_ (hbox);have n2_:=mk1_ ((by rw [hg];exact (bZ1_ (by repeat (first|(with_reducible first|exact HB.out|apply bA1_|apply bN1_|apply bD1_)|exact HB.out))):w.heap.size≤gb108));have n3_:=mk1_ ((by rw [hg];exact (bZ1_ (by repeat (first|(with_reducible first|exact HB.out|apply bA1_|apply bN1_|apply bD1_)|exact HB.out))):w.heap.size≤gb108));clear HB;have HB:=n0_;have BK108:=n1_;have GW108:=n2_;have GE108:=n3_;clear n0_ n1_ n2_ n3_;clear hb hbox hg;have hcz16_0:w15.cell? ⟨gb108,0,none⟩=some (.int .i64 a0_0):=(blk_cell BK108.out 0).trans rfl;have hcz16_1:w15.cell? ⟨gb108,1,none⟩=some (.slice A0_1 l0_1.length c0_1):=(blk_cell BK108.out 1).trans rfl;have hcz16_2:w15.cell? ⟨gb108,2,none⟩=some (.int .i64 a0_2):=(blk_cell BK108.out 2).trans rfl;have hcz16_3:w15.cell? ⟨gb108,3,none⟩=some (.int .i64 a0_3):=(blk_cell BK108.out 3).trans rfl;have hcz16_4:w15.cell? ⟨gb108,4,none⟩=some (.slice A0_4 l0_4.length c0_4):=(blk_cell BK108.out 4).trans rfl;have hcz16_5:w15.cell? ⟨gb108,5,none⟩=some (.slice A0_5 l0_5.length c0_5):=(blk_cell BK108.out 5).trans rfl;have hfz16_0:=fZ1_ BK108.out 0;have hfz16_1:=fZ1_ BK108.out 1;have hfz16_2:=fZ1_ BK108.out 2;have hfz16_3:=fZ1_ BK108.out 3;have hfz16_4:=fZ1_ BK108.out 4;have hfz16_5:=fZ1_ BK108.out 5)|((with_reducible refine gate_callee (f:=54) rfl ?_);refine goesL_ (some 8) rfl rfl Try.func54 (by kernel_rfl) rfl #[.slice A0_1 l0_1.length c0_1,.int .i64 a1] rfl (by (try simp only [List.map_toArray,List.map_cons,List.map_nil]);first|done|rfl|(simp only [List.length_drop,List.length_take];rfl)) ?_;(with_reducible refine (laws_szInt64S.calls _ _ l0_1 a1 t109 _ ?side1 ?side2 A3.out).mono ?_);(case side1=>repeat (first|exact (Kd.C_below HR0_1.out HB.out)|(with_reducible refine Kd.C_alloc ?_ _)|(with_reducible refine Kd.C_drewN ?_ _)|(with_reducible refine Kd.C_drew ?_)));(case side2=>exact HC0_1.out);rintro e w' ⟨rfl,⟨nd,rfl⟩⟩;refine ⟨_,rfl,?_⟩)|((with_reducible refine gate_callee (f:=54) rfl ?_);refine goesL_ (some 14) rfl rfl Try.func54 (by kernel_rfl) rfl #[.slice A0_4 l0_4.length c0_4,.int .i64 t109] rfl (by (try simp only [List.map_toArray,List.map_cons,List.map_nil]);first|done|rfl|(simp only [List.length_drop,List.length_take];rfl)) ?_;(with_reducible refine (laws_szInt64S.calls _ _ l0_4 t109 t110 _ ?side1 ?side2 A7.out).mono ?_);(case side1=>repeat (first|exact (Kd.C_below HR0_4.out (by repeat (first|(with_reducible first|exact HB.out|apply bA1_|apply bN1_|apply bD1_|refine bS1_ ?_ GE108.out)|exact HB.out)))|(with_reducible refine Kd.C_alloc ?_ _)|(with_reducible refine Kd.C_drewN ?_ _)|(with_reducible refine Kd.C_drew ?_)));(case side2=>exact HC0_4.out);rintro e w' ⟨rfl,⟨nd,rfl⟩⟩;refine ⟨_,rfl,?_⟩)|((with_reducible refine gate_callee (f:=55) rfl ?_);refine goesL_ (some 20) rfl rfl Try.func55 (by kernel_rfl) rfl #[.slice A0_5 l0_5.length c0_5,.int .i64 t110] rfl (by (try simp only [List.map_toArray,List.map_cons,List.map_nil]);first|done|rfl|(simp only [List.length_drop,List.length_take];rfl)) ?_;(with_reducible refine (laws_szStringS.calls k _ _ l0_5 t110 t111 _ ?side1 ?side2 A11.out).mono ?_);(case side1=>repeat (first|exact (Kd.C_below HR0_5.out (by repeat (first|(with_reducible first|exact HB.out|apply bA1_|apply bN1_|apply bD1_|refine bS1_ ?_ GE108.out)|exact HB.out)))|(with_reducible refine Kd.C_alloc ?_ _)|(with_reducible refine Kd.C_drewN ?_ _)|(with_reducible refine Kd.C_drew ?_)));(case side2=>exact HC0_5.out);rintro e w' ⟨rfl,⟨nd,rfl⟩⟩;refine ⟨_,rfl,?_⟩))
    go_ret
    exact ⟨by first|rfl|(simp [errW_none,errW_some] <;> rfl)|(simp [*,errW_none,errW_some] <;> rfl),by repeat (first|(with_reducible first|exact HB.out|apply bA1_|apply bN1_|apply bD1_|refine bS1_ ?_ GE108.out)|exact HB.out)⟩

def laws_szZoneS.l0 : Nat → List (S64) → Int → Int → Option (Int)
 | 0, _, _, _ => none
 | k+1,x0,x1,x5=>if x5 < (x0.length:Int) then (if 0≤x5 then ((laws_szZone.f k ((rd_T64 x0 x5).f0) ((rd_T64 x0 x5).f1) ((rd_T64 x0 x5).f2) ((rd_T64 x0 x5).f3) ((rd_T64 x0 x5).f4) ((rd_T64 x0 x5).f5) x1).bind fun t113=>(if t113 < 0 then (some (-1)) else (laws_szZoneS.l0 k x0 t113 (wrap64 (x5+1))))) else (none)) else (some x1)
def laws_szZoneS.f (k:Nat) (l0:List (S64)) (a1:Int):Option (Int):=if (wrap64 (a1 - (l0.length:Int))) < 0 then (some (-1)) else (laws_szZoneS.l0 k l0 (wrap64 (a1 - (l0.length:Int))) 0)
set_option maxHeartbeats 8000000 in
set_option maxRecDepth 100000 in
theorem laws_szZoneS.calls (k:Nat) (A0:Option Addr) (c0:Nat) (l0:List (S64)) (a1:Int) (r:Int) (w:World) (hr0:Kd.C k64 w A0 l0.length l0) (hc0:l0.length≤c0) (h:laws_szZoneS.f k l0 a1=some r) :
  Calls Try.prog 13 #[.slice A0 l0.length c0,.int .i64 a1] w fun e w'=>e=.returned (.int .i64 r)∧Below w.heap.size w w':=by
 have hu64 := Try.underlying64
 have HR0 := Aside0.mk hr0
 have HC0 := Aside0.mk hc0
 clear hr0 hc0
 have HB := Aside0.mk (Below.refl w.heap.size w)
 have H:(if (wrap64 (a1 - (l0.length:Int))) < 0 then (some (-1)) else (laws_szZoneS.l0 k l0 (wrap64 (a1 - (l0.length:Int))) 0))=some r:=h
 clear h
 by_cases c3 : (wrap64 (a1 - (l0.length : Int))) < 0
 ·rw [if_pos c3] at H
  have c3b0 : decide ((wrap64 (a1 - (l0.length : Int))) < 0) = true := decide_eq_true c3
  clear c3
  obtain rfl := Option.some.inj H
  go_enter Try.func13, Try.ntmps13
  go_wp2
  go_ret
  exact ⟨by first|rfl|(simp [errW_none,errW_some] <;> rfl)|(simp [*,errW_none,errW_some] <;> rfl),by repeat (first|(with_reducible first|exact HB.out|apply bA1_|apply bN1_|apply bD1_)|exact HB.out)⟩
 ·rw [if_neg c3] at H
  have c3b0 : decide ((wrap64 (a1 - (l0.length : Int))) < 0) = false := decide_eq_false c3
  clear c3
  have H' := Aside0.mk H
  clear H
  go_enter Try.func13, Try.ntmps13
  go_wp2
  go_loopg [1,5] k (fun kq v1 v5 w'=>∃ (x1_1:Int) (x5_1:Int),v1=.int .i64 x1_1∧v5=.int .i64 x5_1∧Aside0 (laws_szZoneS.l0 kq l0 x1_1 x5_1=some r)∧Aside0 (kq≤k)∧Aside0 (Below w.heap.size w w'))
  case atStart=>exact ⟨(wrap64 (a1 - (l0.length:Int))),(0),(by first|rfl|(simp;done)|(simp [*];done)),(by first|rfl|(simp;done)|(simp [*];done)),H',⟨Nat.le_refl _⟩,⟨by repeat (first|(with_reducible first|exact HB.out|apply bA1_|apply bN1_|apply bD1_)|exact HB.out)⟩⟩
  case round =>
   clear H'
   try clear c1
   try clear p2
   try clear c3
   try clear c3b0
   obtain ⟨x1_1, x5_1, rfl, rfl, HA, HK1, HB⟩ := hrel
   cases gk with
   | zero => exact absurd HA.out (by simp [laws_szZoneS.l0])
   | succ k1 =>
    have H := HA.out
    clear HA
    simp only [laws_szZoneS.l0] at H
    by_cases c4 : x5_1 < (l0.length : Int)
    ·rw [if_pos c4] at H
     have c4b0 : decide (x5_1 < (l0.length : Int)) = true := decide_eq_true c4
     clear c4
     by_cases c5 : 0 ≤ x5_1
     ·rw [if_pos c5] at H
      have c5b0 : decide (0 ≤ x5_1) = true := decide_eq_true c5
      clear c5
      replace H := Option.bind_eq_some_iff.mp H
      obtain ⟨t113, A60, H⟩ := H
      replace H:(if t113 < 0 then (some (-1)) else (laws_szZoneS.l0 k1 l0 t113 (wrap64 (x5_1+1))))=some r:=H
      have A6 := Aside0.mk A60
      clear A60
      by_cases c7 : t113 < 0
      ·rw [if_pos c7] at H
       have c7b0 : decide (t113 < 0) = true := decide_eq_true c7
       clear c7
       obtain rfl := Option.some.inj H
       have p112:0≤(x5_1:Int):=of_decide_eq_true (by first|(with_reducible assumption)|assumption)
       have q112:x5_1 < (l0.length:Int):=of_decide_eq_true (by first|(with_reducible assumption)|assumption)
       obtain ⟨ad112,A112_1,c112_1,A112_4,c112_4,A112_5,c112_5,e112,hx112_0,hx112_1,hx112_2,hx112_3,hx112_4,hx112_5,hl112_1,hi112_1,hl112_4,hi112_4,hl112_5,hi112_5⟩:=at_T64 HR0.out x5_1 p112 q112
       cases e112
       replace hx112_0 := (HB.out.cell (World.block_lt_of_cell? w _ hx112_0)).trans hx112_0
       replace hx112_1 := (HB.out.cell (World.block_lt_of_cell? w _ hx112_1)).trans hx112_1
       replace hx112_2 := (HB.out.cell (World.block_lt_of_cell? w _ hx112_2)).trans hx112_2
       replace hx112_3 := (HB.out.cell (World.block_lt_of_cell? w _ hx112_3)).trans hx112_3
       replace hx112_4 := (HB.out.cell (World.block_lt_of_cell? w _ hx112_4)).trans hx112_4
       replace hx112_5 := (HB.out.cell (World.block_lt_of_cell? w _ hx112_5)).trans hx112_5
       have HR112_1 := Aside0.mk hi112_1
       have HC112_1 := Aside0.mk hl112_1
       clear hi112_1 hl112_1
       have HR112_4 := Aside0.mk hi112_4
       have HC112_4 := Aside0.mk hl112_4
       clear hi112_4 hl112_4
       have HR112_5 := Aside0.mk hi112_5
       have HC112_5 := Aside0.mk hl112_5
       clear hi112_5 hl112_5
       replace p112 := eq_true p112
       replace q112 := eq_true q112
       go_wp2_with (first|((with_reducible refine gate_callee (f:=31) rfl ?_);refine goesL_ (some 23) rfl rfl Try.func31 (by kernel_rfl) rfl #[.agg #[.int .i64 ((rd_T64 l0 x5_1).f0),.slice A112_1 ((rd_T64 l0 x5_1).f1).length c112_1,.int .i64 ((rd_T64 l0 x5_1).f2),.int .i64 ((rd_T64 l0 x5_1).f3),.slice A112_4 ((rd_T64 l0 x5_1).f4).length c112_4,.slice A112_5 ((rd_T64 l0 x5_1).f5).length c112_5],.int .i64 x1_1] rfl (by (try simp only [List.map_toArray,List.map_cons,List.map_nil]);first|done|rfl|(simp only [List.length_drop,List.length_take];rfl)) ?_;(with_reducible refine (laws_szZone.calls k1 ((rd_T64 l0 x5_1).f0) _ _ ((rd_T64 l0 x5_1).f1) ((rd_T64 l0 x5_1).f2) ((rd_T64 l0 x5_1).f3) _ _ ((rd_T64 l0 x5_1).f4) _ _ ((rd_T64 l0 x5_1).f5) x1_1 t113 _ ?side1 ?side2 ?side3 ?side4 ?side5 ?side6 A6.out).mono ?_);(case side1=>repeat (first|exact (Kd.C_below HR112_1.out HB.out)|(with_reducible refine Kd.C_alloc ?_ _)|(with_reducible refine Kd.C_drewN ?_ _)|(with_reducible refine Kd.C_drew ?_)));(case side2=>exact HC112_1.out);(case side3=>repeat (first|exact (Kd.C_below HR112_4.out HB.out)|(with_reducible refine Kd.C_alloc ?_ _)|(with_reducible refine Kd.C_drewN ?_ _)|(with_reducible refine Kd.C_drew ?_)));(case side4=>exact HC112_4.out);(case side5=>repeat (first|exact (Kd.C_below HR112_5.out HB.out)|(with_reducible refine Kd.C_alloc ?_ _)|(with_reducible refine Kd.C_drewN ?_ _)|(with_reducible refine Kd.C_drew ?_)));(case side6=>exact HC112_5.out);rintro e w8 ⟨rfl,hb⟩;refine ⟨_,rfl,?_⟩;have n0_:=mk1_ (bT1_ (by repeat (first|(with_reducible first|exact HB.out|apply bA1_|apply bN1_|apply bD1_)|exact HB.out)) hb);clear HB;have HB:=n0_;clear n0_;(try clear hb);(try clear hb2);(try clear hk);(try clear hi)))
       go_ret
       exact ⟨by first|rfl|(simp [errW_none,errW_some] <;> rfl)|(simp [*,errW_none,errW_some] <;> rfl),by repeat (first|(with_reducible first|exact HB.out|apply bA1_|apply bN1_|apply bD1_)|exact HB.out)⟩
      ·rw [if_neg c7] at H
       have c7b0 : decide (t113 < 0) = false := decide_eq_false c7
       clear c7
       have H' := Aside0.mk H
       clear H
       have p112:0≤(x5_1:Int):=of_decide_eq_true (by first|(with_reducible assumption)|assumption)
       have q112:x5_1 < (l0.length:Int):=of_decide_eq_true (by first|(with_reducible assumption)|assumption)
       obtain ⟨ad112,A112_1,c112_1,A112_4,c112_4,A112_5,c112_5,e112,hx112_0,hx112_1,hx112_2,hx112_3,hx112_4,hx112_5,hl112_1,hi112_1,hl112_4,hi112_4,hl112_5,hi112_5⟩:=at_T64 HR0.out x5_1 p112 q112
       cases e112
       replace hx112_0 := (HB.out.cell (World.block_lt_of_cell? w _ hx112_0)).trans hx112_0
       replace hx112_1 := (HB.out.cell (World.block_lt_of_cell? w _ hx112_1)).trans hx112_1
       replace hx112_2 := (HB.out.cell (World.block_lt_of_cell? w _ hx112_2)).trans hx112_2
       replace hx112_3 := (HB.out.cell (World.block_lt_of_cell? w _ hx112_3)).trans hx112_3
       replace hx112_4 := (HB.out.cell (World.block_lt_of_cell? w _ hx112_4)).trans hx112_4
       replace hx112_5 := (HB.out.cell (World.block_lt_of_cell? w _ hx112_5)).trans hx112_5
       have HR112_1 := Aside0.mk hi112_1
       have HC112_1 := Aside0.mk hl112_1
       clear hi112_1 hl112_1
       have HR112_4 := Aside0.mk hi112_4
       have HC112_4 := Aside0.mk hl112_4
       clear hi112_4 hl112_4
       have HR112_5 := Aside0.mk hi112_5
       have HC112_5 := Aside0.mk hl112_5
       clear hi112_5 hl112_5
       replace p112 := eq_true p112
       replace q112 := eq_true q112
       go_wp2_with (first|((with_reducible refine gate_callee (f:=31) rfl ?_);refine goesL_ (some 23) rfl rfl Try.func31 (by kernel_rfl) rfl #[.agg #[.int .i64 ((rd_T64 l0 x5_1).f0),.slice A112_1 ((rd_T64 l0 x5_1).f1).length c112_1,.int .i64 ((rd_T64 l0 x5_1).f2),.int .i64 ((rd_T64 l0 x5_1).f3),.slice A112_4 ((rd_T64 l0 x5_1).f4).length c112_4,.slice A112_5 ((rd_T64 l0 x5_1).f5).length c112_5],.int .i64 x1_1] rfl (by (try simp only [List.map_toArray,List.map_cons,List.map_nil]);first|done|rfl|(simp only [List.length_drop,List.length_take];rfl)) ?_;(with_reducible refine (laws_szZone.calls k1 ((rd_T64 l0 x5_1).f0) _ _ ((rd_T64 l0 x5_1).f1) ((rd_T64 l0 x5_1).f2) ((rd_T64 l0 x5_1).f3) _ _ ((rd_T64 l0 x5_1).f4) _ _ ((rd_T64 l0 x5_1).f5) x1_1 t113 _ ?side1 ?side2 ?side3 ?side4 ?side5 ?side6 A6.out).mono ?_);(case side1=>repeat (first|exact (Kd.C_below HR112_1.out HB.out)|(with_reducible refine Kd.C_alloc ?_ _)|(with_reducible refine Kd.C_drewN ?_ _)|(with_reducible refine Kd.C_drew ?_)));(case side2=>exact HC112_1.out);(case side3=>repeat (first|exact (Kd.C_below HR112_4.out HB.out)|(with_reducible refine Kd.C_alloc ?_ _)|(with_reducible refine Kd.C_drewN ?_ _)|(with_reducible refine Kd.C_drew ?_)));(case side4=>exact HC112_4.out);(case side5=>repeat (first|exact (Kd.C_below HR112_5.out HB.out)|(with_reducible refine Kd.C_alloc ?_ _)|(with_reducible refine Kd.C_drewN ?_ _)|(with_reducible refine Kd.C_drew ?_)));(case side6=>exact HC112_5.out);rintro e w9 ⟨rfl,hb⟩;refine ⟨_,rfl,?_⟩;have n0_:=mk1_ (bT1_ (by repeat (first|(with_reducible first|exact HB.out|apply bA1_|apply bN1_|apply bD1_)|exact HB.out)) hb);clear HB;have HB:=n0_;clear n0_;(try clear hb);(try clear hb2);(try clear hk);(try clear hi)))
       go_roundg k1
       case measure => have := HK1.out; omega
       case rel=>exact ⟨(t113),(wrap64 (x5_1+1)),(by first|rfl|(simp;done)|(simp [*];done)),(by first|rfl|(simp;done)|(simp [*];done)),H',⟨by have:=HK1.out;omega⟩,⟨by repeat (first|(with_reducible first|exact HB.out|apply bA1_|apply bN1_|apply bD1_)|exact HB.out)⟩⟩
     ·rw [if_neg c5] at H
      exact absurd H (by simp)
    ·rw [if_neg c4] at H
     have c4b0 : decide (x5_1 < (l0.length : Int)) = false := decide_eq_false c4
     clear c4
     obtain rfl := Option.some.inj H
     go_wp2
     go_ret
     exact ⟨by first|rfl|(simp [errW_none,errW_some] <;> rfl)|(simp [*,errW_none,errW_some] <;> rfl),by repeat (first|(with_reducible first|exact HB.out|apply bA1_|apply bN1_|apply bD1_)|exact HB.out)⟩

def laws_szDevice.f (k:Nat) (a0_0:Int) (a0_1:Int) (a0_2:Int) (l0_3:List (S83)) (a0_4:Int) (a0_5:Int) (a0_6:Bool) (a0_7:Int) (l0_8:List (S64)) (a1:Int):Option (Int):=(laws_szFlash.f k a0_0 a0_1 a0_2 l0_3 a0_4 a0_5 a0_6 a0_7 a1).bind fun t115=>(if t115 < 0 then (some (-1)) else ((laws_szZoneS.f k l0_8 t115).bind fun t116=>(if t116 < 0 then (some (-1)) else (some t116))))
set_option maxHeartbeats 8000000 in
set_option maxRecDepth 100000 in
theorem laws_szDevice.calls (k:Nat) (a0_0:Int) (a0_1:Int) (a0_2:Int) (A0_3:Option Addr) (c0_3:Nat) (l0_3:List (S83)) (a0_4:Int) (a0_5:Int) (a0_6:Bool) (a0_7:Int) (A0_8:Option Addr) (c0_8:Nat) (l0_8:List (S64)) (a1:Int) (r:Int) (w:World) (hr0_3:Kd.C k83 w A0_3 l0_3.length l0_3) (hc0_3:l0_3.length≤c0_3) (hr0_8:Kd.C k64 w A0_8 l0_8.length l0_8) (hc0_8:l0_8.length≤c0_8) (h:laws_szDevice.f k a0_0 a0_1 a0_2 l0_3 a0_4 a0_5 a0_6 a0_7 l0_8 a1=some r) :
  Calls Try.prog 5 #[.agg #[.int .i64 a0_0,.int .i64 a0_1,.int .i64 a0_2,.slice A0_3 l0_3.length c0_3,.int .i64 a0_4,.int .i64 a0_5,.bool a0_6,.int .i64 a0_7,.slice A0_8 l0_8.length c0_8],.int .i64 a1] w fun e w'=>e=.returned (.int .i64 r)∧Below w.heap.size w w':=by
 have hu29 := Try.underlying29
 have hu26 := Try.underlying26
 have HR0_3 := Aside0.mk hr0_3
 have HC0_3 := Aside0.mk hc0_3
 clear hr0_3 hc0_3
 have HR0_8 := Aside0.mk hr0_8
 have HC0_8 := Aside0.mk hc0_8
 clear hr0_8 hc0_8
 have HB := Aside0.mk (Below.refl w.heap.size w)
 have H:((laws_szFlash.f k a0_0 a0_1 a0_2 l0_3 a0_4 a0_5 a0_6 a0_7 a1).bind fun t115=>(if t115 < 0 then (some (-1)) else ((laws_szZoneS.f k l0_8 t115).bind fun t116=>(if t116 < 0 then (some (-1)) else (some t116)))))=some r:=h
 clear h
 replace H := Option.bind_eq_some_iff.mp H
 obtain ⟨t115, A30, H⟩ := H
 replace H:(if t115 < 0 then (some (-1)) else ((laws_szZoneS.f k l0_8 t115).bind fun t116=>(if t116 < 0 then (some (-1)) else (some t116))))=some r:=H
 have A3 := Aside0.mk A30
 clear A30
 by_cases c4 : t115 < 0
 ·rw [if_pos c4] at H
  have c4b0 : decide (t115 < 0) = true := decide_eq_true c4
  clear c4
  obtain rfl := Option.some.inj H
  go_enter Try.func5, Try.ntmps5
  go_wp2_with (first|((with_reducible refine gate_dst (N:=2) rfl ?_);refine box_event ?hg (N:=2) ?hd (cs:=#[.int .i64 a0_0,.int .i64 a0_1,.int .i64 a0_2,.slice A0_3 l0_3.length c0_3,.int .i64 a0_4,.int .i64 a0_5,.bool a0_6,.int .i64 a0_7,.slice A0_8 l0_8.length c0_8]) (t:=29) ?hr ?_;(case hd=>rfl);(case hg=>rfl);(case hr=>first|(go_simp;done)|(go_simp;rfl));intro gb114 hg w5 hbox hb;have n0_:=mk1_ (bT1_ (by repeat (first|(with_reducible first|exact HB.out|apply bA1_|apply bN1_|apply bD1_)|exact HB.out)) hb);have n1_:=mk1_ (hbox);have n2_:=mk1_ ((by rw [hg];exact (bZ1_ (by repeat (first|(with_reducible first|exact HB.out|apply bA1_|apply bN1_|apply bD1_)|exact HB.out))):w.heap.size≤gb114));have n3_:=mk1_ ((by rw [hg];exact (bZ1_ (by repeat (first|(with_reducible first|exact HB.out|apply bA1_|apply bN1_|apply bD1_)|exact HB.out))):w.heap.size≤gb114));clear HB;have HB:=n0_;have BK114:=n1_;have GW114:=n2_;have GE114:=n3_;clear n0_ n1_ n2_ n3_;clear hb hbox hg;have hcz6_0:w5.cell? ⟨gb114,0,none⟩=some (.int .i64 a0_0):=(blk_cell BK114.out 0).trans rfl;have hcz6_1:w5.cell? ⟨gb114,1,none⟩=some (.int .i64 a0_1):=(blk_cell BK114.out 1).trans rfl;have hcz6_2:w5.cell? ⟨gb114,2,none⟩=some (.int .i64 a0_2):=(blk_cell BK114.out 2).trans rfl;have hcz6_3:w5.cell? ⟨gb114,3,none⟩=some (.slice A0_3 l0_3.length c0_3):=(blk_cell BK114.out 3).trans rfl;have hcz6_4:w5.cell? ⟨gb114,4,none⟩=some (.int .i64 a0_4):=(blk_cell BK114.out 4).trans rfl;have hcz6_5:w5.cell? ⟨gb114,5,none⟩=some (.int .i64 a0_5):=(blk_cell BK114.out 5).trans rfl;have hcz6_6:w5.cell? ⟨gb114,6,none⟩=some (.bool a0_6):=(blk_cell BK114.out 6).trans rfl;have hcz6_7:w5.cell? ⟨gb114,7,none⟩=some (.int .i64 a0_7):=(blk_cell BK114.out 7).trans rfl;have hcz6_8:w5.cell? ⟨gb114,8,none⟩=some (.slice A0_8 l0_8.length c0_8):=(blk_cell BK114.out 8).trans rfl;have hfz6_0:=fZ1_ BK114.out 0;have hfz6_1:=fZ1_ BK114.out 1;have hfz6_2:=fZ1_ BK114.out 2;have hfz6_3:=fZ1_ BK114.out 3;have hfz6_4:=fZ1_ BK114.out 4;have hfz6_5:=fZ1_ BK114.out 5;have hfz6_6:=fZ1_ BK114.out 6;have hfz6_7:=fZ1_ BK114.out 7;have hfz6_8:=fZ1_ BK114.out 8)|((with_reducible refine gate_callee (f:=12) rfl ?_);refine goesL_ (some 8) rfl rfl Try.func12 (by kernel_rfl) rfl #[.agg #[.int .i64 a0_0,.int .i64 a0_1,.int .i64 a0_2,.slice A0_3 l0_3.length c0_3,.int .i64 a0_4,.int .i64 a0_5,.bool a0_6,.int .i64 a0_7],.int .i64 a1] rfl (by (try simp only [List.map_toArray,List.map_cons,List.map_nil]);first|done|rfl|(simp only [List.length_drop,List.length_take];rfl)) ?_;(with_reducible refine (laws_szFlash.calls k a0_0 a0_1 a0_2 _ _ l0_3 a0_4 a0_5 a0_6 a0_7 a1 t115 _ ?side1 ?side2 A3.out).mono ?_);(case side1=>repeat (first|exact (Kd.C_below HR0_3.out HB.out)|(with_reducible refine Kd.C_alloc ?_ _)|(with_reducible refine Kd.C_drewN ?_ _)|(with_reducible refine Kd.C_drew ?_)));(case side2=>exact HC0_3.out);rintro e w7 ⟨rfl,hb⟩;refine ⟨_,rfl,?_⟩;have n0_:=mk1_ (blk_below (g:=gb114) (o:=.cells #[.int .i64 a0_0,.int .i64 a0_1,.int .i64 a0_2,.slice A0_3 l0_3.length c0_3,.int .i64 a0_4,.int .i64 a0_5,.bool a0_6,.int .i64 a0_7,.slice A0_8 l0_8.length c0_8] 29 (0,0)) (by (with_reducible repeat (first|refine kN1_ ?_ _|refine kD1_ ?_|refine blk_alloc ?_ _));exact BK114.out) hb);have n1_:=mk1_ (bT1_ (by repeat (first|(with_reducible first|exact HB.out|apply bA1_|apply bN1_|apply bD1_|refine bS1_ ?_ GE114.out)|exact HB.out)) hb);clear BK114;clear HB;have BK114:=n0_;have HB:=n1_;clear n0_ n1_;(try clear hb);(try clear hb2);(try clear hk);(try clear hi)))
  go_ret
  exact ⟨by first|rfl|(simp [errW_none,errW_some] <;> rfl)|(simp [*,errW_none,errW_some] <;> rfl),by repeat (first|(with_reducible first|exact HB.out|apply bA1_|apply bN1_|apply bD1_|refine bS1_ ?_ GE114.out)|exact HB.out)⟩
 ·rw [if_neg c4] at H
  have c4b0 : decide (t115 < 0) = false := decide_eq_false c4
  clear c4
  replace H := Option.bind_eq_some_iff.mp H
  obtain ⟨t116, A80, H⟩ := H
  replace H : (if t116 < 0 then (some (-1)) else (some t116)) = some r := H
  have A8 := Aside0.mk A80
  clear A80
  by_cases c9 : t116 < 0
  ·rw [if_pos c9] at H
   have c9b0 : decide (t116 < 0) = true := decide_eq_true c9
   clear c9
   obtain rfl := Option.some.inj H
   go_enter Try.func5, Try.ntmps5
   go_wp2_with (first|((with_reducible refine gate_dst (N:=2) rfl ?_);refine box_event ?hg (N:=2) ?hd (cs:=#[.int .i64 a0_0,.int .i64 a0_1,.int .i64 a0_2,.slice A0_3 l0_3.length c0_3,.int .i64 a0_4,.int .i64 a0_5,.bool a0_6,.int .i64 a0_7,.slice A0_8 l0_8.length c0_8]) (t:=29) ?hr ?_;(case hd=>rfl);(case hg=>rfl);(case hr=>first|(go_simp;done)|(go_simp;rfl));intro gb114 hg w10 hbox hb;have n0_:=mk1_ (bT1_ (by repeat (first|(with_reducible first|exact HB.out|apply bA1_|apply bN1_|apply bD1_)|exact HB.out)) hb);have n1_:=mk1_ (hbox);have n2_:=mk1_ ((by rw [hg];exact (bZ1_ (by repeat (first|(with_reducible first|exact HB.out|apply bA1_|apply bN1_|apply bD1_)|exact HB.out))):w.heap.size≤gb114));have n3_:=mk1_ ((by rw [hg];exact (bZ1_ (by repeat (first|(with_reducible first|exact HB.out|apply bA1_|apply bN1_|apply bD1_)|exact HB.out))):w.heap.size≤gb114));clear HB;have HB:=n0_;have BK114:=n1_;have GW114:=n2_;have GE114:=n3_;clear n0_ n1_ n2_ n3_;clear hb hbox hg;have hcz11_0:w10.cell? ⟨gb114,0,none⟩=some (.int .i64 a0_0):=(blk_cell BK114.out 0).trans rfl;have hcz11_1:w10.cell? ⟨gb114,1,none⟩=some (.int .i64 a0_1):=(blk_cell BK114.out 1).trans rfl;have hcz11_2:w10.cell? ⟨gb114,2,none⟩=some (.int .i64 a0_2):=(blk_cell BK114.out 2).trans rfl;have hcz11_3:w10.cell? ⟨gb114,3,none⟩=some (.slice A0_3 l0_3.length c0_3):=(blk_cell BK114.out 3).trans rfl;have hcz11_4:w10.cell? ⟨gb114,4,none⟩=some (.int .i64 a0_4):=(blk_cell BK114.out 4).trans rfl;have hcz11_5:w10.cell? ⟨gb114,5,none⟩=some (.int .i64 a0_5):=(blk_cell BK114.out 5).trans rfl;have hcz11_6:w10.cell? ⟨gb114,6,none⟩=some (.bool a0_6):=(blk_cell BK114.out 6).trans rfl;have hcz11_7:w10.cell? ⟨gb114,7,none⟩=some (.int .i64 a0_7):=(blk_cell BK114.out 7).trans rfl;have hcz11_8:w10.cell? ⟨gb114,8,none⟩=some (.slice A0_8 l0_8.length c0_8):=(blk_cell BK114.out 8).trans rfl;have hfz11_0:=fZ1_ BK114.out 0;have hfz11_1:=fZ1_ BK114.out 1;have hfz11_2:=fZ1_ BK114.out 2;have hfz11_3:=fZ1_ BK114.out 3;have hfz11_4:=fZ1_ BK114.out 4;have hfz11_5:=fZ1_ BK114.out 5;have hfz11_6:=fZ1_ BK114.out 6;have hfz11_7:=fZ1_ BK114.out 7;have hfz11_8:=fZ1_ BK114.out 8)|((with_reducible refine gate_callee (f:=12) rfl ?_);refine goesL_ (some 8) rfl rfl Try.func12 (by kernel_rfl) rfl #[.agg #[.int .i64 a0_0,.int .i64 a0_1,.int .i64 a0_2,.slice A0_3 l0_3.length c0_3,.int .i64 a0_4,.int .i64 a0_5,.bool a0_6,.int .i64 a0_7],.int .i64 a1] rfl (by (try simp only [List.map_toArray,List.map_cons,List.map_nil]);first|done|rfl|(simp only [List.length_drop,List.length_take];rfl)) ?_;(with_reducible refine (laws_szFlash.calls k a0_0 a0_1 a0_2 _ _ l0_3 a0_4 a0_5 a0_6 a0_7 a1 t115 _ ?side1 ?side2 A3.out).mono ?_);(case side1=>repeat (first|exact (Kd.C_below HR0_3.out HB.out)|(with_reducible refine Kd.C_alloc ?_ _)|(with_reducible refine Kd.C_drewN ?_ _)|(with_reducible refine Kd.C_drew ?_)));(case side2=>exact HC0_3.out);rintro e w12 ⟨rfl,hb⟩;refine ⟨_,rfl,?_⟩;have n0_:=mk1_ (blk_below (g:=gb114) (o:=.cells #[.int .i64 a0_0,.int .i64 a0_1,.int .i64 a0_2,.slice A0_3 l0_3.length c0_3,.int .i64 a0_4,.int .i64 a0_5,.bool a0_6,.int .i64 a0_7,.slice A0_8 l0_8.length c0_8] 29 (0,0)) (by (with_reducible repeat (first|refine kN1_ ?_ _|refine kD1_ ?_|refine blk_alloc ?_ _));exact BK114.out) hb);have n1_:=mk1_ (bT1_ (by repeat (first|(with_reducible first|exact HB.out|apply bA1_|apply bN1_|apply bD1_|refine bS1_ ?_ GE114.out)|exact HB.out)) hb);clear BK114;clear HB;have BK114:=n0_;have HB:=n1_;clear n0_ n1_;(try clear hb);(try clear hb2);(try clear hk);(try clear hi);have hcz13_0:w12.cell? ⟨gb114,0,none⟩=some (.int .i64 a0_0):=(blk_cell BK114.out 0).trans rfl;have hcz13_1:w12.cell? ⟨gb114,1,none⟩=some (.int .i64 a0_1):=(blk_cell BK114.out 1).trans rfl;have hcz13_2:w12.cell? ⟨gb114,2,none⟩=some (.int .i64 a0_2):=(blk_cell BK114.out 2).trans rfl;have hcz13_3:w12.cell? ⟨gb114,3,none⟩=some (.slice A0_3 l0_3.length c0_3):=(blk_cell BK114.out 3).trans rfl;have hcz13_4:w12.cell? ⟨gb114,4,none⟩=some (.int .i64 a0_4):=(blk_cell BK114.out 4).trans rfl;have hcz13_5:w12.cell? ⟨gb114,5,none⟩=some (.int .i64 a0_5):=(blk_cell BK114.out 5).trans rfl;have hcz13_6:w12.cell? ⟨gb114,6,none⟩=some (.bool a0_6):=(blk_cell BK114.out 6).trans rfl;have hcz13_7:w12.cell? ⟨gb114,7,none⟩=some (.int .i64 a0_7):=(blk_cell BK114.out 7).trans rfl;have hcz13_8:w12.cell? ⟨gb114,8,none⟩=some (.slice A0_8 l0_8.length c0_8):=(blk_cell BK114.out 8).trans rfl;have hfz13_0:=fZ1_ BK114.out 0;have hfz13_1:=fZ1_ BK114.out 1;have hfz13_2:=fZ1_ BK114.out 2;have hfz13_3:=fZ1_ BK114.out 3;have hfz13_4:=fZ1_ BK114.out 4;have hfz13_5:=fZ1_ BK114.out 5;have hfz13_6:=fZ1_ BK114.out 6;have hfz13_7:=fZ1_ BK114.out 7;have hfz13_8:=fZ1_ BK114.out 8)|((with_reducible refine gate_callee (f:=13) rfl ?_);refine goesL_ (some 14) rfl rfl Try.func13 (by kernel_rfl) rfl #[.slice A0_8 l0_8.length c0_8,.int .i64 t115] rfl (by (try simp only [List.map_toArray,List.map_cons,List.map_nil]);first|done|rfl|(simp only [List.length_drop,List.length_take];rfl)) ?_;(with_reducible refine (laws_szZoneS.calls k _ _ l0_8 t115 t116 _ ?side1 ?side2 A8.out).mono ?_);(case side1=>repeat (first|exact (Kd.C_below HR0_8.out HB.out)|(with_reducible refine Kd.C_alloc ?_ _)|(with_reducible refine Kd.C_drewN ?_ _)|(with_reducible refine Kd.C_drew ?_)));(case side2=>exact HC0_8.out);rintro e w14 ⟨rfl,hb⟩;refine ⟨_,rfl,?_⟩;have n0_:=mk1_ (blk_below (g:=gb114) (o:=.cells #[.int .i64 a0_0,.int .i64 a0_1,.int .i64 a0_2,.slice A0_3 l0_3.length c0_3,.int .i64 a0_4,.int .i64 a0_5,.bool a0_6,.int .i64 a0_7,.slice A0_8 l0_8.length c0_8] 29 (0,0)) (by (with_reducible repeat (first|refine kN1_ ?_ _|refine kD1_ ?_|refine blk_alloc ?_ _));exact BK114.out) hb);have n1_:=mk1_ (bT1_ (by repeat (first|(with_reducible first|exact HB.out|apply bA1_|apply bN1_|apply bD1_|refine bS1_ ?_ GE114.out)|exact HB.out)) hb);clear BK114;clear HB;have BK114:=n0_;have HB:=n1_;clear n0_ n1_;(try clear hb);(try clear hb2);(try clear hk);(try clear hi)))
   go_ret
   exact ⟨by first|rfl|(simp [errW_none,errW_some] <;> rfl)|(simp [*,errW_none,errW_some] <;> rfl),by repeat (first|(with_reducible first|exact HB.out|apply bA1_|apply bN1_|apply bD1_|refine bS1_ ?_ GE114.out)|exact HB.out)⟩
  ·rw [if_neg c9] at H
   have c9b0 : decide (t116 < 0) = false := decide_eq_false c9
   clear c9
   obtain rfl := Option.some.inj H
   go_enter Try.func5, Try.ntmps5
   go_wp2_with (first|((with_reducible refine gate_dst (N:=2) rfl ?_);refine box_event ?hg (N:=2) ?hd (cs:=#[.int .i64 a0_0,.int .i64 a0_1,.int .i64 a0_2,.slice A0_3 l0_3.length c0_3,.int .i64 a0_4,.int .i64 a0_5,.bool a0_6,.int .i64 a0_7,.slice A0_8 l0_8.length c0_8]) (t:=29) ?hr ?_;(case hd=>rfl);(case hg=>rfl);(case hr=>first|(go_simp;done)|(go_simp;rfl));intro gb114 hg w15 hbox hb;have n0_:=mk1_ (bT1_ (by repeat (first|(with_reducible first|exact HB.out|apply bA1_|apply bN1_|apply bD1_)|exact HB.out)) hb);have n1_:=mk1_ (hbox);have n2_:=mk1_ ((by rw [hg];exact (bZ1_ (by repeat (first|(with_reducible first|exact HB.out|apply bA1_|apply bN1_|apply bD1_)|exact HB.out))):w.heap.size≤gb114));have n3_:=mk1_ ((by rw [hg];exact (bZ1_ (by repeat (first|(with_reducible first|exact HB.out|apply bA1_|apply bN1_|apply bD1_)|exact HB.out))):w.heap.size≤gb114));clear HB;have HB:=n0_;have BK114:=n1_;have GW114:=n2_;have GE114:=n3_;clear n0_ n1_ n2_ n3_;clear hb hbox hg;have hcz16_0:w15.cell? ⟨gb114,0,none⟩=some (.int .i64 a0_0):=(blk_cell BK114.out 0).trans rfl;have hcz16_1:w15.cell? ⟨gb114,1,none⟩=some (.int .i64 a0_1):=(blk_cell BK114.out 1).trans rfl;have hcz16_2:w15.cell? ⟨gb114,2,none⟩=some (.int .i64 a0_2):=(blk_cell BK114.out 2).trans rfl;have hcz16_3:w15.cell? ⟨gb114,3,none⟩=some (.slice A0_3 l0_3.length c0_3):=(blk_cell BK114.out 3).trans rfl;have hcz16_4:w15.cell? ⟨gb114,4,none⟩=some (.int .i64 a0_4):=(blk_cell BK114.out 4).trans rfl;have hcz16_5:w15.cell? ⟨gb114,5,none⟩=some (.int .i64 a0_5):=(blk_cell BK114.out 5).trans rfl;have hcz16_6:w15.cell? ⟨gb114,6,none⟩=some (.bool a0_6):=(blk_cell BK114.out 6).trans rfl;have hcz16_7:w15.cell? ⟨gb114,7,none⟩=some (.int .i64 a0_7):=(blk_cell BK114.out 7).trans rfl;have hcz16_8:w15.cell? ⟨gb114,8,none⟩=some (.slice A0_8 l0_8.length c0_8):=(blk_cell BK114.out 8).trans rfl;have hfz16_0:=fZ1_ BK114.out 0;have hfz16_1:=fZ1_ BK114.out 1;have hfz16_2:=fZ1_ BK114.out 2;have hfz16_3:=fZ1_ BK114.out 3;have hfz16_4:=fZ1_ BK114.out 4;have hfz16_5:=fZ1_ BK114.out 5;have hfz16_6:=fZ1_ BK114.out 6;have hfz16_7:=fZ1_ BK114.out 7;have hfz16_8:=fZ1_ BK114.out 8)|((with_reducible refine gate_callee (f:=12) rfl ?_);refine goesL_ (some 8) rfl rfl Try.func12 (by kernel_rfl) rfl #[.agg #[.int .i64 a0_0,.int .i64 a0_1,.int .i64 a0_2,.slice A0_3 l0_3.length c0_3,.int .i64 a0_4,.int .i64 a0_5,.bool a0_6,.int .i64 a0_7],.int .i64 a1] rfl (by (try simp only [List.map_toArray,List.map_cons,List.map_nil]);first|done|rfl|(simp only [List.length_drop,List.length_take];rfl)) ?_;(with_reducible refine (laws_szFlash.calls k a0_0 a0_1 a0_2 _ _ l0_3 a0_4 a0_5 a0_6 a0_7 a1 t115 _ ?side1 ?side2 A3.out).mono ?_);(case side1=>repeat (first|exact (Kd.C_below HR0_3.out HB.out)|(with_reducible refine Kd.C_alloc ?_ _)|(with_reducible refine Kd.C_drewN ?_ _)|(with_reducible refine Kd.C_drew ?_)));(case side2=>exact HC0_3.out);rintro e w17 ⟨rfl,hb⟩;refine ⟨_,rfl,?_⟩;have n0_:=mk1_ (blk_below (g:=gb114) (o:=.cells #[.int .i64 a0_0,.int .i64 a0_1,.int .i64 a0_2,.slice A0_3 l0_3.length c0_3,.int .i64 a0_4,.int .i64 a0_5,.bool a0_6,.int .i64 a0_7,.slice A0_8 l0_8.length c0_8] 29 (0,0)) (by (with_reducible repeat (first|refine kN1_ ?_ _|refine kD1_ ?_|refine blk_alloc ?_ _));exact BK114.out) hb);have n1_:=mk1_ (bT1_ (by repeat (first|(with_reducible first|exact HB.out|apply bA1_|apply bN1_|apply bD1_|refine bS1_ ?_ GE114.out)|exact HB.out)) hb);clear BK114;clear HB;have BK114:=n0_;have HB:=n1_;clear n0_ n1_;(try clear hb);(try clear hb2);(try clear hk);(try clear hi);have hcz18_0:w17.cell? ⟨gb114,0,none⟩=some (.int .i64 a0_0):=(blk_cell BK114.out 0).trans rfl;have hcz18_1:w17.cell? ⟨gb114,1,none⟩=some (.int .i64 a0_1):=(blk_cell BK114.out 1).trans rfl;have hcz18_2:w17.cell? ⟨gb114,2,none⟩=some (.int .i64 a0_2):=(blk_cell BK114.out 2).trans rfl;have hcz18_3:w17.cell? ⟨gb114,3,none⟩=some (.slice A0_3 l0_3.length c0_3):=(blk_cell BK114.out 3).trans rfl;have hcz18_4:w17.cell? ⟨gb114,4,none⟩=some (.int .i64 a0_4):=(blk_cell BK114.out 4).trans rfl;have hcz18_5:w17.cell? ⟨gb114,5,none⟩=some (.int .i64 a0_5):=(blk_cell BK114.out 5).trans rfl;have hcz18_6:w17.cell? ⟨gb114,6,none⟩=some (.bool a0_6):=(blk_cell BK114.out 6).trans rfl;have hcz18_7:w17.cell? ⟨gb114,7,none⟩=some (.int .i64 a0_7):=(blk_cell BK114.out 7).trans rfl;have hcz18_8:w17.cell? ⟨gb114,8,none⟩=some (.slice A0_8 l0_8.length c0_8):=(blk_cell BK114.out 8).trans rfl;have hfz18_0:=fZ1_ BK114.out 0;have hfz18_1:=fZ1_ BK114.out 1;have hfz18_2:=fZ1_ BK114.out 2;have hfz18_3:=fZ1_ BK114.out 3;have hfz18_4:=fZ1_ BK114.out 4;have hfz18_5:=fZ1_ BK114.out 5;have hfz18_6:=fZ1_ BK114.out 6;have hfz18_7:=fZ1_ BK114.out 7;have hfz18_8:=fZ1_ BK114.out 8)|((with_reducible refine gate_callee (f:=13) rfl ?_);refine goesL_ (some 14) rfl rfl Try.func13 (by kernel_rfl) rfl #[.slice A0_8 l0_8.length c0_8,.int .i64 t115] rfl (by (try simp only [List.map_toArray,List.map_cons,List.map_nil]);first|done|rfl|(simp only [List.length_drop,List.length_take];rfl)) ?_;(with_reducible refine (laws_szZoneS.calls k _ _ l0_8 t115 t116 _ ?side1 ?side2 A8.out).mono ?_);(case side1=>repeat (first|exact (Kd.C_below HR0_8.out HB.out)|(with_reducible refine Kd.C_alloc ?_ _)|(with_reducible refine Kd.C_drewN ?_ _)|(with_reducible refine Kd.C_drew ?_)));(case side2=>exact HC0_8.out);rintro e w19 ⟨rfl,hb⟩;refine ⟨_,rfl,?_⟩;have n0_:=mk1_ (blk_below (g:=gb114) (o:=.cells #[.int .i64 a0_0,.int .i64 a0_1,.int .i64 a0_2,.slice A0_3 l0_3.length c0_3,.int .i64 a0_4,.int .i64 a0_5,.bool a0_6,.int .i64 a0_7,.slice A0_8 l0_8.length c0_8] 29 (0,0)) (by (with_reducible repeat (first|refine kN1_ ?_ _|refine kD1_ ?_|refine blk_alloc ?_ _));exact BK114.out) hb);have n1_:=mk1_ (bT1_ (by repeat (first|(with_reducible first|exact HB.out|apply bA1_|apply bN1_|apply bD1_|refine bS1_ ?_ GE114.out)|exact HB.out)) hb);clear BK114;clear HB;have BK114:=n0_;have HB:=n1_;clear n0_ n1_;(try clear hb);(try clear hb2);(try clear hk);(try clear hi)))
   go_ret
   exact ⟨by first|rfl|(simp [errW_none,errW_some] <;> rfl)|(simp [*,errW_none,errW_some] <;> rfl),by repeat (first|(with_reducible first|exact HB.out|apply bA1_|apply bN1_|apply bD1_|refine bS1_ ?_ GE114.out)|exact HB.out)⟩

def laws_toGeometry.f (a0_0:Int) (a0_1:Int) (a0_2:Int):Option (Int × Int × Int):=some (a0_0,a0_1,a0_2)
set_option maxHeartbeats 8000000 in
set_option maxRecDepth 100000 in
theorem laws_toGeometry.calls (a0_0:Int) (a0_1:Int) (a0_2:Int) (r1:Int) (r2:Int) (r3:Int) (w:World) (h:laws_toGeometry.f a0_0 a0_1 a0_2=some (r1,r2,r3)) :
  Calls Try.prog 36 #[.agg #[.int .i64 a0_0,.int .i64 a0_1,.int .i64 a0_2]] w fun e w'=>e=.returned (.agg #[.int .i64 r1,.int .i64 r2,.int .i64 r3])∧Below w.heap.size w w':=by
 have hu23 := Try.underlying23
 have hu32 := Try.underlying32
 have HB := Aside0.mk (Below.refl w.heap.size w)
 have H : (some (a0_0, a0_1, a0_2)) = some (r1, r2, r3) := h
 clear h
 simp only [Option.some.injEq, Prod.mk.injEq] at H
 obtain ⟨rfl, rfl, rfl⟩ := H
 go_enter Try.func36, Try.ntmps36
 go_wp2_with (first|((with_reducible refine gate_dst (N:=1) rfl ?_);refine box_event ?hg (N:=1) ?hd (cs:=#[.int .i64 a0_0,.int .i64 a0_1,.int .i64 a0_2]) (t:=23) ?hr ?_;(case hd=>rfl);(case hg=>rfl);(case hr=>first|(go_simp;done)|(go_simp;rfl));intro gb117 hg w2 hbox hb;have n0_:=mk1_ (bT1_ (by repeat (first|(with_reducible first|exact HB.out|apply bA1_|apply bN1_|apply bD1_)|exact HB.out)) hb);have n1_:=mk1_ (hbox);have n2_:=mk1_ ((by rw [hg];exact (bZ1_ (by repeat (first|(with_reducible first|exact HB.out|apply bA1_|apply bN1_|apply bD1_)|exact HB.out))):w.heap.size≤gb117));have n3_:=mk1_ ((by rw [hg];exact (bZ1_ (by repeat (first|(with_reducible first|exact HB.out|apply bA1_|apply bN1_|apply bD1_)|exact HB.out))):w.heap.size≤gb117));clear HB;have HB:=n0_;have BK117:=n1_;have GW117:=n2_;have GE117:=n3_;clear n0_ n1_ n2_ n3_;clear hb hbox hg)|((with_reducible refine gate_dst (N:=2) rfl ?_);refine box_event ?hg (N:=2) ?hd (cs:=#[.int .i64 0,.int .i64 0,.int .i64 0]) (t:=32) ?hr ?_;(case hd=>rfl);(case hg=>rfl);(case hr=>first|(go_simp;done)|(go_simp;rfl));intro gb118 hg w3 hbox hb;have n0_:=mk1_ (blk_below (g:=gb117) (o:=.cells #[.int .i64 a0_0,.int .i64 a0_1,.int .i64 a0_2] 23 (0,0)) (by (with_reducible repeat (first|refine kN1_ ?_ _|refine kD1_ ?_|refine blk_alloc ?_ _));exact BK117.out) hb);have n1_:=mk1_ (bT1_ (by repeat (first|(with_reducible first|exact HB.out|apply bA1_|apply bN1_|apply bD1_|refine bS1_ ?_ GE117.out)|exact HB.out)) hb);have n2_:=mk1_ (hbox);have n3_:=mk1_ ((by rw [hg];exact (bZ1_ (by repeat (first|(with_reducible first|exact HB.out|apply bA1_|apply bN1_|apply bD1_|refine bS1_ ?_ GE117.out)|exact HB.out))):w.heap.size≤gb118));have n4_:=mk1_ ((by rw [hg];exact (bZ1_ (by repeat (first|(with_reducible first|exact HB.out|apply bA1_|apply bN1_|apply bD1_|refine bS1_ ?_ GE117.out)|exact HB.out))):w.heap.size≤gb118));have n5_:=mk1_ ((by rw [hg];exact Nat.ne_of_lt (blk_lt (g:=gb117) (o:=.cells #[.int .i64 a0_0,.int .i64 a0_1,.int .i64 a0_2] 23 (0,0)) (by (with_reducible repeat (first|refine kN1_ ?_ _|refine kD1_ ?_|refine blk_alloc ?_ _));exact BK117.out)):gb117≠gb118));have n6_:=mk1_ ((by rw [hg];exact Nat.ne_of_gt (blk_lt (g:=gb117) (o:=.cells #[.int .i64 a0_0,.int .i64 a0_1,.int .i64 a0_2] 23 (0,0)) (by (with_reducible repeat (first|refine kN1_ ?_ _|refine kD1_ ?_|refine blk_alloc ?_ _));exact BK117.out)):gb118≠gb117));clear BK117;clear HB;have BK117:=n0_;have HB:=n1_;have BK118:=n2_;have GW118:=n3_;have GE118:=n4_;have NB117_118:=n5_;have NB118_117:=n6_;clear n0_ n1_ n2_ n3_ n4_ n5_ n6_;clear hb hbox hg)|((with_reducible refine gate_dst (N:=3) rfl ?_);refine box_event ?hg (N:=3) ?hd (cs:=#[.int .i64 0,.int .i64 0,.int .i64 0]) (t:=32) ?hr ?_;(case hd=>rfl);(case hg=>rfl);(case hr=>first|(go_simp;done)|(go_simp;rfl));intro gb119 hg w4 hbox hb;have n0_:=mk1_ (blk_below (g:=gb117) (o:=.cells #[.int .i64 a0_0,.int .i64 a0_1,.int .i64 a0_2] 23 (0,0)) (by (with_reducible repeat (first|refine kN1_ ?_ _|refine kD1_ ?_|refine blk_alloc ?_ _));exact BK117.out) hb);have n1_:=mk1_ (blk_below (g:=gb118) (o:=.cells #[.int .i64 0,.int .i64 0,.int .i64 0] 32 (0,0)) (by (with_reducible repeat (first|refine kN1_ ?_ _|refine kD1_ ?_|refine blk_alloc ?_ _));exact BK118.out) hb);have n2_:=mk1_ (bT1_ (by repeat (first|(with_reducible first|exact HB.out|apply bA1_|apply bN1_|apply bD1_|refine bS1_ ?_ GE117.out|refine bS1_ ?_ GE118.out)|exact HB.out)) hb);have n3_:=mk1_ (hbox);have n4_:=mk1_ ((by rw [hg];exact (bZ1_ (by repeat (first|(with_reducible first|exact HB.out|apply bA1_|apply bN1_|apply bD1_|refine bS1_ ?_ GE117.out|refine bS1_ ?_ GE118.out)|exact HB.out))):w.heap.size≤gb119));have n5_:=mk1_ ((by rw [hg];exact (bZ1_ (by repeat (first|(with_reducible first|exact HB.out|apply bA1_|apply bN1_|apply bD1_|refine bS1_ ?_ GE117.out|refine bS1_ ?_ GE118.out)|exact HB.out))):w.heap.size≤gb119));have n6_:=mk1_ ((by rw [hg];exact Nat.ne_of_lt (blk_lt (g:=gb117) (o:=.cells #[.int .i64 a0_0,.int .i64 a0_1,.int .i64 a0_2] 23 (0,0)) (by (with_reducible repeat (first|refine kN1_ ?_ _|refine kD1_ ?_|refine blk_alloc ?_ _));exact BK117.out)):gb117≠gb119));have n7_:=mk1_ ((by rw [hg];exact Nat.ne_of_gt (blk_lt (g:=gb117) (o:=.cells #[.int .i64 a0_0,.int .i64 a0_1,.int .i64 a0_2] 23 (0,0)) (by (with_reducible repeat (first|refine kN1_ ?_ _|refine kD1_ ?_|refine blk_alloc ?_ _));exact BK117.out)):gb119≠gb117));have n8_:=mk1_ ((by rw [hg];exact Nat.ne_of_lt (blk_lt (g:=gb118) (o:=.cells #[.int .i64 0,.int .i64 0,.int .i64 0] 32 (0,0)) (by (with_reducible repeat (first|refine kN1_ ?_ _|refine kD1_ ?_|refine blk_alloc ?_ _));exact BK118.out)):gb118≠gb119));have n9_:=mk1_ ((by rw [hg];exact Nat.ne_of_gt (blk_lt (g:=gb118) (o:=.cells #[.int .i64 0,.int .i64 0,.int .i64 0] 32 (0,0)) (by (with_reducible repeat (first|refine kN1_ ?_ _|refine kD1_ ?_|refine blk_alloc ?_ _));exact BK118.out)):gb119≠gb118));clear BK117;clear BK118;clear HB;have BK117:=n0_;have BK118:=n1_;have HB:=n2_;have BK119:=n3_;have GW119:=n4_;have GE119:=n5_;have NB117_119:=n6_;have NB119_117:=n7_;have NB118_119:=n8_;have NB119_118:=n9_;clear n0_ n1_ n2_ n3_ n4_ n5_ n6_ n7_ n8_ n9_;clear hb hbox hg;have hnb5:=NB117_118.out;have hnc5:=NB118_117.out;have hnb6:=NB117_119.out;have hnc6:=NB119_117.out;have hcz7_0:w4.cell? ⟨gb117,0,none⟩=some (.int .i64 a0_0):=(blk_cell BK117.out 0).trans rfl;have hcz7_1:w4.cell? ⟨gb117,1,none⟩=some (.int .i64 a0_1):=(blk_cell BK117.out 1).trans rfl;have hcz7_2:w4.cell? ⟨gb117,2,none⟩=some (.int .i64 a0_2):=(blk_cell BK117.out 2).trans rfl;have hfz7_0:=fZ1_ BK117.out 0;have hfz7_1:=fZ1_ BK117.out 1;have hfz7_2:=fZ1_ BK117.out 2;have hnb8:=NB119_118.out;have hnc8:=NB118_119.out;have hcz9_0:w4.cell? ⟨gb119,0,none⟩=some (.int .i64 0):=(blk_cell BK119.out 0).trans rfl;have hcz9_1:w4.cell? ⟨gb119,1,none⟩=some (.int .i64 0):=(blk_cell BK119.out 1).trans rfl;have hcz9_2:w4.cell? ⟨gb119,2,none⟩=some (.int .i64 0):=(blk_cell BK119.out 2).trans rfl;have hfz9_0:=fZ1_ BK119.out 0;have hfz9_1:=fZ1_ BK119.out 1;have hfz9_2:=fZ1_ BK119.out 2;have hcz10_0:w4.cell? ⟨gb118,0,none⟩=some (.int .i64 0):=(blk_cell BK118.out 0).trans rfl;have hcz10_1:w4.cell? ⟨gb118,1,none⟩=some (.int .i64 0):=(blk_cell BK118.out 1).trans rfl;have hcz10_2:w4.cell? ⟨gb118,2,none⟩=some (.int .i64 0):=(blk_cell BK118.out 2).trans rfl;have hfz10_0:=fZ1_ BK118.out 0;have hfz10_1:=fZ1_ BK118.out 1;have hfz10_2:=fZ1_ BK118.out 2))
 refine bodyPost_ret (results_cell_row rfl _ _ gb118 32 #[.int .i64 a0_0,.int .i64 a0_1,.int .i64 a0_2] (0,0) _ rfl (by (with_reducible repeat (first|refine kN1_ ?_ _|refine kD1_ ?_|refine blk_alloc ?_ _));refine blk_put (cs:=#[.int .i64 a0_0,.int .i64 a0_1,.int .i64 0]) ?_ 2 _ rfl;(with_reducible repeat (first|refine kN1_ ?_ _|refine kD1_ ?_|refine blk_alloc ?_ _));refine blk_put (cs:=#[.int .i64 a0_0,.int .i64 0,.int .i64 0]) ?_ 1 _ rfl;(with_reducible repeat (first|refine kN1_ ?_ _|refine kD1_ ?_|refine blk_alloc ?_ _));refine blk_put (cs:=#[.int .i64 0,.int .i64 0,.int .i64 0]) ?_ 0 _ rfl;(with_reducible repeat (first|refine kN1_ ?_ _|refine kD1_ ?_|refine blk_alloc ?_ _));refine blk_far ?_ NB118_119.out _;(with_reducible repeat (first|refine kN1_ ?_ _|refine kD1_ ?_|refine blk_alloc ?_ _));refine blk_far ?_ NB118_119.out _;(with_reducible repeat (first|refine kN1_ ?_ _|refine kD1_ ?_|refine blk_alloc ?_ _));refine blk_far ?_ NB118_119.out _;(with_reducible repeat (first|refine kN1_ ?_ _|refine kD1_ ?_|refine blk_alloc ?_ _));exact BK118.out) Try.underlying32 rfl (by kernel_rfl)) rfl ?_
 exact ⟨by first|rfl|(simp [errW_none,errW_some] <;> rfl)|(simp [*,errW_none,errW_some] <;> rfl),by repeat (first|(with_reducible first|exact HB.out|apply bA1_|apply bN1_|apply bD1_|refine bS1_ ?_ GE117.out|refine bS1_ ?_ GE118.out|refine bS1_ ?_ GE119.out)|exact HB.out)⟩

def laws_toStringS.l0 : Nat → List ByteArray → List ByteArray → Int → Option (List ByteArray)
 | 0, _, _, _ => none
 | k+1,x0,x3,x4=>if x4 < (x0.length:Int) then (if 0≤x4 then (if x4 < (x3.length:Int) then (laws_toStringS.l0 k x0 (x3.set (x4:Int).toNat (rdOf ByteArray.empty x0 x4)) (wrap64 (x4+1))) else (none)) else (none)) else (some x3)
def laws_toStringS.f (k:Nat) (l0:List ByteArray):Option (List ByteArray):=if 0≤(l0.length:Int) then (if ((l0.length:Int):Int).toNat≤17592186044416 then (laws_toStringS.l0 k l0 (List.replicate ((l0.length:Int):Int).toNat (⟨#[]⟩:ByteArray)) 0) else (none)) else (none)
set_option maxHeartbeats 8000000 in
set_option maxRecDepth 100000 in
theorem laws_toStringS.calls (k:Nat) (A0:Option Addr) (c0:Nat) (l0:List ByteArray) (r:List ByteArray) (w:World) (hr0:Kd.C Kd.string w A0 l0.length l0) (hc0:l0.length≤c0) (h:laws_toStringS.f k l0=some r) :
  Calls Try.prog 58 #[.slice A0 l0.length c0] w fun e w'=>∃ v0_:Value,e=.returned (v0_)∧Kd.R Kd.string 9 w' w.heap.size (fun _=>True) v0_ r∧Below w.heap.size w w':=by
 have HR0 := Aside0.mk hr0
 have HC0 := Aside0.mk hc0
 clear hr0 hc0
 have HB := Aside0.mk (Below.refl w.heap.size w)
 have H:(if 0≤(l0.length:Int) then (if ((l0.length:Int):Int).toNat≤17592186044416 then (laws_toStringS.l0 k l0 (List.replicate ((l0.length:Int):Int).toNat (⟨#[]⟩:ByteArray)) 0) else (none)) else (none))=some r:=h
 clear h
 by_cases c2 : 0 ≤ (l0.length : Int)
 ·rw [if_pos c2] at H
  have c2b0 := eq_true c2
  have c2b1 : decide (0 ≤ (l0.length : Int)) = true := decide_eq_true c2
  clear c2
  by_cases c3 : ((l0.length : Int) : Int).toNat ≤ 17592186044416
  ·rw [if_pos c3] at H
   have c3b0 := eq_true c3
   have c3b1:decide (((l0.length:Int):Int).toNat≤17592186044416)=true:=decide_eq_true c3
   clear c3
   obtain ⟨y120,hy120⟩:∃ y_:List ByteArray,y_=(List.replicate ((l0.length:Int):Int).toNat (⟨#[]⟩:ByteArray)):=⟨_,rfl⟩
   replace H:(laws_toStringS.l0 k l0 y120 0)=some r:=by first|(rw [hy120];with_reducible exact H)|(have H2_:=(Option.bind_some _ _).symm.trans H;rw [hy120];with_reducible exact H2_)|(have H2_:=(Option.bind_some _ _).symm.trans H;with_reducible exact H2_)|with_reducible exact H|(rw [hy120];exact H)|exact H
   have Ny120 := Aside0.mk hy120
   clear hy120
   have H' := Aside0.mk H
   clear H
   go_enter Try.func58, Try.ntmps58
   go_wp2_with (first|((with_reducible refine gate_dst (N:=7) rfl ?_);refine Kd.R_make Kd.string _ 9 rfl (N:=7) rfl 48 _ _ rfl (l0.length:Int) rfl rfl Try.underlying48 (.string ⟨#[]⟩) 16 info9 rfl (by decide) (by omega) (⟨#[]⟩:ByteArray) (ok:=fun _=>True) (okp:=fun _=>True) rfl (fun _ hk=>hk) trivial (of_decide_eq_true (by first|(with_reducible assumption)|assumption)) (Nat.le_trans (Nat.mul_le_mul_right _ (of_decide_eq_true (by first|(with_reducible assumption)|assumption):(l0.length:Int).toNat≤17592186044416)) (by omega)) (Below.refl _ _) (Nat.le_refl _) ?_;intro v121 w4 ho5 hb hg_ hnew_;clear hg_ hnew_;(first|rw [← Ny120.out] at ho5|(simp only [Int.reduceToNat] at ho5;rw [← Ny120.out] at ho5));have n0_:=mk1_ (Kd.R_lower ho5 (bZ1_ (by repeat (first|(with_reducible first|exact HB.out|apply bA1_|apply bN1_|apply bD1_)|exact HB.out))));have n1_:=mk1_ (bT1_ (by repeat (first|(with_reducible first|exact HB.out|apply bA1_|apply bN1_|apply bD1_)|exact HB.out)) hb);clear HB;have HO122:=n0_;have HB:=n1_;clear n0_ n1_;clear hb ho5))
   go_loopg [4] k (fun kq v4 w'=>∃ (x3_1:List ByteArray) (x4_1:Int),v4=.int .i64 x4_1∧Aside0 (laws_toStringS.l0 kq l0 x3_1 x4_1=some r)∧Aside0 (kq≤k)∧Aside0 (Kd.R Kd.string 9 w' w.heap.size (fun _=>True) v121 x3_1)∧Aside0 (Below w.heap.size w w'))
   case atStart=>exact ⟨(y120),(0),(by first|rfl|(simp;done)|(simp [*];done)),H',⟨Nat.le_refl _⟩,⟨by (with_reducible repeat (first|apply Kd.R_alloc|apply rN1_|apply Kd.R_drew));exact HO122.out⟩,⟨by repeat (first|(with_reducible first|exact HB.out|apply bA1_|apply bN1_|apply bD1_)|exact HB.out)⟩⟩
   case round =>
    clear H'
    try clear c2
    try clear c2b0
    try clear c2b1
    try clear p2
    try clear c3
    try clear c3b0
    try clear c3b1
    try clear c5
    obtain ⟨x3_1, x4_1, rfl, HA, HK1, HO_3, HB⟩ := hrel
    cases gk with
    | zero => exact absurd HA.out (by simp [laws_toStringS.l0])
    | succ k1 =>
     have H := HA.out
     clear HA
     simp only [laws_toStringS.l0] at H
     by_cases c6 : x4_1 < (l0.length : Int)
     ·rw [if_pos c6] at H
      have c6b0 : decide (x4_1 < (l0.length : Int)) = true := decide_eq_true c6
      clear c6
      by_cases c7 : 0 ≤ x4_1
      ·rw [if_pos c7] at H
       have c7b0 : decide (0 ≤ x4_1) = true := decide_eq_true c7
       clear c7
       by_cases c8 : x4_1 < (x3_1.length : Int)
       ·rw [if_pos c8] at H
        have c8b0 : decide (x4_1 < (x3_1.length : Int)) = true := decide_eq_true c8
        clear c8
        obtain ⟨y124,hy124⟩:∃ y_:List ByteArray,y_=(x3_1.set (x4_1:Int).toNat (rdOf ByteArray.empty l0 x4_1)):=⟨_,rfl⟩
        replace H:(laws_toStringS.l0 k1 l0 y124 (wrap64 (x4_1+1)))=some r:=by first|(rw [hy124];with_reducible exact H)|(have H2_:=(Option.bind_some _ _).symm.trans H;rw [hy124];with_reducible exact H2_)|(have H2_:=(Option.bind_some _ _).symm.trans H;with_reducible exact H2_)|with_reducible exact H|(rw [hy124];exact H)|exact H
        have Ny124 := Aside0.mk hy124
        clear hy124
        have H' := Aside0.mk H
        clear H
        have p123:0≤(x4_1:Int):=of_decide_eq_true (by first|(with_reducible assumption)|assumption)
        have q123:x4_1 < (l0.length:Int):=of_decide_eq_true (by first|(with_reducible assumption)|assumption)
        obtain ⟨ad123, e123, hx123_0⟩ := Kd.at_string HR0.out x4_1 p123 q123
        cases e123
        replace hx123_0:=(HB.out.cell (World.block_lt_of_cell? w _ hx123_0)).trans hx123_0
        replace p123 := eq_true p123
        replace q123 := eq_true q123
        have p9:0≤(x4_1:Int):=of_decide_eq_true (by first|(with_reducible assumption)|assumption)
        have q9:(x4_1:Int) < ((x3_1.length:Int):Int):=of_decide_eq_true (by first|(with_reducible assumption)|assumption)
        obtain ⟨go9, co9, eo9, gb9, gl9, cl9, HG9⟩ := Kd.R_form HO_3.out (by omega)
        (first|cases eo9|(injection eo9 with ea_ en_ ec_;(first|subst ea_|(injection ea_ with ea_;subst ea_));subst ec_;clear en_))
        have GB9 := Aside0.mk gb9
        have GG9 := Aside0.mk HG9
        clear gb9 gl9 HG9
        obtain ⟨hx9_0, hf9_0⟩ := Kd.R_celln (⟨#[]⟩ : ByteArray) HO_3.out (x4_1 : Int) p9 q9
        replace p9 := eq_true p9
        replace q9 := eq_true q9
        have HP10 := Kd.R_putg HO_3.out (x4_1 : Int) (rdOf ByteArray.empty l0 x4_1)
        go_wp2_with (first|((with_reducible refine gate_store (t:=9) (p:=20) rfl ?_);refine store_event (t:=9) (p:=20) (v:=?vo_w11) (w1:=(wr.setCell ⟨go9,(x4_1:Int).toNat,none⟩ (.string (rdOf ByteArray.empty l0 x4_1)))) ?hg ?ho ?hn ?hr ?_;(case ho=>rfl);(case hg=>rfl);(case hn=>rfl);(case hr=>first|(go_simp;done)|(go_simp;rfl));intro w11 hw;have hg:wr.grownBy w11 (some go9):=(by rw [hw];exact HP10.2);have hp_:Kd.R Kd.string 9 w11 w.heap.size (fun _=>True) (.slice (some ⟨go9,0,none⟩) x3_1.length co9) y124:=(by rw [hw,Ny124.out];exact HP10.1);clear HP10;have n0_:=mk1_ (hp_);have n1_:=mk1_ ((by rw [hw];exact bS1_ (HB.out) GB9.out:Below w.heap.size w w11));clear HO_3;clear HB;have HO_3:=n0_;have HB:=n1_;clear n0_ n1_;clear hg hw hp_))
        go_roundg k1
        case measure => have := HK1.out; omega
        case rel=>exact ⟨(y124),(wrap64 (x4_1+1)),(by first|rfl|(simp;done)|(simp [*];done)),H',⟨by have:=HK1.out;omega⟩,⟨by (with_reducible repeat (first|apply Kd.R_alloc|apply rN1_|apply Kd.R_drew));exact HO_3.out⟩,⟨by repeat (first|(with_reducible first|exact HB.out|apply bA1_|apply bN1_|apply bD1_)|exact HB.out)⟩⟩
       ·rw [if_neg c8] at H
        exact absurd H (by simp)
      ·rw [if_neg c7] at H
       exact absurd H (by simp)
     ·rw [if_neg c6] at H
      have c6b0 : decide (x4_1 < (l0.length : Int)) = false := decide_eq_false c6
      clear c6
      obtain rfl := Option.some.inj H
      go_wp2
      go_ret
      exact ⟨_,by first|rfl|(simp [errW_none,errW_some] <;> rfl)|(simp [*,errW_none,errW_some] <;> rfl),by (with_reducible repeat (first|apply Kd.R_alloc|apply rN1_|apply Kd.R_drew));exact HO_3.out,by repeat (first|(with_reducible first|exact HB.out|apply bA1_|apply bN1_|apply bD1_)|exact HB.out)⟩
  ·rw [if_neg c3] at H
   exact absurd H (by simp)
 ·rw [if_neg c2] at H
  exact absurd H (by simp)

end Go.Proofs.Ytdjbphffibcbeaa.Q
