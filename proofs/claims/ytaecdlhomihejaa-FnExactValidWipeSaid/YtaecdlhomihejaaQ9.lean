/- The program's functions as Lean functions, and for each the proof that the machine's call comes to what its function says. Conditions: those that stand before each theorem. -/
import Derived.Test.YtaecdlhomihejaaQ0
import Derived.Test.YtaecdlhomihejaaQ1
import Derived.Test.YtaecdlhomihejaaQ4
import Derived.Test.YtaecdlhomihejaaQ5
import Derived.Test.YtaecdlhomihejaaQ6
import Derived.Test.YtaecdlhomihejaaQ8
namespace Go.Proofs.Ytaecdlhomihejaa.Q
open Go.RowKit Go.Proofs.YtaecdlhomihejaaW.PrintWords Go.Proofs.YtaecdlhomihejaaW.PrintLast Go.Proofs.YtaecdlhomihejaaW.PrintMore
abbrev bS_ := @below_set
abbrev mk_ := @Aside0.mk
abbrev fZ_ := @blk_frozen
abbrev sB_ := @Kd.S_below
abbrev bT_ := @below_step
abbrev bZ_ := @below_size
set_option linter.unusedVariables false
set_option linter.unusedSimpArgs false

def laws_FnExactValidWipe.f (k : Nat) (a0_0 : Int) (a0_1 : Int) (a0_2 : Int) (l0_3 : List (S172)) (a0_4 : Int) (a0_5 : Int) (a0_6 : Bool) (a0_7 : Int) (l1_0 : List Int) (a1_1 : Int) : Option (Bool):=(laws_szFlash.f k a0_0 a0_1 a0_2 l0_3 a0_4 a0_5 a0_6 a0_7 1048576).bind fun t259 => (if t259 < 0 then (some true) else ((laws_szWipe.f l1_0 a1_1 t259).bind fun t260 => (if t260 < 0 then (some true) else ((laws_toFlash.f k a0_0 a0_1 a0_2 l0_3 a0_4 a0_5 a0_6 a0_7).bind fun bt261 => ((laws_toWipe.f k l1_0 a1_1).bind fun bt271 => ((spec_ValidWipe.f k bt261.1 bt261.2.1 bt261.2.2.1 bt261.2.2.2.1 bt261.2.2.2.2.1 bt261.2.2.2.2.2.1 bt261.2.2.2.2.2.2.1 bt261.2.2.2.2.2.2.2 bt271.1 bt271.2).bind fun t275 => ((laws_toFlash.f k a0_0 a0_1 a0_2 l0_3 a0_4 a0_5 a0_6 a0_7).bind fun bt276 => ((laws_toWipe.f k l1_0 a1_1).bind fun bt287 => ((impl_ValidWipe.f k bt276.1 bt276.2.1 bt276.2.2.1 bt276.2.2.2.1 bt276.2.2.2.2.1 bt276.2.2.2.2.2.1 bt276.2.2.2.2.2.2.1 bt276.2.2.2.2.2.2.2 bt287.1 bt287.2).bind fun t292 => (if (t292 != t275) = true then (some false) else ((laws_toFlash.f k a0_0 a0_1 a0_2 l0_3 a0_4 a0_5 a0_6 a0_7).bind fun bt293 => ((laws_eqFlash.f k bt276.1 bt276.2.1 bt276.2.2.1 bt276.2.2.2.1 bt276.2.2.2.2.1 bt276.2.2.2.2.2.1 bt276.2.2.2.2.2.2.1 bt276.2.2.2.2.2.2.2 bt293.1 bt293.2.1 bt293.2.2.1 bt293.2.2.2.1 bt293.2.2.2.2.1 bt293.2.2.2.2.2.1 bt293.2.2.2.2.2.2.1 bt293.2.2.2.2.2.2.2).bind fun t303 => (if t303 = true then ((laws_toWipe.f k l1_0 a1_1).bind fun bt304 => ((laws_eqWipe.f k bt287.1 bt287.2 bt304.1 bt304.2).bind fun t308 => (if t308 = true then (some true) else (some false)))) else (some false))))))))))))))
set_option maxHeartbeats 8000000 in
set_option maxRecDepth 100000 in
theorem laws_FnExactValidWipe.calls (k : Nat) (a0_0 : Int) (a0_1 : Int) (a0_2 : Int) (A0_3 : Option Addr) (c0_3 : Nat) (l0_3 : List (S172)) (a0_4 : Int) (a0_5 : Int) (a0_6 : Bool) (a0_7 : Int) (A1_0 : Option Addr) (c1_0 : Nat) (l1_0 : List Int) (a1_1 : Int) (r : Bool) (w : World) (hr0_3 : Kd.C k172 w A0_3 l0_3.length l0_3) (hc0_3 : l0_3.length ≤ c0_3) (hr1_0 : Kd.C (Kd.int .i64) w A1_0 l1_0.length l1_0) (hc1_0 : l1_0.length ≤ c1_0) (h : laws_FnExactValidWipe.f k a0_0 a0_1 a0_2 l0_3 a0_4 a0_5 a0_6 a0_7 l1_0 a1_1 = some r) :
    Calls Try.prog 6 #[.agg #[.int .i64 a0_0,.int .i64 a0_1,.int .i64 a0_2,.slice A0_3 l0_3.length c0_3,.int .i64 a0_4,.int .i64 a0_5,.bool a0_6,.int .i64 a0_7],.agg #[.slice A1_0 l1_0.length c1_0,.int .i64 a1_1]] w fun e w' => e = .returned (.bool r) ∧ Below w.heap.size w w':=by
  have hu26 := Try.underlying26
  have hu66 := Try.underlying66
  have hu40 := Try.underlying40
  have hu69 := Try.underlying69
  have HR0_3 := Aside0.mk hr0_3
  have HC0_3 := Aside0.mk hc0_3
  clear hr0_3 hc0_3
  have HR1_0 := Aside0.mk hr1_0
  have HC1_0 := Aside0.mk hc1_0
  clear hr1_0 hc1_0
  have HB := Aside0.mk (Below.refl w.heap.size w)
  have H : ((laws_szFlash.f k a0_0 a0_1 a0_2 l0_3 a0_4 a0_5 a0_6 a0_7 1048576).bind fun t259 => (if t259 < 0 then (some true) else ((laws_szWipe.f l1_0 a1_1 t259).bind fun t260 => (if t260 < 0 then (some true) else ((laws_toFlash.f k a0_0 a0_1 a0_2 l0_3 a0_4 a0_5 a0_6 a0_7).bind fun bt261 => ((laws_toWipe.f k l1_0 a1_1).bind fun bt271 => ((spec_ValidWipe.f k bt261.1 bt261.2.1 bt261.2.2.1 bt261.2.2.2.1 bt261.2.2.2.2.1 bt261.2.2.2.2.2.1 bt261.2.2.2.2.2.2.1 bt261.2.2.2.2.2.2.2 bt271.1 bt271.2).bind fun t275 => ((laws_toFlash.f k a0_0 a0_1 a0_2 l0_3 a0_4 a0_5 a0_6 a0_7).bind fun bt276 => ((laws_toWipe.f k l1_0 a1_1).bind fun bt287 => ((impl_ValidWipe.f k bt276.1 bt276.2.1 bt276.2.2.1 bt276.2.2.2.1 bt276.2.2.2.2.1 bt276.2.2.2.2.2.1 bt276.2.2.2.2.2.2.1 bt276.2.2.2.2.2.2.2 bt287.1 bt287.2).bind fun t292 => (if (t292 != t275) = true then (some false) else ((laws_toFlash.f k a0_0 a0_1 a0_2 l0_3 a0_4 a0_5 a0_6 a0_7).bind fun bt293 => ((laws_eqFlash.f k bt276.1 bt276.2.1 bt276.2.2.1 bt276.2.2.2.1 bt276.2.2.2.2.1 bt276.2.2.2.2.2.1 bt276.2.2.2.2.2.2.1 bt276.2.2.2.2.2.2.2 bt293.1 bt293.2.1 bt293.2.2.1 bt293.2.2.2.1 bt293.2.2.2.2.1 bt293.2.2.2.2.2.1 bt293.2.2.2.2.2.2.1 bt293.2.2.2.2.2.2.2).bind fun t303 => (if t303 = true then ((laws_toWipe.f k l1_0 a1_1).bind fun bt304 => ((laws_eqWipe.f k bt287.1 bt287.2 bt304.1 bt304.2).bind fun t308 => (if t308 = true then (some true) else (some false)))) else (some false))))))))))))))) = some r:=h
  clear h
  replace H := Option.bind_eq_some_iff.mp H
  obtain ⟨t259, A30, H⟩ := H
  replace H : (if t259 < 0 then (some true) else ((laws_szWipe.f l1_0 a1_1 t259).bind fun t260 => (if t260 < 0 then (some true) else ((laws_toFlash.f k a0_0 a0_1 a0_2 l0_3 a0_4 a0_5 a0_6 a0_7).bind fun bt261 => ((laws_toWipe.f k l1_0 a1_1).bind fun bt271 => ((spec_ValidWipe.f k bt261.1 bt261.2.1 bt261.2.2.1 bt261.2.2.2.1 bt261.2.2.2.2.1 bt261.2.2.2.2.2.1 bt261.2.2.2.2.2.2.1 bt261.2.2.2.2.2.2.2 bt271.1 bt271.2).bind fun t275 => ((laws_toFlash.f k a0_0 a0_1 a0_2 l0_3 a0_4 a0_5 a0_6 a0_7).bind fun bt276 => ((laws_toWipe.f k l1_0 a1_1).bind fun bt287 => ((impl_ValidWipe.f k bt276.1 bt276.2.1 bt276.2.2.1 bt276.2.2.2.1 bt276.2.2.2.2.1 bt276.2.2.2.2.2.1 bt276.2.2.2.2.2.2.1 bt276.2.2.2.2.2.2.2 bt287.1 bt287.2).bind fun t292 => (if (t292 != t275) = true then (some false) else ((laws_toFlash.f k a0_0 a0_1 a0_2 l0_3 a0_4 a0_5 a0_6 a0_7).bind fun bt293 => ((laws_eqFlash.f k bt276.1 bt276.2.1 bt276.2.2.1 bt276.2.2.2.1 bt276.2.2.2.2.1 bt276.2.2.2.2.2.1 bt276.2.2.2.2.2.2.1 bt276.2.2.2.2.2.2.2 bt293.1 bt293.2.1 bt293.2.2.1 bt293.2.2.2.1 bt293.2.2.2.2.1 bt293.2.2.2.2.2.1 bt293.2.2.2.2.2.2.1 bt293.2.2.2.2.2.2.2).bind fun t303 => (if t303 = true then ((laws_toWipe.f k l1_0 a1_1).bind fun bt304 => ((laws_eqWipe.f k bt287.1 bt287.2 bt304.1 bt304.2).bind fun t308 => (if t308 = true then (some true) else (some false)))) else (some false)))))))))))))) = some r:=H
  have A3 := Aside0.mk A30
  clear A30
  by_cases c4 : t259 < 0
  · rw [if_pos c4] at H
    have c4b0 : decide (t259 < 0) = true := decide_eq_true c4
    clear c4
    obtain rfl := Option.some.inj H
    go_enter Try.func6, Try.ntmps6
    go_wp2_with (first|((with_reducible refine gate_dst (N:=2) rfl ?_);refine box_event ?hg (N:=2) ?hd (cs:=#[.int .i64 a0_0,.int .i64 a0_1,.int .i64 a0_2,.slice A0_3 l0_3.length c0_3,.int .i64 a0_4,.int .i64 a0_5,.bool a0_6,.int .i64 a0_7]) (t:=26) ?hr ?_;(case hd => rfl);(case hg => rfl);(case hr => first|(go_simp;done)|(go_simp;rfl));intro gb257 hg w5 hbox hb;have n0_:=mk_ (bT_ (by repeat (first|(with_reducible first|exact HB.out|apply bA_|apply bN_|apply bD_)|exact HB.out)) hb);have n1_:=mk_ (hbox);have n2_:=mk_ ((by rw [hg];exact (bZ_ (by repeat (first|(with_reducible first|exact HB.out|apply bA_|apply bN_|apply bD_)|exact HB.out))) : w.heap.size ≤ gb257));have n3_:=mk_ ((by rw [hg];exact (bZ_ (by repeat (first|(with_reducible first|exact HB.out|apply bA_|apply bN_|apply bD_)|exact HB.out))) : w.heap.size ≤ gb257));clear HB;have HB:=n0_;have BK257:=n1_;have GW257:=n2_;have GE257:=n3_;clear n0_ n1_ n2_ n3_;clear hb hbox hg)|((with_reducible refine gate_dst (N:=3) rfl ?_);refine box_event ?hg (N:=3) ?hd (cs:=#[.slice A1_0 l1_0.length c1_0,.int .i64 a1_1]) (t:=66) ?hr ?_;(case hd => rfl);(case hg => rfl);(case hr => first|(go_simp;done)|(go_simp;rfl));intro gb258 hg w6 hbox hb;have n0_:=mk_ (blk_below (g:=gb257) (o:=.cells #[.int .i64 a0_0,.int .i64 a0_1,.int .i64 a0_2,.slice A0_3 l0_3.length c0_3,.int .i64 a0_4,.int .i64 a0_5,.bool a0_6,.int .i64 a0_7] 26 (0,0)) (by (with_reducible repeat (first|refine kN_ ?_ _|refine kD_ ?_|refine kA_ ?_ _));exact BK257.out) hb);have n1_:=mk_ (bT_ (by repeat (first|(with_reducible first|exact HB.out|apply bA_|apply bN_|apply bD_|refine bS_ ?_ GE257.out)|exact HB.out)) hb);have n2_:=mk_ (hbox);have n3_:=mk_ ((by rw [hg];exact (bZ_ (by repeat (first|(with_reducible first|exact HB.out|apply bA_|apply bN_|apply bD_|refine bS_ ?_ GE257.out)|exact HB.out))) : w.heap.size ≤ gb258));have n4_:=mk_ ((by rw [hg];exact (bZ_ (by repeat (first|(with_reducible first|exact HB.out|apply bA_|apply bN_|apply bD_|refine bS_ ?_ GE257.out)|exact HB.out))) : w.heap.size ≤ gb258));have n5_:=mk_ ((by rw [hg];exact Nat.ne_of_lt (blk_lt (g:=gb257) (o:=.cells #[.int .i64 a0_0,.int .i64 a0_1,.int .i64 a0_2,.slice A0_3 l0_3.length c0_3,.int .i64 a0_4,.int .i64 a0_5,.bool a0_6,.int .i64 a0_7] 26 (0,0)) (by (with_reducible repeat (first|refine kN_ ?_ _|refine kD_ ?_|refine kA_ ?_ _));exact BK257.out)) : gb257 ≠ gb258));have n6_:=mk_ ((by rw [hg];exact Nat.ne_of_gt (blk_lt (g:=gb257) (o:=.cells #[.int .i64 a0_0,.int .i64 a0_1,.int .i64 a0_2,.slice A0_3 l0_3.length c0_3,.int .i64 a0_4,.int .i64 a0_5,.bool a0_6,.int .i64 a0_7] 26 (0,0)) (by (with_reducible repeat (first|refine kN_ ?_ _|refine kD_ ?_|refine kA_ ?_ _));exact BK257.out)) : gb258 ≠ gb257));clear BK257;clear HB;have BK257:=n0_;have HB:=n1_;have BK258:=n2_;have GW258:=n3_;have GE258:=n4_;have NB257_258:=n5_;have NB258_257:=n6_;clear n0_ n1_ n2_ n3_ n4_ n5_ n6_;clear hb hbox hg;have hnb7:=NB257_258.out;have hnc7:=NB258_257.out;have hcz8_0 : w6.cell? ⟨gb257,0,none⟩ = some (.int .i64 a0_0):=(blk_cell BK257.out 0).trans rfl;have hcz8_1 : w6.cell? ⟨gb257,1,none⟩ = some (.int .i64 a0_1):=(blk_cell BK257.out 1).trans rfl;have hcz8_2 : w6.cell? ⟨gb257,2,none⟩ = some (.int .i64 a0_2):=(blk_cell BK257.out 2).trans rfl;have hcz8_3 : w6.cell? ⟨gb257,3,none⟩ = some (.slice A0_3 l0_3.length c0_3):=(blk_cell BK257.out 3).trans rfl;have hcz8_4 : w6.cell? ⟨gb257,4,none⟩ = some (.int .i64 a0_4):=(blk_cell BK257.out 4).trans rfl;have hcz8_5 : w6.cell? ⟨gb257,5,none⟩ = some (.int .i64 a0_5):=(blk_cell BK257.out 5).trans rfl;have hcz8_6 : w6.cell? ⟨gb257,6,none⟩ = some (.bool a0_6):=(blk_cell BK257.out 6).trans rfl;have hcz8_7 : w6.cell? ⟨gb257,7,none⟩ = some (.int .i64 a0_7):=(blk_cell BK257.out 7).trans rfl;have hfz8_0:=fZ_ BK257.out 0;have hfz8_1:=fZ_ BK257.out 1;have hfz8_2:=fZ_ BK257.out 2;have hfz8_3:=fZ_ BK257.out 3;have hfz8_4:=fZ_ BK257.out 4;have hfz8_5:=fZ_ BK257.out 5;have hfz8_6:=fZ_ BK257.out 6;have hfz8_7:=fZ_ BK257.out 7)|((with_reducible refine gate_callee (f:=28) rfl ?_);refine goesL_ (some 12) rfl rfl Try.func28 (by kernel_rfl) rfl #[.agg #[.int .i64 a0_0,.int .i64 a0_1,.int .i64 a0_2,.slice A0_3 l0_3.length c0_3,.int .i64 a0_4,.int .i64 a0_5,.bool a0_6,.int .i64 a0_7],.int .i64 1048576] rfl (by (try simp only [List.map_toArray,List.map_cons,List.map_nil]);first|done|rfl|(simp only [List.length_drop,List.length_take];rfl)) ?_;(with_reducible refine (laws_szFlash.calls k a0_0 a0_1 a0_2 _ _ l0_3 a0_4 a0_5 a0_6 a0_7 1048576 t259 _ ?side1 ?side2 A3.out).mono ?_);(case side1 => repeat (first|exact (Kd.C_below HR0_3.out HB.out)|(with_reducible refine cA_ ?_ _)|(with_reducible refine Kd.C_drewN ?_ _)|(with_reducible refine Kd.C_drew ?_)));(case side2 => exact HC0_3.out);rintro e w9 ⟨rfl,hb⟩;refine ⟨_,rfl,?_⟩;have n0_:=mk_ (blk_below (g:=gb257) (o:=.cells #[.int .i64 a0_0,.int .i64 a0_1,.int .i64 a0_2,.slice A0_3 l0_3.length c0_3,.int .i64 a0_4,.int .i64 a0_5,.bool a0_6,.int .i64 a0_7] 26 (0,0)) (by (with_reducible repeat (first|refine kN_ ?_ _|refine kD_ ?_|refine kA_ ?_ _));exact BK257.out) hb);have n1_:=mk_ (blk_below (g:=gb258) (o:=.cells #[.slice A1_0 l1_0.length c1_0,.int .i64 a1_1] 66 (0,0)) (by (with_reducible repeat (first|refine kN_ ?_ _|refine kD_ ?_|refine kA_ ?_ _));exact BK258.out) hb);have n2_:=mk_ (bT_ (by repeat (first|(with_reducible first|exact HB.out|apply bA_|apply bN_|apply bD_|refine bS_ ?_ GE257.out|refine bS_ ?_ GE258.out)|exact HB.out)) hb);clear BK257;clear BK258;clear HB;have BK257:=n0_;have BK258:=n1_;have HB:=n2_;clear n0_ n1_ n2_;(try clear hb);(try clear hb2);(try clear hk);(try clear hi)))
    go_ret
    exact ⟨by first|rfl|(simp [errW_none,errW_some] <;> rfl)|(simp [*,errW_none,errW_some] <;> rfl),by repeat (first|(with_reducible first|exact HB.out|apply bA_|apply bN_|apply bD_|refine bS_ ?_ GE257.out|refine bS_ ?_ GE258.out)|exact HB.out)⟩
  · rw [if_neg c4] at H
    have c4b0 : decide (t259 < 0) = false := decide_eq_false c4
    clear c4
    replace H := Option.bind_eq_some_iff.mp H
    obtain ⟨t260, A100, H⟩ := H
    replace H : (if t260 < 0 then (some true) else ((laws_toFlash.f k a0_0 a0_1 a0_2 l0_3 a0_4 a0_5 a0_6 a0_7).bind fun bt261 => ((laws_toWipe.f k l1_0 a1_1).bind fun bt271 => ((spec_ValidWipe.f k bt261.1 bt261.2.1 bt261.2.2.1 bt261.2.2.2.1 bt261.2.2.2.2.1 bt261.2.2.2.2.2.1 bt261.2.2.2.2.2.2.1 bt261.2.2.2.2.2.2.2 bt271.1 bt271.2).bind fun t275 => ((laws_toFlash.f k a0_0 a0_1 a0_2 l0_3 a0_4 a0_5 a0_6 a0_7).bind fun bt276 => ((laws_toWipe.f k l1_0 a1_1).bind fun bt287 => ((impl_ValidWipe.f k bt276.1 bt276.2.1 bt276.2.2.1 bt276.2.2.2.1 bt276.2.2.2.2.1 bt276.2.2.2.2.2.1 bt276.2.2.2.2.2.2.1 bt276.2.2.2.2.2.2.2 bt287.1 bt287.2).bind fun t292 => (if (t292 != t275) = true then (some false) else ((laws_toFlash.f k a0_0 a0_1 a0_2 l0_3 a0_4 a0_5 a0_6 a0_7).bind fun bt293 => ((laws_eqFlash.f k bt276.1 bt276.2.1 bt276.2.2.1 bt276.2.2.2.1 bt276.2.2.2.2.1 bt276.2.2.2.2.2.1 bt276.2.2.2.2.2.2.1 bt276.2.2.2.2.2.2.2 bt293.1 bt293.2.1 bt293.2.2.1 bt293.2.2.2.1 bt293.2.2.2.2.1 bt293.2.2.2.2.2.1 bt293.2.2.2.2.2.2.1 bt293.2.2.2.2.2.2.2).bind fun t303 => (if t303 = true then ((laws_toWipe.f k l1_0 a1_1).bind fun bt304 => ((laws_eqWipe.f k bt287.1 bt287.2 bt304.1 bt304.2).bind fun t308 => (if t308 = true then (some true) else (some false)))) else (some false)))))))))))) = some r:=H
    have A10 := Aside0.mk A100
    clear A100
    by_cases c11 : t260 < 0
    · rw [if_pos c11] at H
      have c11b0 : decide (t260 < 0) = true := decide_eq_true c11
      clear c11
      obtain rfl := Option.some.inj H
      go_enter Try.func6, Try.ntmps6
      go_wp2_with (first|((with_reducible refine gate_dst (N:=2) rfl ?_);refine box_event ?hg (N:=2) ?hd (cs:=#[.int .i64 a0_0,.int .i64 a0_1,.int .i64 a0_2,.slice A0_3 l0_3.length c0_3,.int .i64 a0_4,.int .i64 a0_5,.bool a0_6,.int .i64 a0_7]) (t:=26) ?hr ?_;(case hd => rfl);(case hg => rfl);(case hr => first|(go_simp;done)|(go_simp;rfl));intro gb257 hg w12 hbox hb;have n0_:=mk_ (bT_ (by repeat (first|(with_reducible first|exact HB.out|apply bA_|apply bN_|apply bD_)|exact HB.out)) hb);have n1_:=mk_ (hbox);have n2_:=mk_ ((by rw [hg];exact (bZ_ (by repeat (first|(with_reducible first|exact HB.out|apply bA_|apply bN_|apply bD_)|exact HB.out))) : w.heap.size ≤ gb257));have n3_:=mk_ ((by rw [hg];exact (bZ_ (by repeat (first|(with_reducible first|exact HB.out|apply bA_|apply bN_|apply bD_)|exact HB.out))) : w.heap.size ≤ gb257));clear HB;have HB:=n0_;have BK257:=n1_;have GW257:=n2_;have GE257:=n3_;clear n0_ n1_ n2_ n3_;clear hb hbox hg)|((with_reducible refine gate_dst (N:=3) rfl ?_);refine box_event ?hg (N:=3) ?hd (cs:=#[.slice A1_0 l1_0.length c1_0,.int .i64 a1_1]) (t:=66) ?hr ?_;(case hd => rfl);(case hg => rfl);(case hr => first|(go_simp;done)|(go_simp;rfl));intro gb258 hg w13 hbox hb;have n0_:=mk_ (blk_below (g:=gb257) (o:=.cells #[.int .i64 a0_0,.int .i64 a0_1,.int .i64 a0_2,.slice A0_3 l0_3.length c0_3,.int .i64 a0_4,.int .i64 a0_5,.bool a0_6,.int .i64 a0_7] 26 (0,0)) (by (with_reducible repeat (first|refine kN_ ?_ _|refine kD_ ?_|refine kA_ ?_ _));exact BK257.out) hb);have n1_:=mk_ (bT_ (by repeat (first|(with_reducible first|exact HB.out|apply bA_|apply bN_|apply bD_|refine bS_ ?_ GE257.out)|exact HB.out)) hb);have n2_:=mk_ (hbox);have n3_:=mk_ ((by rw [hg];exact (bZ_ (by repeat (first|(with_reducible first|exact HB.out|apply bA_|apply bN_|apply bD_|refine bS_ ?_ GE257.out)|exact HB.out))) : w.heap.size ≤ gb258));have n4_:=mk_ ((by rw [hg];exact (bZ_ (by repeat (first|(with_reducible first|exact HB.out|apply bA_|apply bN_|apply bD_|refine bS_ ?_ GE257.out)|exact HB.out))) : w.heap.size ≤ gb258));have n5_:=mk_ ((by rw [hg];exact Nat.ne_of_lt (blk_lt (g:=gb257) (o:=.cells #[.int .i64 a0_0,.int .i64 a0_1,.int .i64 a0_2,.slice A0_3 l0_3.length c0_3,.int .i64 a0_4,.int .i64 a0_5,.bool a0_6,.int .i64 a0_7] 26 (0,0)) (by (with_reducible repeat (first|refine kN_ ?_ _|refine kD_ ?_|refine kA_ ?_ _));exact BK257.out)) : gb257 ≠ gb258));have n6_:=mk_ ((by rw [hg];exact Nat.ne_of_gt (blk_lt (g:=gb257) (o:=.cells #[.int .i64 a0_0,.int .i64 a0_1,.int .i64 a0_2,.slice A0_3 l0_3.length c0_3,.int .i64 a0_4,.int .i64 a0_5,.bool a0_6,.int .i64 a0_7] 26 (0,0)) (by (with_reducible repeat (first|refine kN_ ?_ _|refine kD_ ?_|refine kA_ ?_ _));exact BK257.out)) : gb258 ≠ gb257));clear BK257;clear HB;have BK257:=n0_;have HB:=n1_;have BK258:=n2_;have GW258:=n3_;have GE258:=n4_;have NB257_258:=n5_;have NB258_257:=n6_;clear n0_ n1_ n2_ n3_ n4_ n5_ n6_;clear hb hbox hg;have hnb14:=NB257_258.out;have hnc14:=NB258_257.out;have hcz15_0 : w13.cell? ⟨gb257,0,none⟩ = some (.int .i64 a0_0):=(blk_cell BK257.out 0).trans rfl;have hcz15_1 : w13.cell? ⟨gb257,1,none⟩ = some (.int .i64 a0_1):=(blk_cell BK257.out 1).trans rfl;have hcz15_2 : w13.cell? ⟨gb257,2,none⟩ = some (.int .i64 a0_2):=(blk_cell BK257.out 2).trans rfl;have hcz15_3 : w13.cell? ⟨gb257,3,none⟩ = some (.slice A0_3 l0_3.length c0_3):=(blk_cell BK257.out 3).trans rfl;have hcz15_4 : w13.cell? ⟨gb257,4,none⟩ = some (.int .i64 a0_4):=(blk_cell BK257.out 4).trans rfl;have hcz15_5 : w13.cell? ⟨gb257,5,none⟩ = some (.int .i64 a0_5):=(blk_cell BK257.out 5).trans rfl;have hcz15_6 : w13.cell? ⟨gb257,6,none⟩ = some (.bool a0_6):=(blk_cell BK257.out 6).trans rfl;have hcz15_7 : w13.cell? ⟨gb257,7,none⟩ = some (.int .i64 a0_7):=(blk_cell BK257.out 7).trans rfl;have hfz15_0:=fZ_ BK257.out 0;have hfz15_1:=fZ_ BK257.out 1;have hfz15_2:=fZ_ BK257.out 2;have hfz15_3:=fZ_ BK257.out 3;have hfz15_4:=fZ_ BK257.out 4;have hfz15_5:=fZ_ BK257.out 5;have hfz15_6:=fZ_ BK257.out 6;have hfz15_7:=fZ_ BK257.out 7)|((with_reducible refine gate_callee (f:=28) rfl ?_);refine goesL_ (some 12) rfl rfl Try.func28 (by kernel_rfl) rfl #[.agg #[.int .i64 a0_0,.int .i64 a0_1,.int .i64 a0_2,.slice A0_3 l0_3.length c0_3,.int .i64 a0_4,.int .i64 a0_5,.bool a0_6,.int .i64 a0_7],.int .i64 1048576] rfl (by (try simp only [List.map_toArray,List.map_cons,List.map_nil]);first|done|rfl|(simp only [List.length_drop,List.length_take];rfl)) ?_;(with_reducible refine (laws_szFlash.calls k a0_0 a0_1 a0_2 _ _ l0_3 a0_4 a0_5 a0_6 a0_7 1048576 t259 _ ?side1 ?side2 A3.out).mono ?_);(case side1 => repeat (first|exact (Kd.C_below HR0_3.out HB.out)|(with_reducible refine cA_ ?_ _)|(with_reducible refine Kd.C_drewN ?_ _)|(with_reducible refine Kd.C_drew ?_)));(case side2 => exact HC0_3.out);rintro e w16 ⟨rfl,hb⟩;refine ⟨_,rfl,?_⟩;have n0_:=mk_ (blk_below (g:=gb257) (o:=.cells #[.int .i64 a0_0,.int .i64 a0_1,.int .i64 a0_2,.slice A0_3 l0_3.length c0_3,.int .i64 a0_4,.int .i64 a0_5,.bool a0_6,.int .i64 a0_7] 26 (0,0)) (by (with_reducible repeat (first|refine kN_ ?_ _|refine kD_ ?_|refine kA_ ?_ _));exact BK257.out) hb);have n1_:=mk_ (blk_below (g:=gb258) (o:=.cells #[.slice A1_0 l1_0.length c1_0,.int .i64 a1_1] 66 (0,0)) (by (with_reducible repeat (first|refine kN_ ?_ _|refine kD_ ?_|refine kA_ ?_ _));exact BK258.out) hb);have n2_:=mk_ (bT_ (by repeat (first|(with_reducible first|exact HB.out|apply bA_|apply bN_|apply bD_|refine bS_ ?_ GE257.out|refine bS_ ?_ GE258.out)|exact HB.out)) hb);clear BK257;clear BK258;clear HB;have BK257:=n0_;have BK258:=n1_;have HB:=n2_;clear n0_ n1_ n2_;(try clear hb);(try clear hb2);(try clear hk);(try clear hi);have hcz17_0 : w16.cell? ⟨gb258,0,none⟩ = some (.slice A1_0 l1_0.length c1_0):=(blk_cell BK258.out 0).trans rfl;have hcz17_1 : w16.cell? ⟨gb258,1,none⟩ = some (.int .i64 a1_1):=(blk_cell BK258.out 1).trans rfl;have hfz17_0:=fZ_ BK258.out 0;have hfz17_1:=fZ_ BK258.out 1)|((with_reducible refine gate_callee (f:=33) rfl ?_);refine goesL_ (some 17) rfl rfl Try.func33 (by kernel_rfl) rfl #[.agg #[.slice A1_0 l1_0.length c1_0,.int .i64 a1_1],.int .i64 t259] rfl (by (try simp only [List.map_toArray,List.map_cons,List.map_nil]);first|done|rfl|(simp only [List.length_drop,List.length_take];rfl)) ?_;(with_reducible refine (laws_szWipe.calls _ _ l1_0 a1_1 t259 t260 _ ?side1 ?side2 A10.out).mono ?_);(case side1 => repeat (first|exact (Kd.C_below HR1_0.out HB.out)|(with_reducible refine cA_ ?_ _)|(with_reducible refine Kd.C_drewN ?_ _)|(with_reducible refine Kd.C_drew ?_)));(case side2 => exact HC1_0.out);rintro e w18 ⟨rfl,hb⟩;refine ⟨_,rfl,?_⟩;have n0_:=mk_ (blk_below (g:=gb257) (o:=.cells #[.int .i64 a0_0,.int .i64 a0_1,.int .i64 a0_2,.slice A0_3 l0_3.length c0_3,.int .i64 a0_4,.int .i64 a0_5,.bool a0_6,.int .i64 a0_7] 26 (0,0)) (by (with_reducible repeat (first|refine kN_ ?_ _|refine kD_ ?_|refine kA_ ?_ _));exact BK257.out) hb);have n1_:=mk_ (blk_below (g:=gb258) (o:=.cells #[.slice A1_0 l1_0.length c1_0,.int .i64 a1_1] 66 (0,0)) (by (with_reducible repeat (first|refine kN_ ?_ _|refine kD_ ?_|refine kA_ ?_ _));exact BK258.out) hb);have n2_:=mk_ (bT_ (by repeat (first|(with_reducible first|exact HB.out|apply bA_|apply bN_|apply bD_|refine bS_ ?_ GE257.out|refine bS_ ?_ GE258.out)|exact HB.out)) hb);clear BK257;clear BK258;clear HB;have BK257:=n0_;have BK258:=n1_;have HB:=n2_;clear n0_ n1_ n2_;(try clear hb);(try clear hb2);(try clear hk);(try clear hi)))
      go_ret
      exact ⟨by first|rfl|(simp [errW_none,errW_some] <;> rfl)|(simp [*,errW_none,errW_some] <;> rfl),by repeat (first|(with_reducible first|exact HB.out|apply bA_|apply bN_|apply bD_|refine bS_ ?_ GE257.out|refine bS_ ?_ GE258.out)|exact HB.out)⟩
    · rw [if_neg c11] at H
      have c11b0 : decide (t260 < 0) = false := decide_eq_false c11
      clear c11
      replace H := Option.bind_eq_some_iff.mp H
      obtain ⟨⟨t261, t262, t263, t264, t267, t268, t269, t270⟩, A190, H⟩ := H
      replace H : ((laws_toWipe.f k l1_0 a1_1).bind fun bt271 => ((spec_ValidWipe.f k t261 t262 t263 t264 t267 t268 t269 t270 bt271.1 bt271.2).bind fun t275 => ((laws_toFlash.f k a0_0 a0_1 a0_2 l0_3 a0_4 a0_5 a0_6 a0_7).bind fun bt276 => ((laws_toWipe.f k l1_0 a1_1).bind fun bt287 => ((impl_ValidWipe.f k bt276.1 bt276.2.1 bt276.2.2.1 bt276.2.2.2.1 bt276.2.2.2.2.1 bt276.2.2.2.2.2.1 bt276.2.2.2.2.2.2.1 bt276.2.2.2.2.2.2.2 bt287.1 bt287.2).bind fun t292 => (if (t292 != t275) = true then (some false) else ((laws_toFlash.f k a0_0 a0_1 a0_2 l0_3 a0_4 a0_5 a0_6 a0_7).bind fun bt293 => ((laws_eqFlash.f k bt276.1 bt276.2.1 bt276.2.2.1 bt276.2.2.2.1 bt276.2.2.2.2.1 bt276.2.2.2.2.2.1 bt276.2.2.2.2.2.2.1 bt276.2.2.2.2.2.2.2 bt293.1 bt293.2.1 bt293.2.2.1 bt293.2.2.2.1 bt293.2.2.2.2.1 bt293.2.2.2.2.2.1 bt293.2.2.2.2.2.2.1 bt293.2.2.2.2.2.2.2).bind fun t303 => (if t303 = true then ((laws_toWipe.f k l1_0 a1_1).bind fun bt304 => ((laws_eqWipe.f k bt287.1 bt287.2 bt304.1 bt304.2).bind fun t308 => (if t308 = true then (some true) else (some false)))) else (some false)))))))))) = some r:=H
      have A19 := Aside0.mk A190
      clear A190
      replace H := Option.bind_eq_some_iff.mp H
      obtain ⟨⟨t271, t274⟩, A200, H⟩ := H
      replace H : ((spec_ValidWipe.f k t261 t262 t263 t264 t267 t268 t269 t270 t271 t274).bind fun t275 => ((laws_toFlash.f k a0_0 a0_1 a0_2 l0_3 a0_4 a0_5 a0_6 a0_7).bind fun bt276 => ((laws_toWipe.f k l1_0 a1_1).bind fun bt287 => ((impl_ValidWipe.f k bt276.1 bt276.2.1 bt276.2.2.1 bt276.2.2.2.1 bt276.2.2.2.2.1 bt276.2.2.2.2.2.1 bt276.2.2.2.2.2.2.1 bt276.2.2.2.2.2.2.2 bt287.1 bt287.2).bind fun t292 => (if (t292 != t275) = true then (some false) else ((laws_toFlash.f k a0_0 a0_1 a0_2 l0_3 a0_4 a0_5 a0_6 a0_7).bind fun bt293 => ((laws_eqFlash.f k bt276.1 bt276.2.1 bt276.2.2.1 bt276.2.2.2.1 bt276.2.2.2.2.1 bt276.2.2.2.2.2.1 bt276.2.2.2.2.2.2.1 bt276.2.2.2.2.2.2.2 bt293.1 bt293.2.1 bt293.2.2.1 bt293.2.2.2.1 bt293.2.2.2.2.1 bt293.2.2.2.2.2.1 bt293.2.2.2.2.2.2.1 bt293.2.2.2.2.2.2.2).bind fun t303 => (if t303 = true then ((laws_toWipe.f k l1_0 a1_1).bind fun bt304 => ((laws_eqWipe.f k bt287.1 bt287.2 bt304.1 bt304.2).bind fun t308 => (if t308 = true then (some true) else (some false)))) else (some false))))))))) = some r:=H
      have A20 := Aside0.mk A200
      clear A200
      replace H := Option.bind_eq_some_iff.mp H
      obtain ⟨t275, A210, H⟩ := H
      replace H : ((laws_toFlash.f k a0_0 a0_1 a0_2 l0_3 a0_4 a0_5 a0_6 a0_7).bind fun bt276 => ((laws_toWipe.f k l1_0 a1_1).bind fun bt287 => ((impl_ValidWipe.f k bt276.1 bt276.2.1 bt276.2.2.1 bt276.2.2.2.1 bt276.2.2.2.2.1 bt276.2.2.2.2.2.1 bt276.2.2.2.2.2.2.1 bt276.2.2.2.2.2.2.2 bt287.1 bt287.2).bind fun t292 => (if (t292 != t275) = true then (some false) else ((laws_toFlash.f k a0_0 a0_1 a0_2 l0_3 a0_4 a0_5 a0_6 a0_7).bind fun bt293 => ((laws_eqFlash.f k bt276.1 bt276.2.1 bt276.2.2.1 bt276.2.2.2.1 bt276.2.2.2.2.1 bt276.2.2.2.2.2.1 bt276.2.2.2.2.2.2.1 bt276.2.2.2.2.2.2.2 bt293.1 bt293.2.1 bt293.2.2.1 bt293.2.2.2.1 bt293.2.2.2.2.1 bt293.2.2.2.2.2.1 bt293.2.2.2.2.2.2.1 bt293.2.2.2.2.2.2.2).bind fun t303 => (if t303 = true then ((laws_toWipe.f k l1_0 a1_1).bind fun bt304 => ((laws_eqWipe.f k bt287.1 bt287.2 bt304.1 bt304.2).bind fun t308 => (if t308 = true then (some true) else (some false)))) else (some false)))))))) = some r:=H
      have A21 := Aside0.mk A210
      clear A210
      replace H := Option.bind_eq_some_iff.mp H
      obtain ⟨⟨t276, t277, t278, t279, t282, t283, t284, t285⟩, A220, H⟩ := H
      replace H : ((laws_toWipe.f k l1_0 a1_1).bind fun bt287 => ((impl_ValidWipe.f k t276 t277 t278 t279 t282 t283 t284 t285 bt287.1 bt287.2).bind fun t292 => (if (t292 != t275) = true then (some false) else ((laws_toFlash.f k a0_0 a0_1 a0_2 l0_3 a0_4 a0_5 a0_6 a0_7).bind fun bt293 => ((laws_eqFlash.f k t276 t277 t278 t279 t282 t283 t284 t285 bt293.1 bt293.2.1 bt293.2.2.1 bt293.2.2.2.1 bt293.2.2.2.2.1 bt293.2.2.2.2.2.1 bt293.2.2.2.2.2.2.1 bt293.2.2.2.2.2.2.2).bind fun t303 => (if t303 = true then ((laws_toWipe.f k l1_0 a1_1).bind fun bt304 => ((laws_eqWipe.f k bt287.1 bt287.2 bt304.1 bt304.2).bind fun t308 => (if t308 = true then (some true) else (some false)))) else (some false))))))) = some r:=H
      have A22 := Aside0.mk A220
      clear A220
      replace H := Option.bind_eq_some_iff.mp H
      obtain ⟨⟨t287, t290⟩, A230, H⟩ := H
      replace H : ((impl_ValidWipe.f k t276 t277 t278 t279 t282 t283 t284 t285 t287 t290).bind fun t292 => (if (t292 != t275) = true then (some false) else ((laws_toFlash.f k a0_0 a0_1 a0_2 l0_3 a0_4 a0_5 a0_6 a0_7).bind fun bt293 => ((laws_eqFlash.f k t276 t277 t278 t279 t282 t283 t284 t285 bt293.1 bt293.2.1 bt293.2.2.1 bt293.2.2.2.1 bt293.2.2.2.2.1 bt293.2.2.2.2.2.1 bt293.2.2.2.2.2.2.1 bt293.2.2.2.2.2.2.2).bind fun t303 => (if t303 = true then ((laws_toWipe.f k l1_0 a1_1).bind fun bt304 => ((laws_eqWipe.f k t287 t290 bt304.1 bt304.2).bind fun t308 => (if t308 = true then (some true) else (some false)))) else (some false)))))) = some r:=H
      have A23 := Aside0.mk A230
      clear A230
      replace H := Option.bind_eq_some_iff.mp H
      obtain ⟨t292, A240, H⟩ := H
      replace H : (if (t292 != t275) = true then (some false) else ((laws_toFlash.f k a0_0 a0_1 a0_2 l0_3 a0_4 a0_5 a0_6 a0_7).bind fun bt293 => ((laws_eqFlash.f k t276 t277 t278 t279 t282 t283 t284 t285 bt293.1 bt293.2.1 bt293.2.2.1 bt293.2.2.2.1 bt293.2.2.2.2.1 bt293.2.2.2.2.2.1 bt293.2.2.2.2.2.2.1 bt293.2.2.2.2.2.2.2).bind fun t303 => (if t303 = true then ((laws_toWipe.f k l1_0 a1_1).bind fun bt304 => ((laws_eqWipe.f k t287 t290 bt304.1 bt304.2).bind fun t308 => (if t308 = true then (some true) else (some false)))) else (some false))))) = some r:=H
      have A24 := Aside0.mk A240
      clear A240
      by_cases c25 : (t292 != t275) = true
      · rw [if_pos c25] at H
        have c25b0 : (t292 != t275) = true := c25
        (try (have c25b1 : decide (t292 = t275) = false := by simpa using c25))
        (try (have c25b2 : (t292 == t275) = false := by simpa using c25))
        (try (have c25b3 : ¬ (t292 = t275) := by simpa using c25))
        clear c25
        obtain rfl := Option.some.inj H
        go_enter Try.func6, Try.ntmps6
        try go_wp2_with (first|((with_reducible refine gate_dst (N:=2) rfl ?_);refine box_event ?hg (N:=2) ?hd (cs:=#[.int .i64 a0_0,.int .i64 a0_1,.int .i64 a0_2,.slice A0_3 l0_3.length c0_3,.int .i64 a0_4,.int .i64 a0_5,.bool a0_6,.int .i64 a0_7]) (t:=26) ?hr ?_;(case hd => rfl);(case hg => rfl);(case hr => first|(go_simp;done)|(go_simp;rfl));intro gb257 hg w26 hbox hb;have n0_:=mk_ (bT_ (by repeat (first|(with_reducible first|exact HB.out|apply bA_|apply bN_|apply bD_)|exact HB.out)) hb);have n1_:=mk_ (hbox);have n2_:=mk_ ((by rw [hg];exact (bZ_ (by repeat (first|(with_reducible first|exact HB.out|apply bA_|apply bN_|apply bD_)|exact HB.out))) : w.heap.size ≤ gb257));have n3_:=mk_ ((by rw [hg];exact (bZ_ (by repeat (first|(with_reducible first|exact HB.out|apply bA_|apply bN_|apply bD_)|exact HB.out))) : w.heap.size ≤ gb257));clear HB;have HB:=n0_;have BK257:=n1_;have GW257:=n2_;have GE257:=n3_;clear n0_ n1_ n2_ n3_;clear hb hbox hg)|((with_reducible refine gate_dst (N:=3) rfl ?_);refine box_event ?hg (N:=3) ?hd (cs:=#[.slice A1_0 l1_0.length c1_0,.int .i64 a1_1]) (t:=66) ?hr ?_;(case hd => rfl);(case hg => rfl);(case hr => first|(go_simp;done)|(go_simp;rfl));intro gb258 hg w27 hbox hb;have n0_:=mk_ (blk_below (g:=gb257) (o:=.cells #[.int .i64 a0_0,.int .i64 a0_1,.int .i64 a0_2,.slice A0_3 l0_3.length c0_3,.int .i64 a0_4,.int .i64 a0_5,.bool a0_6,.int .i64 a0_7] 26 (0,0)) (by (with_reducible repeat (first|refine kN_ ?_ _|refine kD_ ?_|refine kA_ ?_ _));exact BK257.out) hb);have n1_:=mk_ (bT_ (by repeat (first|(with_reducible first|exact HB.out|apply bA_|apply bN_|apply bD_|refine bS_ ?_ GE257.out)|exact HB.out)) hb);have n2_:=mk_ (hbox);have n3_:=mk_ ((by rw [hg];exact (bZ_ (by repeat (first|(with_reducible first|exact HB.out|apply bA_|apply bN_|apply bD_|refine bS_ ?_ GE257.out)|exact HB.out))) : w.heap.size ≤ gb258));have n4_:=mk_ ((by rw [hg];exact (bZ_ (by repeat (first|(with_reducible first|exact HB.out|apply bA_|apply bN_|apply bD_|refine bS_ ?_ GE257.out)|exact HB.out))) : w.heap.size ≤ gb258));have n5_:=mk_ ((by rw [hg];exact Nat.ne_of_lt (blk_lt (g:=gb257) (o:=.cells #[.int .i64 a0_0,.int .i64 a0_1,.int .i64 a0_2,.slice A0_3 l0_3.length c0_3,.int .i64 a0_4,.int .i64 a0_5,.bool a0_6,.int .i64 a0_7] 26 (0,0)) (by (with_reducible repeat (first|refine kN_ ?_ _|refine kD_ ?_|refine kA_ ?_ _));exact BK257.out)) : gb257 ≠ gb258));have n6_:=mk_ ((by rw [hg];exact Nat.ne_of_gt (blk_lt (g:=gb257) (o:=.cells #[.int .i64 a0_0,.int .i64 a0_1,.int .i64 a0_2,.slice A0_3 l0_3.length c0_3,.int .i64 a0_4,.int .i64 a0_5,.bool a0_6,.int .i64 a0_7] 26 (0,0)) (by (with_reducible repeat (first|refine kN_ ?_ _|refine kD_ ?_|refine kA_ ?_ _));exact BK257.out)) : gb258 ≠ gb257));clear BK257;clear HB;have BK257:=n0_;have HB:=n1_;have BK258:=n2_;have GW258:=n3_;have GE258:=n4_;have NB257_258:=n5_;have NB258_257:=n6_;clear n0_ n1_ n2_ n3_ n4_ n5_ n6_;clear hb hbox hg;have hnb28:=NB257_258.out;have hnc28:=NB258_257.out;have hcz29_0 : w27.cell? ⟨gb257,0,none⟩ = some (.int .i64 a0_0):=(blk_cell BK257.out 0).trans rfl;have hcz29_1 : w27.cell? ⟨gb257,1,none⟩ = some (.int .i64 a0_1):=(blk_cell BK257.out 1).trans rfl;have hcz29_2 : w27.cell? ⟨gb257,2,none⟩ = some (.int .i64 a0_2):=(blk_cell BK257.out 2).trans rfl;have hcz29_3 : w27.cell? ⟨gb257,3,none⟩ = some (.slice A0_3 l0_3.length c0_3):=(blk_cell BK257.out 3).trans rfl;have hcz29_4 : w27.cell? ⟨gb257,4,none⟩ = some (.int .i64 a0_4):=(blk_cell BK257.out 4).trans rfl;have hcz29_5 : w27.cell? ⟨gb257,5,none⟩ = some (.int .i64 a0_5):=(blk_cell BK257.out 5).trans rfl;have hcz29_6 : w27.cell? ⟨gb257,6,none⟩ = some (.bool a0_6):=(blk_cell BK257.out 6).trans rfl;have hcz29_7 : w27.cell? ⟨gb257,7,none⟩ = some (.int .i64 a0_7):=(blk_cell BK257.out 7).trans rfl;have hfz29_0:=fZ_ BK257.out 0;have hfz29_1:=fZ_ BK257.out 1;have hfz29_2:=fZ_ BK257.out 2;have hfz29_3:=fZ_ BK257.out 3;have hfz29_4:=fZ_ BK257.out 4;have hfz29_5:=fZ_ BK257.out 5;have hfz29_6:=fZ_ BK257.out 6;have hfz29_7:=fZ_ BK257.out 7)|((with_reducible refine gate_callee (f:=28) rfl ?_);refine goesL_ (some 12) rfl rfl Try.func28 (by kernel_rfl) rfl #[.agg #[.int .i64 a0_0,.int .i64 a0_1,.int .i64 a0_2,.slice A0_3 l0_3.length c0_3,.int .i64 a0_4,.int .i64 a0_5,.bool a0_6,.int .i64 a0_7],.int .i64 1048576] rfl (by (try simp only [List.map_toArray,List.map_cons,List.map_nil]);first|done|rfl|(simp only [List.length_drop,List.length_take];rfl)) ?_;(with_reducible refine (laws_szFlash.calls k a0_0 a0_1 a0_2 _ _ l0_3 a0_4 a0_5 a0_6 a0_7 1048576 t259 _ ?side1 ?side2 A3.out).mono ?_);(case side1 => repeat (first|exact (Kd.C_below HR0_3.out HB.out)|(with_reducible refine cA_ ?_ _)|(with_reducible refine Kd.C_drewN ?_ _)|(with_reducible refine Kd.C_drew ?_)));(case side2 => exact HC0_3.out);rintro e w30 ⟨rfl,hb⟩;refine ⟨_,rfl,?_⟩;have n0_:=mk_ (blk_below (g:=gb257) (o:=.cells #[.int .i64 a0_0,.int .i64 a0_1,.int .i64 a0_2,.slice A0_3 l0_3.length c0_3,.int .i64 a0_4,.int .i64 a0_5,.bool a0_6,.int .i64 a0_7] 26 (0,0)) (by (with_reducible repeat (first|refine kN_ ?_ _|refine kD_ ?_|refine kA_ ?_ _));exact BK257.out) hb);have n1_:=mk_ (blk_below (g:=gb258) (o:=.cells #[.slice A1_0 l1_0.length c1_0,.int .i64 a1_1] 66 (0,0)) (by (with_reducible repeat (first|refine kN_ ?_ _|refine kD_ ?_|refine kA_ ?_ _));exact BK258.out) hb);have n2_:=mk_ (bT_ (by repeat (first|(with_reducible first|exact HB.out|apply bA_|apply bN_|apply bD_|refine bS_ ?_ GE257.out|refine bS_ ?_ GE258.out)|exact HB.out)) hb);clear BK257;clear BK258;clear HB;have BK257:=n0_;have BK258:=n1_;have HB:=n2_;clear n0_ n1_ n2_;(try clear hb);(try clear hb2);(try clear hk);(try clear hi);have hcz31_0 : w30.cell? ⟨gb258,0,none⟩ = some (.slice A1_0 l1_0.length c1_0):=(blk_cell BK258.out 0).trans rfl;have hcz31_1 : w30.cell? ⟨gb258,1,none⟩ = some (.int .i64 a1_1):=(blk_cell BK258.out 1).trans rfl;have hfz31_0:=fZ_ BK258.out 0;have hfz31_1:=fZ_ BK258.out 1)|((with_reducible refine gate_callee (f:=33) rfl ?_);refine goesL_ (some 17) rfl rfl Try.func33 (by kernel_rfl) rfl #[.agg #[.slice A1_0 l1_0.length c1_0,.int .i64 a1_1],.int .i64 t259] rfl (by (try simp only [List.map_toArray,List.map_cons,List.map_nil]);first|done|rfl|(simp only [List.length_drop,List.length_take];rfl)) ?_;(with_reducible refine (laws_szWipe.calls _ _ l1_0 a1_1 t259 t260 _ ?side1 ?side2 A10.out).mono ?_);(case side1 => repeat (first|exact (Kd.C_below HR1_0.out HB.out)|(with_reducible refine cA_ ?_ _)|(with_reducible refine Kd.C_drewN ?_ _)|(with_reducible refine Kd.C_drew ?_)));(case side2 => exact HC1_0.out);rintro e w32 ⟨rfl,hb⟩;refine ⟨_,rfl,?_⟩;have n0_:=mk_ (blk_below (g:=gb257) (o:=.cells #[.int .i64 a0_0,.int .i64 a0_1,.int .i64 a0_2,.slice A0_3 l0_3.length c0_3,.int .i64 a0_4,.int .i64 a0_5,.bool a0_6,.int .i64 a0_7] 26 (0,0)) (by (with_reducible repeat (first|refine kN_ ?_ _|refine kD_ ?_|refine kA_ ?_ _));exact BK257.out) hb);have n1_:=mk_ (blk_below (g:=gb258) (o:=.cells #[.slice A1_0 l1_0.length c1_0,.int .i64 a1_1] 66 (0,0)) (by (with_reducible repeat (first|refine kN_ ?_ _|refine kD_ ?_|refine kA_ ?_ _));exact BK258.out) hb);have n2_:=mk_ (bT_ (by repeat (first|(with_reducible first|exact HB.out|apply bA_|apply bN_|apply bD_|refine bS_ ?_ GE257.out|refine bS_ ?_ GE258.out)|exact HB.out)) hb);clear BK257;clear BK258;clear HB;have BK257:=n0_;have BK258:=n1_;have HB:=n2_;clear n0_ n1_ n2_;(try clear hb);(try clear hb2);(try clear hk);(try clear hi)))
        have n0_ := Aside0.mk (blk_drew BK257.out)
        have n1_ := Aside0.mk (blk_drew BK258.out)
        have n2_ := Aside0.mk (below_drew1 HB.out)
        clear BK257
        clear BK258
        clear HB
        have BK257 := n0_
        have BK258 := n1_
        have HB := n2_
        clear n0_ n1_ n2_
        refine start_ (n:=6) (S:=fun w' => w'.cell? ⟨gb257,0,none⟩ = some (.int .i64 a0_0) ∧ w'.cell? ⟨gb257,1,none⟩ = some (.int .i64 a0_1) ∧ w'.cell? ⟨gb257,2,none⟩ = some (.int .i64 a0_2) ∧ w'.cell? ⟨gb257,3,none⟩ = some (.slice A0_3 l0_3.length c0_3) ∧ w'.cell? ⟨gb257,4,none⟩ = some (.int .i64 a0_4) ∧ w'.cell? ⟨gb257,5,none⟩ = some (.int .i64 a0_5) ∧ w'.cell? ⟨gb257,6,none⟩ = some (.bool a0_6) ∧ w'.cell? ⟨gb257,7,none⟩ = some (.int .i64 a0_7) ∧ w'.cell? ⟨gb258,0,none⟩ = some (.slice A1_0 l1_0.length c1_0) ∧ w'.cell? ⟨gb258,1,none⟩ = some (.int .i64 a1_1)) (ds:=[]) #[false,false,false,false,false,false] (by kernel_rfl) rfl rfl ⟨(blk_cell BK257.out 0).trans rfl,(blk_cell BK257.out 1).trans rfl,(blk_cell BK257.out 2).trans rfl,(blk_cell BK257.out 3).trans rfl,(blk_cell BK257.out 4).trans rfl,(blk_cell BK257.out 5).trans rfl,(blk_cell BK257.out 6).trans rfl,(blk_cell BK257.out 7).trans rfl,(blk_cell BK258.out 0).trans rfl,(blk_cell BK258.out 1).trans rfl⟩ (fun hHeld => ?_)
        generalize w32.drew = w33 at BK257 BK258 HB hHeld ⊢
        refine take_ (i := 0) (N := some 20) (v := ?_) (a' := ?_) #[true, false, false, false, false, false] rfl rfl (by kernel_rfl) (fun _ _ _ h => h) (Or.inl ⟨by rfl, ?_⟩) hHeld ?_ ?_
        rotate_left
        · rintro w' ⟨s0, s1, s2, s3, s4, s5, s6, s7, s8, s9⟩
          go_simp
          with_reducible rfl
        rotate_left
        · simp only [Act.put, List.setIfInBounds_toArray, List.set_cons_zero, List.set_cons_succ, i64_w, i32_w]
          rfl
        refine take_ (i := 2) (N := some 22) (v := ?_) (a' := ?_) #[true, false, true, false, false, false] rfl rfl (by kernel_rfl) (fun _ _ _ h => h) (Or.inl ⟨by rfl, ?_⟩) hHeld ?_ ?_
        rotate_left
        · rintro w' ⟨s0, s1, s2, s3, s4, s5, s6, s7, s8, s9⟩
          go_simp
          with_reducible rfl
        rotate_left
        · simp only [Act.put, List.setIfInBounds_toArray, List.set_cons_zero, List.set_cons_succ, i64_w, i32_w]
          rfl
        refine one_ (i := 1) (N := some 21) #[true, true, true, false, false, false] rfl rfl (by kernel_rfl) (by decide) (fun K hK => ?_)
        refine goes_ Try.func30 (by kernel_rfl) rfl #[.agg #[.int .i64 a0_0,.int .i64 a0_1,.int .i64 a0_2,.slice A0_3 l0_3.length c0_3,.int .i64 a0_4,.int .i64 a0_5,.bool a0_6,.int .i64 a0_7]] (by rfl) rfl rfl (by (try simp only [List.map_toArray,List.map_cons,List.map_nil]);first|done|rfl|(simp only [List.length_drop,List.length_take];rfl)) ?_
        with_reducible refine (laws_toFlash.calls k a0_0 a0_1 a0_2 _ _ l0_3 a0_4 a0_5 a0_6 a0_7 t261 t262 t263 t264 t267 t268 t269 t270 _ ?side1 ?side2 A19.out).mono ?_
        (case side1 => repeat (first | exact (Kd.C_below HR0_3.out HB.out) | (with_reducible refine Kd.C_alloc ?_ _) | (with_reducible refine Kd.C_drewN ?_ _) | (with_reducible refine Kd.C_drew ?_)))
        (case side2 => exact HC0_3.out)
        rintro e w34 ⟨v265, rfl, ho0, hb⟩
        refine ⟨_, rfl, ?_⟩
        have n0_:=mk_ (Kd.S_lower ho0 (bZ_ (by repeat (first|(with_reducible first|exact HB.out|apply bA_|apply bN_|apply bD_|refine bS_ ?_ GE257.out|refine bS_ ?_ GE258.out)|exact HB.out))))
        have n1_:=mk_ (blk_below (g:=gb257) (o:=.cells #[.int .i64 a0_0,.int .i64 a0_1,.int .i64 a0_2,.slice A0_3 l0_3.length c0_3,.int .i64 a0_4,.int .i64 a0_5,.bool a0_6,.int .i64 a0_7] 26 (0,0)) (by (with_reducible repeat (first|refine kN_ ?_ _|refine kD_ ?_|refine kA_ ?_ _));exact BK257.out) hb)
        have n2_:=mk_ (blk_below (g:=gb258) (o:=.cells #[.slice A1_0 l1_0.length c1_0,.int .i64 a1_1] 66 (0,0)) (by (with_reducible repeat (first|refine kN_ ?_ _|refine kD_ ?_|refine kA_ ?_ _));exact BK258.out) hb)
        have n3_:=mk_ (bT_ (by repeat (first|(with_reducible first|exact HB.out|apply bA_|apply bN_|apply bD_|refine bS_ ?_ GE257.out|refine bS_ ?_ GE258.out)|exact HB.out)) hb)
        clear BK257
        clear BK258
        clear HB
        have HO266 := n0_
        have BK257 := n1_
        have BK258 := n2_
        have HB := n3_
        clear n0_ n1_ n2_ n3_
        (try clear hb)
        (try clear hb2)
        (try clear hk)
        (try clear hi)
        (try clear ho0)
        refine hK.out _ _ ⟨(blk_cell BK257.out 0).trans rfl,(blk_cell BK257.out 1).trans rfl,(blk_cell BK257.out 2).trans rfl,(blk_cell BK257.out 3).trans rfl,(blk_cell BK257.out 4).trans rfl,(blk_cell BK257.out 5).trans rfl,(blk_cell BK257.out 6).trans rfl,(blk_cell BK257.out 7).trans rfl,(blk_cell BK258.out 0).trans rfl,(blk_cell BK258.out 1).trans rfl⟩ (fun hHeld => ?_)
        clear hK K
        refine norm_ (a' := ?_) ?_ ?_
        rotate_left
        · show Act.put _ (some 21) _ = _
          simp only [Act.put, List.setIfInBounds_toArray, List.set_cons_zero, List.set_cons_succ, i64_w, i32_w]
          rfl
        refine one_ (i := 3) (N := some 23) #[true, true, true, true, false, false] rfl rfl (by kernel_rfl) (by decide) (fun K hK => ?_)
        refine goes_ Try.func35 (by kernel_rfl) rfl #[.agg #[.slice A1_0 l1_0.length c1_0,.int .i64 a1_1]] (by rfl) rfl rfl (by (try simp only [List.map_toArray,List.map_cons,List.map_nil]);first|done|rfl|(simp only [List.length_drop,List.length_take];rfl)) ?_
        with_reducible refine (laws_toWipe.calls k _ _ l1_0 a1_1 t271 t274 _ ?side1 ?side2 A20.out).mono ?_
        (case side1 => repeat (first | exact (Kd.C_below HR1_0.out HB.out) | (with_reducible refine Kd.C_alloc ?_ _) | (with_reducible refine Kd.C_drewN ?_ _) | (with_reducible refine Kd.C_drew ?_)))
        (case side2 => exact HC1_0.out)
        rintro e w35 ⟨v272, rfl, ho0, hb⟩
        refine ⟨_, rfl, ?_⟩
        have n0_ := Aside0.mk (Kd.S_below (by (with_reducible repeat (first | apply Kd.S_alloc | apply Kd.S_drewN | apply Kd.S_drew)); exact HO266.out) hb)
        have n1_:=mk_ (Kd.R_lower ho0 (bZ_ (by repeat (first|(with_reducible first|exact HB.out|apply bA_|apply bN_|apply bD_|refine bS_ ?_ GE257.out|refine bS_ ?_ GE258.out)|exact HB.out))))
        have n2_:=mk_ (blk_below (g:=gb257) (o:=.cells #[.int .i64 a0_0,.int .i64 a0_1,.int .i64 a0_2,.slice A0_3 l0_3.length c0_3,.int .i64 a0_4,.int .i64 a0_5,.bool a0_6,.int .i64 a0_7] 26 (0,0)) (by (with_reducible repeat (first|refine kN_ ?_ _|refine kD_ ?_|refine kA_ ?_ _));exact BK257.out) hb)
        have n3_:=mk_ (blk_below (g:=gb258) (o:=.cells #[.slice A1_0 l1_0.length c1_0,.int .i64 a1_1] 66 (0,0)) (by (with_reducible repeat (first|refine kN_ ?_ _|refine kD_ ?_|refine kA_ ?_ _));exact BK258.out) hb)
        have n4_:=mk_ (bT_ (by repeat (first|(with_reducible first|exact HB.out|apply bA_|apply bN_|apply bD_|refine bS_ ?_ GE257.out|refine bS_ ?_ GE258.out)|exact HB.out)) hb)
        clear HO266
        clear BK257
        clear BK258
        clear HB
        have HO266 := n0_
        have HO273 := n1_
        have BK257 := n2_
        have BK258 := n3_
        have HB := n4_
        clear n0_ n1_ n2_ n3_ n4_
        (try clear hb)
        (try clear hb2)
        (try clear hk)
        (try clear hi)
        (try clear ho0)
        obtain ⟨Ao36, co36, eo36⟩ := Kd.S_slice HO266.out
        (first | subst eo36 | (injection eo36 with f1_ f2_ f3_; have f4_ := f1_.symm; have f5_ := f3_.symm; clear f1_ f2_ f3_; subst f4_; subst f5_))
        obtain ⟨Ao37, co37, eo37⟩ := Kd.R_slice HO273.out
        (first | subst eo37 | (injection eo37 with f1_ f2_ f3_; have f4_ := f1_.symm; have f5_ := f3_.symm; clear f1_ f2_ f3_; subst f4_; subst f5_))
        refine hK.out _ _ ⟨(blk_cell BK257.out 0).trans rfl,(blk_cell BK257.out 1).trans rfl,(blk_cell BK257.out 2).trans rfl,(blk_cell BK257.out 3).trans rfl,(blk_cell BK257.out 4).trans rfl,(blk_cell BK257.out 5).trans rfl,(blk_cell BK257.out 6).trans rfl,(blk_cell BK257.out 7).trans rfl,(blk_cell BK258.out 0).trans rfl,(blk_cell BK258.out 1).trans rfl⟩ (fun hHeld => ?_)
        clear hK K
        refine norm_ (a' := ?_) ?_ ?_
        rotate_left
        · show Act.put _ (some 23) _ = _
          simp only [Act.put, List.setIfInBounds_toArray, List.set_cons_zero, List.set_cons_succ, i64_w, i32_w]
          rfl
        refine one_ (i := 4) (N := some 24) #[true, true, true, true, true, false] rfl rfl (by kernel_rfl) (by decide) (fun K hK => ?_)
        refine goes_ Try.func34 (by kernel_rfl) rfl #[.agg #[.int .i64 t261,.int .i64 t262,.int .i64 t263,.slice Ao36 t264.length co36,.int .i64 t267,.int .i64 t268,.bool t269,.int .i64 t270],.agg #[.slice Ao37 t271.length co37,.int .i64 t274]] (by rfl) rfl rfl (by (try simp only [List.map_toArray,List.map_cons,List.map_nil]);first|done|rfl|(simp only [List.length_drop,List.length_take];rfl)) ?_
        with_reducible refine (spec_ValidWipe.calls k t261 t262 t263 _ _ t264 t267 t268 t269 t270 _ _ t271 t274 t275 _ ?side1 ?side2 ?side3 ?side4 A21.out).mono ?_
        (case side1 => repeat (first | exact (Kd.S_reads' HO266.out).2.2 | (with_reducible refine Kd.C_alloc ?_ _) | (with_reducible refine Kd.C_drewN ?_ _) | (with_reducible refine Kd.C_drew ?_)))
        (case side2 => exact (Kd.S_reads' HO266.out).2.1)
        (case side3 => repeat (first | exact (Kd.R_reads' HO273.out).2.2 | (with_reducible refine Kd.C_alloc ?_ _) | (with_reducible refine Kd.C_drewN ?_ _) | (with_reducible refine Kd.C_drew ?_)))
        (case side4 => exact (Kd.R_reads' HO273.out).2.1)
        rintro e w38 ⟨rfl, hb⟩
        refine ⟨_, rfl, ?_⟩
        have n0_ := Aside0.mk (Kd.S_below (by (with_reducible repeat (first | apply Kd.S_alloc | apply Kd.S_drewN | apply Kd.S_drew)); exact HO266.out) hb)
        have n1_ := Aside0.mk (Kd.R_below (by (with_reducible repeat (first | apply Kd.R_alloc | apply Kd.R_drewN | apply Kd.R_drew)); exact HO273.out) hb)
        have n2_:=mk_ (blk_below (g:=gb257) (o:=.cells #[.int .i64 a0_0,.int .i64 a0_1,.int .i64 a0_2,.slice A0_3 l0_3.length c0_3,.int .i64 a0_4,.int .i64 a0_5,.bool a0_6,.int .i64 a0_7] 26 (0,0)) (by (with_reducible repeat (first|refine kN_ ?_ _|refine kD_ ?_|refine kA_ ?_ _));exact BK257.out) hb)
        have n3_:=mk_ (blk_below (g:=gb258) (o:=.cells #[.slice A1_0 l1_0.length c1_0,.int .i64 a1_1] 66 (0,0)) (by (with_reducible repeat (first|refine kN_ ?_ _|refine kD_ ?_|refine kA_ ?_ _));exact BK258.out) hb)
        have n4_:=mk_ (bT_ (by repeat (first|(with_reducible first|exact HB.out|apply bA_|apply bN_|apply bD_|refine bS_ ?_ GE257.out|refine bS_ ?_ GE258.out)|exact HB.out)) hb)
        clear HO266
        clear HO273
        clear BK257
        clear BK258
        clear HB
        have HO266 := n0_
        have HO273 := n1_
        have BK257 := n2_
        have BK258 := n3_
        have HB := n4_
        clear n0_ n1_ n2_ n3_ n4_
        (try clear hb)
        (try clear hb2)
        (try clear hk)
        (try clear hi)
        refine hK.out _ _ ⟨(blk_cell BK257.out 0).trans rfl,(blk_cell BK257.out 1).trans rfl,(blk_cell BK257.out 2).trans rfl,(blk_cell BK257.out 3).trans rfl,(blk_cell BK257.out 4).trans rfl,(blk_cell BK257.out 5).trans rfl,(blk_cell BK257.out 6).trans rfl,(blk_cell BK257.out 7).trans rfl,(blk_cell BK258.out 0).trans rfl,(blk_cell BK258.out 1).trans rfl⟩ (fun hHeld => ?_)
        clear hK K
        refine norm_ (a' := ?_) ?_ ?_
        rotate_left
        · show Act.put _ (some 24) _ = _
          simp only [Act.put, List.setIfInBounds_toArray, List.set_cons_zero, List.set_cons_succ, i64_w, i32_w]
          rfl
        refine pure_ (i := 5) (N := some 6) (v := ?_) (a' := ?_) #[true, true, true, true, true, true] rfl rfl (by kernel_rfl) (fun _ _ _ h => h) (Or.inl ⟨by rfl, ?_⟩) ?_ ?_
        rotate_left
        · intro w'
          go_simp
          with_reducible rfl
        rotate_left
        · simp only [Act.put, List.setIfInBounds_toArray, List.set_cons_zero, List.set_cons_succ, i64_w, i32_w]
          rfl
        refine done_ (by kernel_rfl) ?_
        have hcz39_0 : w38.cell? ⟨gb257, 0, none⟩ = some (.int .i64 a0_0) := (blk_cell BK257.out 0).trans rfl
        have hcz39_1 : w38.cell? ⟨gb257, 1, none⟩ = some (.int .i64 a0_1) := (blk_cell BK257.out 1).trans rfl
        have hcz39_2 : w38.cell? ⟨gb257, 2, none⟩ = some (.int .i64 a0_2) := (blk_cell BK257.out 2).trans rfl
        have hcz39_3 : w38.cell? ⟨gb257, 3, none⟩ = some (.slice A0_3 l0_3.length c0_3) := (blk_cell BK257.out 3).trans rfl
        have hcz39_4 : w38.cell? ⟨gb257, 4, none⟩ = some (.int .i64 a0_4) := (blk_cell BK257.out 4).trans rfl
        have hcz39_5 : w38.cell? ⟨gb257, 5, none⟩ = some (.int .i64 a0_5) := (blk_cell BK257.out 5).trans rfl
        have hcz39_6 : w38.cell? ⟨gb257, 6, none⟩ = some (.bool a0_6) := (blk_cell BK257.out 6).trans rfl
        have hcz39_7 : w38.cell? ⟨gb257, 7, none⟩ = some (.int .i64 a0_7) := (blk_cell BK257.out 7).trans rfl
        have hfz39_0 := blk_frozen BK257.out 0
        have hfz39_1 := blk_frozen BK257.out 1
        have hfz39_2 := blk_frozen BK257.out 2
        have hfz39_3 := blk_frozen BK257.out 3
        have hfz39_4 := blk_frozen BK257.out 4
        have hfz39_5 := blk_frozen BK257.out 5
        have hfz39_6 := blk_frozen BK257.out 6
        have hfz39_7 := blk_frozen BK257.out 7
        try go_wp2_with (first|((with_reducible refine gate_callee (f:=30) rfl ?_);refine goesL_ (some 26) rfl rfl Try.func30 (by kernel_rfl) rfl #[.agg #[.int .i64 a0_0,.int .i64 a0_1,.int .i64 a0_2,.slice A0_3 l0_3.length c0_3,.int .i64 a0_4,.int .i64 a0_5,.bool a0_6,.int .i64 a0_7]] rfl (by (try simp only [List.map_toArray,List.map_cons,List.map_nil]);first|done|rfl|(simp only [List.length_drop,List.length_take];rfl)) ?_;(with_reducible refine (laws_toFlash.calls k a0_0 a0_1 a0_2 _ _ l0_3 a0_4 a0_5 a0_6 a0_7 t276 t277 t278 t279 t282 t283 t284 t285 _ ?side1 ?side2 A22.out).mono ?_);(case side1 => repeat (first|exact (Kd.C_below HR0_3.out HB.out)|(with_reducible refine cA_ ?_ _)|(with_reducible refine Kd.C_drewN ?_ _)|(with_reducible refine Kd.C_drew ?_)));(case side2 => exact HC0_3.out);rintro e w40 ⟨v280,rfl,ho0,hb⟩;refine ⟨_,rfl,?_⟩;have n0_:=mk_ (Kd.S_elder' (by (with_reducible repeat (first|apply sA_|apply sN_|apply Kd.S_drew));exact HO266.out) (Kd.S_base ho0) hb);have n1_:=mk_ (Kd.R_below (by (with_reducible repeat (first|apply rA_|apply rN_|apply rD_));exact HO273.out) hb);have n2_:=mk_ (Kd.S_lower (Kd.S_new' ho0 (Kd.S_lt (by (with_reducible repeat (first|apply sA_|apply sN_|apply Kd.S_drew));exact HO266.out))) (bZ_ (by repeat (first|(with_reducible first|exact HB.out|apply bA_|apply bN_|apply bD_|refine bS_ ?_ GE257.out|refine bS_ ?_ GE258.out)|exact HB.out))));have n3_:=mk_ (blk_below (g:=gb257) (o:=.cells #[.int .i64 a0_0,.int .i64 a0_1,.int .i64 a0_2,.slice A0_3 l0_3.length c0_3,.int .i64 a0_4,.int .i64 a0_5,.bool a0_6,.int .i64 a0_7] 26 (0,0)) (by (with_reducible repeat (first|refine kN_ ?_ _|refine kD_ ?_|refine kA_ ?_ _));exact BK257.out) hb);have n4_:=mk_ (blk_below (g:=gb258) (o:=.cells #[.slice A1_0 l1_0.length c1_0,.int .i64 a1_1] 66 (0,0)) (by (with_reducible repeat (first|refine kN_ ?_ _|refine kD_ ?_|refine kA_ ?_ _));exact BK258.out) hb);have n5_:=mk_ (bT_ (by repeat (first|(with_reducible first|exact HB.out|apply bA_|apply bN_|apply bD_|refine bS_ ?_ GE257.out|refine bS_ ?_ GE258.out)|exact HB.out)) hb);clear HO266;clear HO273;clear BK257;clear BK258;clear HB;have HO266:=n0_;have HO273:=n1_;have HO281:=n2_;have BK257:=n3_;have BK258:=n4_;have HB:=n5_;clear n0_ n1_ n2_ n3_ n4_ n5_;(try clear hb);(try clear hb2);(try clear hk);(try clear hi);(try clear ho0))|((with_reducible refine gate_dst (N:=7) rfl ?_);refine box_event ?hg (N:=7) ?hd (cs:=#[.int .i64 0,.int .i64 0,.int .i64 0,.slice none 0 0,.int .i64 0,.int .i64 0,.bool false,.int .i64 0]) (t:=40) ?hr ?_;(case hd => rfl);(case hg => rfl);(case hr => first|(go_simp;done)|(go_simp;rfl));intro gb286 hg w41 hbox hb;have n0_:=mk_ (sB_ (by (with_reducible repeat (first|apply sA_|apply sN_|apply Kd.S_drew));exact HO266.out) hb);have n1_:=mk_ (Kd.R_below (by (with_reducible repeat (first|apply rA_|apply rN_|apply rD_));exact HO273.out) hb);have n2_:=mk_ (sB_ (by (with_reducible repeat (first|apply sA_|apply sN_|apply Kd.S_drew));exact HO281.out) hb);have n3_:=mk_ (blk_below (g:=gb257) (o:=.cells #[.int .i64 a0_0,.int .i64 a0_1,.int .i64 a0_2,.slice A0_3 l0_3.length c0_3,.int .i64 a0_4,.int .i64 a0_5,.bool a0_6,.int .i64 a0_7] 26 (0,0)) (by (with_reducible repeat (first|refine kN_ ?_ _|refine kD_ ?_|refine kA_ ?_ _));exact BK257.out) hb);have n4_:=mk_ (blk_below (g:=gb258) (o:=.cells #[.slice A1_0 l1_0.length c1_0,.int .i64 a1_1] 66 (0,0)) (by (with_reducible repeat (first|refine kN_ ?_ _|refine kD_ ?_|refine kA_ ?_ _));exact BK258.out) hb);have n5_:=mk_ (bT_ (by repeat (first|(with_reducible first|exact HB.out|apply bA_|apply bN_|apply bD_|refine bS_ ?_ GE257.out|refine bS_ ?_ GE258.out)|exact HB.out)) hb);have n6_:=mk_ (hbox);have n7_:=mk_ ((by rw [hg];exact (bZ_ (by repeat (first|(with_reducible first|exact HB.out|apply bA_|apply bN_|apply bD_|refine bS_ ?_ GE257.out|refine bS_ ?_ GE258.out)|exact HB.out))) : w.heap.size ≤ gb286));have n8_:=mk_ ((by rw [hg];exact (bZ_ (by repeat (first|(with_reducible first|exact HB.out|apply bA_|apply bN_|apply bD_|refine bS_ ?_ GE257.out|refine bS_ ?_ GE258.out)|exact HB.out))) : w.heap.size ≤ gb286));have n9_:=mk_ ((by rw [hg];exact Nat.ne_of_lt (blk_lt (g:=gb257) (o:=.cells #[.int .i64 a0_0,.int .i64 a0_1,.int .i64 a0_2,.slice A0_3 l0_3.length c0_3,.int .i64 a0_4,.int .i64 a0_5,.bool a0_6,.int .i64 a0_7] 26 (0,0)) (by (with_reducible repeat (first|refine kN_ ?_ _|refine kD_ ?_|refine kA_ ?_ _));exact BK257.out)) : gb257 ≠ gb286));have n10_:=mk_ ((by rw [hg];exact Nat.ne_of_gt (blk_lt (g:=gb257) (o:=.cells #[.int .i64 a0_0,.int .i64 a0_1,.int .i64 a0_2,.slice A0_3 l0_3.length c0_3,.int .i64 a0_4,.int .i64 a0_5,.bool a0_6,.int .i64 a0_7] 26 (0,0)) (by (with_reducible repeat (first|refine kN_ ?_ _|refine kD_ ?_|refine kA_ ?_ _));exact BK257.out)) : gb286 ≠ gb257));have n11_:=mk_ ((by rw [hg];exact Nat.ne_of_lt (blk_lt (g:=gb258) (o:=.cells #[.slice A1_0 l1_0.length c1_0,.int .i64 a1_1] 66 (0,0)) (by (with_reducible repeat (first|refine kN_ ?_ _|refine kD_ ?_|refine kA_ ?_ _));exact BK258.out)) : gb258 ≠ gb286));have n12_:=mk_ ((by rw [hg];exact Nat.ne_of_gt (blk_lt (g:=gb258) (o:=.cells #[.slice A1_0 l1_0.length c1_0,.int .i64 a1_1] 66 (0,0)) (by (with_reducible repeat (first|refine kN_ ?_ _|refine kD_ ?_|refine kA_ ?_ _));exact BK258.out)) : gb286 ≠ gb258));clear HO266;clear HO273;clear HO281;clear BK257;clear BK258;clear HB;have HO266:=n0_;have HO273:=n1_;have HO281:=n2_;have BK257:=n3_;have BK258:=n4_;have HB:=n5_;have BK286:=n6_;have GW286:=n7_;have GE286:=n8_;have NB257_286:=n9_;have NB286_257:=n10_;have NB258_286:=n11_;have NB286_258:=n12_;clear n0_ n1_ n2_ n3_ n4_ n5_ n6_ n7_ n8_ n9_ n10_ n11_ n12_;clear hb hbox hg;have hnb42:=NB286_257.out;have hnc42:=NB257_286.out;have hnb43:=NB286_258.out;have hnc43:=NB258_286.out;have hcz44_0 : w41.cell? ⟨gb286,0,none⟩ = some (.int .i64 0):=(blk_cell BK286.out 0).trans rfl;have hcz44_1 : w41.cell? ⟨gb286,1,none⟩ = some (.int .i64 0):=(blk_cell BK286.out 1).trans rfl;have hcz44_2 : w41.cell? ⟨gb286,2,none⟩ = some (.int .i64 0):=(blk_cell BK286.out 2).trans rfl;have hcz44_3 : w41.cell? ⟨gb286,3,none⟩ = some (.slice none 0 0):=(blk_cell BK286.out 3).trans rfl;have hcz44_4 : w41.cell? ⟨gb286,4,none⟩ = some (.int .i64 0):=(blk_cell BK286.out 4).trans rfl;have hcz44_5 : w41.cell? ⟨gb286,5,none⟩ = some (.int .i64 0):=(blk_cell BK286.out 5).trans rfl;have hcz44_6 : w41.cell? ⟨gb286,6,none⟩ = some (.bool false):=(blk_cell BK286.out 6).trans rfl;have hcz44_7 : w41.cell? ⟨gb286,7,none⟩ = some (.int .i64 0):=(blk_cell BK286.out 7).trans rfl;have hfz44_0:=fZ_ BK286.out 0;have hfz44_1:=fZ_ BK286.out 1;have hfz44_2:=fZ_ BK286.out 2;have hfz44_3:=fZ_ BK286.out 3;have hfz44_4:=fZ_ BK286.out 4;have hfz44_5:=fZ_ BK286.out 5;have hfz44_6:=fZ_ BK286.out 6;have hfz44_7:=fZ_ BK286.out 7;obtain ⟨Ao45,co45,eo45⟩:=Kd.S_slice HO281.out;subst eo45;have hcz46_0 : w41.cell? ⟨gb258,0,none⟩ = some (.slice A1_0 l1_0.length c1_0):=(blk_cell BK258.out 0).trans rfl;have hcz46_1 : w41.cell? ⟨gb258,1,none⟩ = some (.int .i64 a1_1):=(blk_cell BK258.out 1).trans rfl;have hfz46_0:=fZ_ BK258.out 0;have hfz46_1:=fZ_ BK258.out 1)|((with_reducible refine gate_callee (f:=35) rfl ?_);refine goesL_ (some 28) rfl rfl Try.func35 (by kernel_rfl) rfl #[.agg #[.slice A1_0 l1_0.length c1_0,.int .i64 a1_1]] rfl (by (try simp only [List.map_toArray,List.map_cons,List.map_nil]);first|done|rfl|(simp only [List.length_drop,List.length_take];rfl)) ?_;(with_reducible refine (laws_toWipe.calls k _ _ l1_0 a1_1 t287 t290 _ ?side1 ?side2 A23.out).mono ?_);(case side1 => exact Kd.C_below HR1_0.out (by repeat (first|(with_reducible first|exact HB.out|apply bA_|apply bN_|apply bD_|refine bS_ ?_ GE257.out|refine bS_ ?_ GE258.out|refine bS_ ?_ GE286.out)|exact HB.out)));(case side2 => exact HC1_0.out);rintro e w47 ⟨v288,rfl,ho0,hb⟩;refine ⟨_,rfl,?_⟩;have n0_:=mk_ (sB_ (by (with_reducible repeat (first|apply sA_|apply sN_|apply Kd.S_drew));exact (Kd.S_mono (Kd.S_far (p:=⟨gb286,7,none⟩) (Kd.S_far (p:=⟨gb286,6,none⟩) (Kd.S_far (p:=⟨gb286,5,none⟩) (Kd.S_far (p:=⟨gb286,4,none⟩) (Kd.S_far (p:=⟨gb286,3,none⟩) (Kd.S_far (p:=⟨gb286,2,none⟩) (Kd.S_far (p:=⟨gb286,1,none⟩) (Kd.S_far (p:=⟨gb286,0,none⟩) (Kd.S_types HO266.out BK286.out (by decide)) (fun _ hk => hk.2) (.int .i64 t276)) (fun _ hk => hk.2) (.int .i64 t277)) (fun _ hk => hk.2) (.int .i64 t278)) (fun _ hk => hk.2) (.slice Ao45 t279.length co45)) (fun _ hk => hk.2) (.int .i64 t282)) (fun _ hk => hk.2) (.int .i64 t283)) (fun _ hk => hk.2) (.bool t284)) (fun _ hk => hk.2) (.int .i64 t285)) (fun _ h_ => h_.1))) hb);have n1_:=mk_ (Kd.R_elder' (by (with_reducible repeat (first|apply rA_|apply rN_|apply rD_));exact (Kd.R_mono (Kd.R_far (p:=⟨gb286,7,none⟩) (Kd.R_far (p:=⟨gb286,6,none⟩) (Kd.R_far (p:=⟨gb286,5,none⟩) (Kd.R_far (p:=⟨gb286,4,none⟩) (Kd.R_far (p:=⟨gb286,3,none⟩) (Kd.R_far (p:=⟨gb286,2,none⟩) (Kd.R_far (p:=⟨gb286,1,none⟩) (Kd.R_far (p:=⟨gb286,0,none⟩) (Kd.R_types HO273.out BK286.out (by decide)) (fun _ hk => hk.2) (.int .i64 t276)) (fun _ hk => hk.2) (.int .i64 t277)) (fun _ hk => hk.2) (.int .i64 t278)) (fun _ hk => hk.2) (.slice Ao45 t279.length co45)) (fun _ hk => hk.2) (.int .i64 t282)) (fun _ hk => hk.2) (.int .i64 t283)) (fun _ hk => hk.2) (.bool t284)) (fun _ hk => hk.2) (.int .i64 t285)) (fun _ h_ => h_.1))) (Kd.R_base ho0) hb);have n2_:=mk_ (sB_ (by (with_reducible repeat (first|apply sA_|apply sN_|apply Kd.S_drew));exact (Kd.S_mono (Kd.S_far (p:=⟨gb286,7,none⟩) (Kd.S_far (p:=⟨gb286,6,none⟩) (Kd.S_far (p:=⟨gb286,5,none⟩) (Kd.S_far (p:=⟨gb286,4,none⟩) (Kd.S_far (p:=⟨gb286,3,none⟩) (Kd.S_far (p:=⟨gb286,2,none⟩) (Kd.S_far (p:=⟨gb286,1,none⟩) (Kd.S_far (p:=⟨gb286,0,none⟩) (Kd.S_types HO281.out BK286.out (by decide)) (fun _ hk => hk.2) (.int .i64 t276)) (fun _ hk => hk.2) (.int .i64 t277)) (fun _ hk => hk.2) (.int .i64 t278)) (fun _ hk => hk.2) (.slice Ao45 t279.length co45)) (fun _ hk => hk.2) (.int .i64 t282)) (fun _ hk => hk.2) (.int .i64 t283)) (fun _ hk => hk.2) (.bool t284)) (fun _ hk => hk.2) (.int .i64 t285)) (fun _ h_ => h_.1))) hb);have n3_:=mk_ (Kd.R_lower (Kd.R_new' ho0 (Kd.R_lt (by (with_reducible repeat (first|apply rA_|apply rN_|apply rD_));exact (Kd.R_mono (Kd.R_far (p:=⟨gb286,7,none⟩) (Kd.R_far (p:=⟨gb286,6,none⟩) (Kd.R_far (p:=⟨gb286,5,none⟩) (Kd.R_far (p:=⟨gb286,4,none⟩) (Kd.R_far (p:=⟨gb286,3,none⟩) (Kd.R_far (p:=⟨gb286,2,none⟩) (Kd.R_far (p:=⟨gb286,1,none⟩) (Kd.R_far (p:=⟨gb286,0,none⟩) (Kd.R_types HO273.out BK286.out (by decide)) (fun _ hk => hk.2) (.int .i64 t276)) (fun _ hk => hk.2) (.int .i64 t277)) (fun _ hk => hk.2) (.int .i64 t278)) (fun _ hk => hk.2) (.slice Ao45 t279.length co45)) (fun _ hk => hk.2) (.int .i64 t282)) (fun _ hk => hk.2) (.int .i64 t283)) (fun _ hk => hk.2) (.bool t284)) (fun _ hk => hk.2) (.int .i64 t285)) (fun _ h_ => h_.1))))) (bZ_ (by repeat (first|(with_reducible first|exact HB.out|apply bA_|apply bN_|apply bD_|refine bS_ ?_ GE257.out|refine bS_ ?_ GE258.out|refine bS_ ?_ GE286.out)|exact HB.out))));have n4_:=mk_ (blk_below (g:=gb257) (o:=.cells #[.int .i64 a0_0,.int .i64 a0_1,.int .i64 a0_2,.slice A0_3 l0_3.length c0_3,.int .i64 a0_4,.int .i64 a0_5,.bool a0_6,.int .i64 a0_7] 26 (0,0)) (by (with_reducible repeat (first|refine kN_ ?_ _|refine kD_ ?_|refine kA_ ?_ _));refine blk_far ?_ NB257_286.out _;(with_reducible repeat (first|refine kN_ ?_ _|refine kD_ ?_|refine kA_ ?_ _));refine blk_far ?_ NB257_286.out _;(with_reducible repeat (first|refine kN_ ?_ _|refine kD_ ?_|refine kA_ ?_ _));refine blk_far ?_ NB257_286.out _;(with_reducible repeat (first|refine kN_ ?_ _|refine kD_ ?_|refine kA_ ?_ _));refine blk_far ?_ NB257_286.out _;(with_reducible repeat (first|refine kN_ ?_ _|refine kD_ ?_|refine kA_ ?_ _));refine blk_far ?_ NB257_286.out _;(with_reducible repeat (first|refine kN_ ?_ _|refine kD_ ?_|refine kA_ ?_ _));refine blk_far ?_ NB257_286.out _;(with_reducible repeat (first|refine kN_ ?_ _|refine kD_ ?_|refine kA_ ?_ _));refine blk_far ?_ NB257_286.out _;(with_reducible repeat (first|refine kN_ ?_ _|refine kD_ ?_|refine kA_ ?_ _));refine blk_far ?_ NB257_286.out _;(with_reducible repeat (first|refine kN_ ?_ _|refine kD_ ?_|refine kA_ ?_ _));exact BK257.out) hb);have n5_:=mk_ (blk_below (g:=gb258) (o:=.cells #[.slice A1_0 l1_0.length c1_0,.int .i64 a1_1] 66 (0,0)) (by (with_reducible repeat (first|refine kN_ ?_ _|refine kD_ ?_|refine kA_ ?_ _));refine blk_far ?_ NB258_286.out _;(with_reducible repeat (first|refine kN_ ?_ _|refine kD_ ?_|refine kA_ ?_ _));refine blk_far ?_ NB258_286.out _;(with_reducible repeat (first|refine kN_ ?_ _|refine kD_ ?_|refine kA_ ?_ _));refine blk_far ?_ NB258_286.out _;(with_reducible repeat (first|refine kN_ ?_ _|refine kD_ ?_|refine kA_ ?_ _));refine blk_far ?_ NB258_286.out _;(with_reducible repeat (first|refine kN_ ?_ _|refine kD_ ?_|refine kA_ ?_ _));refine blk_far ?_ NB258_286.out _;(with_reducible repeat (first|refine kN_ ?_ _|refine kD_ ?_|refine kA_ ?_ _));refine blk_far ?_ NB258_286.out _;(with_reducible repeat (first|refine kN_ ?_ _|refine kD_ ?_|refine kA_ ?_ _));refine blk_far ?_ NB258_286.out _;(with_reducible repeat (first|refine kN_ ?_ _|refine kD_ ?_|refine kA_ ?_ _));refine blk_far ?_ NB258_286.out _;(with_reducible repeat (first|refine kN_ ?_ _|refine kD_ ?_|refine kA_ ?_ _));exact BK258.out) hb);have n6_:=mk_ (blk_below (g:=gb286) (o:=.cells #[.int .i64 t276,.int .i64 t277,.int .i64 t278,.slice Ao45 t279.length co45,.int .i64 t282,.int .i64 t283,.bool t284,.int .i64 t285] 40 (0,0)) (by (with_reducible repeat (first|refine kN_ ?_ _|refine kD_ ?_|refine kA_ ?_ _));refine blk_put (cs:=#[.int .i64 t276,.int .i64 t277,.int .i64 t278,.slice Ao45 t279.length co45,.int .i64 t282,.int .i64 t283,.bool t284,.int .i64 0]) ?_ 7 _ rfl;(with_reducible repeat (first|refine kN_ ?_ _|refine kD_ ?_|refine kA_ ?_ _));refine blk_put (cs:=#[.int .i64 t276,.int .i64 t277,.int .i64 t278,.slice Ao45 t279.length co45,.int .i64 t282,.int .i64 t283,.bool false,.int .i64 0]) ?_ 6 _ rfl;(with_reducible repeat (first|refine kN_ ?_ _|refine kD_ ?_|refine kA_ ?_ _));refine blk_put (cs:=#[.int .i64 t276,.int .i64 t277,.int .i64 t278,.slice Ao45 t279.length co45,.int .i64 t282,.int .i64 0,.bool false,.int .i64 0]) ?_ 5 _ rfl;(with_reducible repeat (first|refine kN_ ?_ _|refine kD_ ?_|refine kA_ ?_ _));refine blk_put (cs:=#[.int .i64 t276,.int .i64 t277,.int .i64 t278,.slice Ao45 t279.length co45,.int .i64 0,.int .i64 0,.bool false,.int .i64 0]) ?_ 4 _ rfl;(with_reducible repeat (first|refine kN_ ?_ _|refine kD_ ?_|refine kA_ ?_ _));refine blk_put (cs:=#[.int .i64 t276,.int .i64 t277,.int .i64 t278,.slice none 0 0,.int .i64 0,.int .i64 0,.bool false,.int .i64 0]) ?_ 3 _ rfl;(with_reducible repeat (first|refine kN_ ?_ _|refine kD_ ?_|refine kA_ ?_ _));refine blk_put (cs:=#[.int .i64 t276,.int .i64 t277,.int .i64 0,.slice none 0 0,.int .i64 0,.int .i64 0,.bool false,.int .i64 0]) ?_ 2 _ rfl;(with_reducible repeat (first|refine kN_ ?_ _|refine kD_ ?_|refine kA_ ?_ _));refine blk_put (cs:=#[.int .i64 t276,.int .i64 0,.int .i64 0,.slice none 0 0,.int .i64 0,.int .i64 0,.bool false,.int .i64 0]) ?_ 1 _ rfl;(with_reducible repeat (first|refine kN_ ?_ _|refine kD_ ?_|refine kA_ ?_ _));refine blk_put (cs:=#[.int .i64 0,.int .i64 0,.int .i64 0,.slice none 0 0,.int .i64 0,.int .i64 0,.bool false,.int .i64 0]) ?_ 0 _ rfl;(with_reducible repeat (first|refine kN_ ?_ _|refine kD_ ?_|refine kA_ ?_ _));exact BK286.out) hb);have n7_:=mk_ (bT_ (by repeat (first|(with_reducible first|exact HB.out|apply bA_|apply bN_|apply bD_|refine bS_ ?_ GE257.out|refine bS_ ?_ GE258.out|refine bS_ ?_ GE286.out)|exact HB.out)) hb);clear HO266;clear HO273;clear HO281;clear BK257;clear BK258;clear BK286;clear HB;have HO266:=n0_;have HO273:=n1_;have HO281:=n2_;have HO289:=n3_;have BK257:=n4_;have BK258:=n5_;have BK286:=n6_;have HB:=n7_;clear n0_ n1_ n2_ n3_ n4_ n5_ n6_ n7_;(try clear hb);(try clear hb2);(try clear hk);(try clear hi);(try clear ho0))|((with_reducible refine gate_dst (N:=8) rfl ?_);refine box_event ?hg (N:=8) ?hd (cs:=#[.slice none 0 0,.int .i64 0]) (t:=69) ?hr ?_;(case hd => rfl);(case hg => rfl);(case hr => first|(go_simp;done)|(go_simp;rfl));intro gb291 hg w48 hbox hb;have n0_:=mk_ (sB_ (by (with_reducible repeat (first|apply sA_|apply sN_|apply Kd.S_drew));exact HO266.out) hb);have n1_:=mk_ (Kd.R_below (by (with_reducible repeat (first|apply rA_|apply rN_|apply rD_));exact HO273.out) hb);have n2_:=mk_ (sB_ (by (with_reducible repeat (first|apply sA_|apply sN_|apply Kd.S_drew));exact HO281.out) hb);have n3_:=mk_ (Kd.R_below (by (with_reducible repeat (first|apply rA_|apply rN_|apply rD_));exact HO289.out) hb);have n4_:=mk_ (blk_below (g:=gb257) (o:=.cells #[.int .i64 a0_0,.int .i64 a0_1,.int .i64 a0_2,.slice A0_3 l0_3.length c0_3,.int .i64 a0_4,.int .i64 a0_5,.bool a0_6,.int .i64 a0_7] 26 (0,0)) (by (with_reducible repeat (first|refine kN_ ?_ _|refine kD_ ?_|refine kA_ ?_ _));exact BK257.out) hb);have n5_:=mk_ (blk_below (g:=gb258) (o:=.cells #[.slice A1_0 l1_0.length c1_0,.int .i64 a1_1] 66 (0,0)) (by (with_reducible repeat (first|refine kN_ ?_ _|refine kD_ ?_|refine kA_ ?_ _));exact BK258.out) hb);have n6_:=mk_ (blk_below (g:=gb286) (o:=.cells #[.int .i64 t276,.int .i64 t277,.int .i64 t278,.slice Ao45 t279.length co45,.int .i64 t282,.int .i64 t283,.bool t284,.int .i64 t285] 40 (0,0)) (by (with_reducible repeat (first|refine kN_ ?_ _|refine kD_ ?_|refine kA_ ?_ _));exact BK286.out) hb);have n7_:=mk_ (bT_ (by repeat (first|(with_reducible first|exact HB.out|apply bA_|apply bN_|apply bD_|refine bS_ ?_ GE257.out|refine bS_ ?_ GE258.out|refine bS_ ?_ GE286.out)|exact HB.out)) hb);have n8_:=mk_ (hbox);have n9_:=mk_ ((by rw [hg];exact (bZ_ (by repeat (first|(with_reducible first|exact HB.out|apply bA_|apply bN_|apply bD_|refine bS_ ?_ GE257.out|refine bS_ ?_ GE258.out|refine bS_ ?_ GE286.out)|exact HB.out))) : w.heap.size ≤ gb291));have n10_:=mk_ ((by rw [hg];exact (bZ_ (by repeat (first|(with_reducible first|exact HB.out|apply bA_|apply bN_|apply bD_|refine bS_ ?_ GE257.out|refine bS_ ?_ GE258.out|refine bS_ ?_ GE286.out)|exact HB.out))) : w.heap.size ≤ gb291));have n11_:=mk_ ((by rw [hg];exact Nat.ne_of_lt (blk_lt (g:=gb257) (o:=.cells #[.int .i64 a0_0,.int .i64 a0_1,.int .i64 a0_2,.slice A0_3 l0_3.length c0_3,.int .i64 a0_4,.int .i64 a0_5,.bool a0_6,.int .i64 a0_7] 26 (0,0)) (by (with_reducible repeat (first|refine kN_ ?_ _|refine kD_ ?_|refine kA_ ?_ _));exact BK257.out)) : gb257 ≠ gb291));have n12_:=mk_ ((by rw [hg];exact Nat.ne_of_gt (blk_lt (g:=gb257) (o:=.cells #[.int .i64 a0_0,.int .i64 a0_1,.int .i64 a0_2,.slice A0_3 l0_3.length c0_3,.int .i64 a0_4,.int .i64 a0_5,.bool a0_6,.int .i64 a0_7] 26 (0,0)) (by (with_reducible repeat (first|refine kN_ ?_ _|refine kD_ ?_|refine kA_ ?_ _));exact BK257.out)) : gb291 ≠ gb257));have n13_:=mk_ ((by rw [hg];exact Nat.ne_of_lt (blk_lt (g:=gb258) (o:=.cells #[.slice A1_0 l1_0.length c1_0,.int .i64 a1_1] 66 (0,0)) (by (with_reducible repeat (first|refine kN_ ?_ _|refine kD_ ?_|refine kA_ ?_ _));exact BK258.out)) : gb258 ≠ gb291));have n14_:=mk_ ((by rw [hg];exact Nat.ne_of_gt (blk_lt (g:=gb258) (o:=.cells #[.slice A1_0 l1_0.length c1_0,.int .i64 a1_1] 66 (0,0)) (by (with_reducible repeat (first|refine kN_ ?_ _|refine kD_ ?_|refine kA_ ?_ _));exact BK258.out)) : gb291 ≠ gb258));have n15_:=mk_ ((by rw [hg];exact Nat.ne_of_lt (blk_lt (g:=gb286) (o:=.cells #[.int .i64 t276,.int .i64 t277,.int .i64 t278,.slice Ao45 t279.length co45,.int .i64 t282,.int .i64 t283,.bool t284,.int .i64 t285] 40 (0,0)) (by (with_reducible repeat (first|refine kN_ ?_ _|refine kD_ ?_|refine kA_ ?_ _));exact BK286.out)) : gb286 ≠ gb291));have n16_:=mk_ ((by rw [hg];exact Nat.ne_of_gt (blk_lt (g:=gb286) (o:=.cells #[.int .i64 t276,.int .i64 t277,.int .i64 t278,.slice Ao45 t279.length co45,.int .i64 t282,.int .i64 t283,.bool t284,.int .i64 t285] 40 (0,0)) (by (with_reducible repeat (first|refine kN_ ?_ _|refine kD_ ?_|refine kA_ ?_ _));exact BK286.out)) : gb291 ≠ gb286));clear HO266;clear HO273;clear HO281;clear HO289;clear BK257;clear BK258;clear BK286;clear HB;have HO266:=n0_;have HO273:=n1_;have HO281:=n2_;have HO289:=n3_;have BK257:=n4_;have BK258:=n5_;have BK286:=n6_;have HB:=n7_;have BK291:=n8_;have GW291:=n9_;have GE291:=n10_;have NB257_291:=n11_;have NB291_257:=n12_;have NB258_291:=n13_;have NB291_258:=n14_;have NB286_291:=n15_;have NB291_286:=n16_;clear n0_ n1_ n2_ n3_ n4_ n5_ n6_ n7_ n8_ n9_ n10_ n11_ n12_ n13_ n14_ n15_ n16_;clear hb hbox hg;obtain ⟨Ao49,co49,eo49⟩:=Kd.R_slice HO289.out;subst eo49;have hnb50:=NB291_257.out;have hnc50:=NB257_291.out;have hnb51:=NB291_258.out;have hnc51:=NB258_291.out;have hnb52:=NB291_286.out;have hnc52:=NB286_291.out;have hcz53_0 : w48.cell? ⟨gb291,0,none⟩ = some (.slice none 0 0):=(blk_cell BK291.out 0).trans rfl;have hcz53_1 : w48.cell? ⟨gb291,1,none⟩ = some (.int .i64 0):=(blk_cell BK291.out 1).trans rfl;have hfz53_0:=fZ_ BK291.out 0;have hfz53_1:=fZ_ BK291.out 1;have hcz54_0 : w48.cell? ⟨gb286,0,none⟩ = some (.int .i64 t276):=(blk_cell BK286.out 0).trans rfl;have hcz54_1 : w48.cell? ⟨gb286,1,none⟩ = some (.int .i64 t277):=(blk_cell BK286.out 1).trans rfl;have hcz54_2 : w48.cell? ⟨gb286,2,none⟩ = some (.int .i64 t278):=(blk_cell BK286.out 2).trans rfl;have hcz54_3 : w48.cell? ⟨gb286,3,none⟩ = some (.slice Ao45 t279.length co45):=(blk_cell BK286.out 3).trans rfl;have hcz54_4 : w48.cell? ⟨gb286,4,none⟩ = some (.int .i64 t282):=(blk_cell BK286.out 4).trans rfl;have hcz54_5 : w48.cell? ⟨gb286,5,none⟩ = some (.int .i64 t283):=(blk_cell BK286.out 5).trans rfl;have hcz54_6 : w48.cell? ⟨gb286,6,none⟩ = some (.bool t284):=(blk_cell BK286.out 6).trans rfl;have hcz54_7 : w48.cell? ⟨gb286,7,none⟩ = some (.int .i64 t285):=(blk_cell BK286.out 7).trans rfl;have hfz54_0:=fZ_ BK286.out 0;have hfz54_1:=fZ_ BK286.out 1;have hfz54_2:=fZ_ BK286.out 2;have hfz54_3:=fZ_ BK286.out 3;have hfz54_4:=fZ_ BK286.out 4;have hfz54_5:=fZ_ BK286.out 5;have hfz54_6:=fZ_ BK286.out 6;have hfz54_7:=fZ_ BK286.out 7)|((with_reducible refine gate_callee (f:=36) rfl ?_);refine goesL_ (some 31) rfl rfl Try.func36 (by kernel_rfl) rfl #[.agg #[.int .i64 t276,.int .i64 t277,.int .i64 t278,.slice Ao45 t279.length co45,.int .i64 t282,.int .i64 t283,.bool t284,.int .i64 t285],.agg #[.slice Ao49 t287.length co49,.int .i64 t290]] rfl (by (try simp only [List.map_toArray,List.map_cons,List.map_nil]);first|done|rfl|(simp only [List.length_drop,List.length_take];rfl)) ?_;(with_reducible refine (impl_ValidWipe.calls k t276 t277 t278 _ _ t279 t282 t283 t284 t285 _ _ t287 t290 t292 _ ?side1 ?side2 ?side3 ?side4 A24.out).mono ?_);(case side1 => refine (Kd.S_reads' (e:=120) (base:=w.heap.size) (ok:=fun k_ => (True ∧ some k_ ≠ (.slice Ao36 t264.length co36 : Value).ownBlock)) (n:=t279.length) (c:=co45) ?_).2.2;exact (by (with_reducible repeat (first|apply sA_|apply sN_|apply Kd.S_drew));exact (Kd.S_mono (Kd.S_far (p:=⟨gb291,1,none⟩) (Kd.S_far (p:=⟨gb291,0,none⟩) (Kd.S_types HO281.out BK291.out (by decide)) (fun _ hk => hk.2) (.slice Ao49 t287.length co49)) (fun _ hk => hk.2) (.int .i64 t290)) (fun _ h_ => h_.1))));(case side2 => exact (Kd.S_reads' HO281.out).2.1);(case side3 => refine (Kd.R_reads' (e:=2) (base:=w.heap.size) (ok:=fun k_ => (True ∧ some k_ ≠ (.slice Ao37 t271.length co37 : Value).ownBlock)) (n:=t287.length) (c:=co49) ?_).2.2;exact (by (with_reducible repeat (first|apply rA_|apply rN_|apply rD_));exact (Kd.R_mono (Kd.R_far (p:=⟨gb291,1,none⟩) (Kd.R_far (p:=⟨gb291,0,none⟩) (Kd.R_types HO289.out BK291.out (by decide)) (fun _ hk => hk.2) (.slice Ao49 t287.length co49)) (fun _ hk => hk.2) (.int .i64 t290)) (fun _ h_ => h_.1))));(case side4 => exact (Kd.R_reads' HO289.out).2.1);rintro e w55 ⟨rfl,hb⟩;refine ⟨_,rfl,?_⟩;have n0_:=mk_ (sB_ (by (with_reducible repeat (first|apply sA_|apply sN_|apply Kd.S_drew));exact (Kd.S_mono (Kd.S_far (p:=⟨gb291,1,none⟩) (Kd.S_far (p:=⟨gb291,0,none⟩) (Kd.S_types HO266.out BK291.out (by decide)) (fun _ hk => hk.2) (.slice Ao49 t287.length co49)) (fun _ hk => hk.2) (.int .i64 t290)) (fun _ h_ => h_.1))) hb);have n1_:=mk_ (Kd.R_below (by (with_reducible repeat (first|apply rA_|apply rN_|apply rD_));exact (Kd.R_mono (Kd.R_far (p:=⟨gb291,1,none⟩) (Kd.R_far (p:=⟨gb291,0,none⟩) (Kd.R_types HO273.out BK291.out (by decide)) (fun _ hk => hk.2) (.slice Ao49 t287.length co49)) (fun _ hk => hk.2) (.int .i64 t290)) (fun _ h_ => h_.1))) hb);have n2_:=mk_ (sB_ (by (with_reducible repeat (first|apply sA_|apply sN_|apply Kd.S_drew));exact (Kd.S_mono (Kd.S_far (p:=⟨gb291,1,none⟩) (Kd.S_far (p:=⟨gb291,0,none⟩) (Kd.S_types HO281.out BK291.out (by decide)) (fun _ hk => hk.2) (.slice Ao49 t287.length co49)) (fun _ hk => hk.2) (.int .i64 t290)) (fun _ h_ => h_.1))) hb);have n3_:=mk_ (Kd.R_below (by (with_reducible repeat (first|apply rA_|apply rN_|apply rD_));exact (Kd.R_mono (Kd.R_far (p:=⟨gb291,1,none⟩) (Kd.R_far (p:=⟨gb291,0,none⟩) (Kd.R_types HO289.out BK291.out (by decide)) (fun _ hk => hk.2) (.slice Ao49 t287.length co49)) (fun _ hk => hk.2) (.int .i64 t290)) (fun _ h_ => h_.1))) hb);have n4_:=mk_ (blk_below (g:=gb257) (o:=.cells #[.int .i64 a0_0,.int .i64 a0_1,.int .i64 a0_2,.slice A0_3 l0_3.length c0_3,.int .i64 a0_4,.int .i64 a0_5,.bool a0_6,.int .i64 a0_7] 26 (0,0)) (by (with_reducible repeat (first|refine kN_ ?_ _|refine kD_ ?_|refine kA_ ?_ _));refine blk_far ?_ NB257_291.out _;(with_reducible repeat (first|refine kN_ ?_ _|refine kD_ ?_|refine kA_ ?_ _));refine blk_far ?_ NB257_291.out _;(with_reducible repeat (first|refine kN_ ?_ _|refine kD_ ?_|refine kA_ ?_ _));exact BK257.out) hb);have n5_:=mk_ (blk_below (g:=gb258) (o:=.cells #[.slice A1_0 l1_0.length c1_0,.int .i64 a1_1] 66 (0,0)) (by (with_reducible repeat (first|refine kN_ ?_ _|refine kD_ ?_|refine kA_ ?_ _));refine blk_far ?_ NB258_291.out _;(with_reducible repeat (first|refine kN_ ?_ _|refine kD_ ?_|refine kA_ ?_ _));refine blk_far ?_ NB258_291.out _;(with_reducible repeat (first|refine kN_ ?_ _|refine kD_ ?_|refine kA_ ?_ _));exact BK258.out) hb);have n6_:=mk_ (blk_below (g:=gb286) (o:=.cells #[.int .i64 t276,.int .i64 t277,.int .i64 t278,.slice Ao45 t279.length co45,.int .i64 t282,.int .i64 t283,.bool t284,.int .i64 t285] 40 (0,0)) (by (with_reducible repeat (first|refine kN_ ?_ _|refine kD_ ?_|refine kA_ ?_ _));refine blk_far ?_ NB286_291.out _;(with_reducible repeat (first|refine kN_ ?_ _|refine kD_ ?_|refine kA_ ?_ _));refine blk_far ?_ NB286_291.out _;(with_reducible repeat (first|refine kN_ ?_ _|refine kD_ ?_|refine kA_ ?_ _));exact BK286.out) hb);have n7_:=mk_ (blk_below (g:=gb291) (o:=.cells #[.slice Ao49 t287.length co49,.int .i64 t290] 69 (0,0)) (by (with_reducible repeat (first|refine kN_ ?_ _|refine kD_ ?_|refine kA_ ?_ _));refine blk_put (cs:=#[.slice Ao49 t287.length co49,.int .i64 0]) ?_ 1 _ rfl;(with_reducible repeat (first|refine kN_ ?_ _|refine kD_ ?_|refine kA_ ?_ _));refine blk_put (cs:=#[.slice none 0 0,.int .i64 0]) ?_ 0 _ rfl;(with_reducible repeat (first|refine kN_ ?_ _|refine kD_ ?_|refine kA_ ?_ _));exact BK291.out) hb);have n8_:=mk_ (bT_ (by repeat (first|(with_reducible first|exact HB.out|apply bA_|apply bN_|apply bD_|refine bS_ ?_ GE257.out|refine bS_ ?_ GE258.out|refine bS_ ?_ GE286.out|refine bS_ ?_ GE291.out)|exact HB.out)) hb);clear HO266;clear HO273;clear HO281;clear HO289;clear BK257;clear BK258;clear BK286;clear BK291;clear HB;have HO266:=n0_;have HO273:=n1_;have HO281:=n2_;have HO289:=n3_;have BK257:=n4_;have BK258:=n5_;have BK286:=n6_;have BK291:=n7_;have HB:=n8_;clear n0_ n1_ n2_ n3_ n4_ n5_ n6_ n7_ n8_;(try clear hb);(try clear hb2);(try clear hk);(try clear hi)))
        go_ret
        exact ⟨by first|rfl|(simp [errW_none,errW_some] <;> rfl)|(simp [*,errW_none,errW_some] <;> rfl),by repeat (first|(with_reducible first|exact HB.out|apply bA_|apply bN_|apply bD_|refine bS_ ?_ GE257.out|refine bS_ ?_ GE258.out|refine bS_ ?_ GE286.out|refine bS_ ?_ GE291.out)|exact HB.out)⟩
      · rw [if_neg c25] at H
        have c25b0 : (t292 != t275) = false := by simpa using c25
        (try (have c25b1 : decide (t292 = t275) = true := by simpa using c25))
        (try (have c25b2 : (t292 == t275) = true := by simpa using c25))
        clear c25
        replace H := Option.bind_eq_some_iff.mp H
        obtain ⟨⟨t293, t294, t295, t296, t299, t300, t301, t302⟩, A560, H⟩ := H
        replace H : ((laws_eqFlash.f k t276 t277 t278 t279 t282 t283 t284 t285 t293 t294 t295 t296 t299 t300 t301 t302).bind fun t303 => (if t303 = true then ((laws_toWipe.f k l1_0 a1_1).bind fun bt304 => ((laws_eqWipe.f k t287 t290 bt304.1 bt304.2).bind fun t308 => (if t308 = true then (some true) else (some false)))) else (some false))) = some r:=H
        have A56 := Aside0.mk A560
        clear A560
        replace H := Option.bind_eq_some_iff.mp H
        obtain ⟨t303, A570, H⟩ := H
        replace H : (if t303 = true then ((laws_toWipe.f k l1_0 a1_1).bind fun bt304 => ((laws_eqWipe.f k t287 t290 bt304.1 bt304.2).bind fun t308 => (if t308 = true then (some true) else (some false)))) else (some false)) = some r:=H
        have A57 := Aside0.mk A570
        clear A570
        by_cases c58 : t303 = true
        · subst c58
          have H1 : ((laws_toWipe.f k l1_0 a1_1).bind fun bt304 => ((laws_eqWipe.f k t287 t290 bt304.1 bt304.2).bind fun t308 => (if t308 = true then (some true) else (some false)))) = some r:=by rw [if_pos rfl] at H;exact H
          clear H
          have H := H1
          clear H1
          replace H := Option.bind_eq_some_iff.mp H
          obtain ⟨⟨t304, t307⟩, A590, H⟩ := H
          replace H : ((laws_eqWipe.f k t287 t290 t304 t307).bind fun t308 => (if t308 = true then (some true) else (some false))) = some r := H
          have A59 := Aside0.mk A590
          clear A590
          replace H := Option.bind_eq_some_iff.mp H
          obtain ⟨t308, A600, H⟩ := H
          replace H : (if t308 = true then (some true) else (some false)) = some r := H
          have A60 := Aside0.mk A600
          clear A600
          by_cases c61 : t308 = true
          · subst c61
            have H1 : (some true) = some r := by rw [if_pos rfl] at H; exact H
            clear H
            have H := H1
            clear H1
            obtain rfl := Option.some.inj H
            go_enter Try.func6, Try.ntmps6
            try go_wp2_with (first|((with_reducible refine gate_dst (N:=2) rfl ?_);refine box_event ?hg (N:=2) ?hd (cs:=#[.int .i64 a0_0,.int .i64 a0_1,.int .i64 a0_2,.slice A0_3 l0_3.length c0_3,.int .i64 a0_4,.int .i64 a0_5,.bool a0_6,.int .i64 a0_7]) (t:=26) ?hr ?_;(case hd => rfl);(case hg => rfl);(case hr => first|(go_simp;done)|(go_simp;rfl));intro gb257 hg w62 hbox hb;have n0_:=mk_ (bT_ (by repeat (first|(with_reducible first|exact HB.out|apply bA_|apply bN_|apply bD_)|exact HB.out)) hb);have n1_:=mk_ (hbox);have n2_:=mk_ ((by rw [hg];exact (bZ_ (by repeat (first|(with_reducible first|exact HB.out|apply bA_|apply bN_|apply bD_)|exact HB.out))) : w.heap.size ≤ gb257));have n3_:=mk_ ((by rw [hg];exact (bZ_ (by repeat (first|(with_reducible first|exact HB.out|apply bA_|apply bN_|apply bD_)|exact HB.out))) : w.heap.size ≤ gb257));clear HB;have HB:=n0_;have BK257:=n1_;have GW257:=n2_;have GE257:=n3_;clear n0_ n1_ n2_ n3_;clear hb hbox hg)|((with_reducible refine gate_dst (N:=3) rfl ?_);refine box_event ?hg (N:=3) ?hd (cs:=#[.slice A1_0 l1_0.length c1_0,.int .i64 a1_1]) (t:=66) ?hr ?_;(case hd => rfl);(case hg => rfl);(case hr => first|(go_simp;done)|(go_simp;rfl));intro gb258 hg w63 hbox hb;have n0_:=mk_ (blk_below (g:=gb257) (o:=.cells #[.int .i64 a0_0,.int .i64 a0_1,.int .i64 a0_2,.slice A0_3 l0_3.length c0_3,.int .i64 a0_4,.int .i64 a0_5,.bool a0_6,.int .i64 a0_7] 26 (0,0)) (by (with_reducible repeat (first|refine kN_ ?_ _|refine kD_ ?_|refine kA_ ?_ _));exact BK257.out) hb);have n1_:=mk_ (bT_ (by repeat (first|(with_reducible first|exact HB.out|apply bA_|apply bN_|apply bD_|refine bS_ ?_ GE257.out)|exact HB.out)) hb);have n2_:=mk_ (hbox);have n3_:=mk_ ((by rw [hg];exact (bZ_ (by repeat (first|(with_reducible first|exact HB.out|apply bA_|apply bN_|apply bD_|refine bS_ ?_ GE257.out)|exact HB.out))) : w.heap.size ≤ gb258));have n4_:=mk_ ((by rw [hg];exact (bZ_ (by repeat (first|(with_reducible first|exact HB.out|apply bA_|apply bN_|apply bD_|refine bS_ ?_ GE257.out)|exact HB.out))) : w.heap.size ≤ gb258));have n5_:=mk_ ((by rw [hg];exact Nat.ne_of_lt (blk_lt (g:=gb257) (o:=.cells #[.int .i64 a0_0,.int .i64 a0_1,.int .i64 a0_2,.slice A0_3 l0_3.length c0_3,.int .i64 a0_4,.int .i64 a0_5,.bool a0_6,.int .i64 a0_7] 26 (0,0)) (by (with_reducible repeat (first|refine kN_ ?_ _|refine kD_ ?_|refine kA_ ?_ _));exact BK257.out)) : gb257 ≠ gb258));have n6_:=mk_ ((by rw [hg];exact Nat.ne_of_gt (blk_lt (g:=gb257) (o:=.cells #[.int .i64 a0_0,.int .i64 a0_1,.int .i64 a0_2,.slice A0_3 l0_3.length c0_3,.int .i64 a0_4,.int .i64 a0_5,.bool a0_6,.int .i64 a0_7] 26 (0,0)) (by (with_reducible repeat (first|refine kN_ ?_ _|refine kD_ ?_|refine kA_ ?_ _));exact BK257.out)) : gb258 ≠ gb257));clear BK257;clear HB;have BK257:=n0_;have HB:=n1_;have BK258:=n2_;have GW258:=n3_;have GE258:=n4_;have NB257_258:=n5_;have NB258_257:=n6_;clear n0_ n1_ n2_ n3_ n4_ n5_ n6_;clear hb hbox hg;have hnb64:=NB257_258.out;have hnc64:=NB258_257.out;have hcz65_0 : w63.cell? ⟨gb257,0,none⟩ = some (.int .i64 a0_0):=(blk_cell BK257.out 0).trans rfl;have hcz65_1 : w63.cell? ⟨gb257,1,none⟩ = some (.int .i64 a0_1):=(blk_cell BK257.out 1).trans rfl;have hcz65_2 : w63.cell? ⟨gb257,2,none⟩ = some (.int .i64 a0_2):=(blk_cell BK257.out 2).trans rfl;have hcz65_3 : w63.cell? ⟨gb257,3,none⟩ = some (.slice A0_3 l0_3.length c0_3):=(blk_cell BK257.out 3).trans rfl;have hcz65_4 : w63.cell? ⟨gb257,4,none⟩ = some (.int .i64 a0_4):=(blk_cell BK257.out 4).trans rfl;have hcz65_5 : w63.cell? ⟨gb257,5,none⟩ = some (.int .i64 a0_5):=(blk_cell BK257.out 5).trans rfl;have hcz65_6 : w63.cell? ⟨gb257,6,none⟩ = some (.bool a0_6):=(blk_cell BK257.out 6).trans rfl;have hcz65_7 : w63.cell? ⟨gb257,7,none⟩ = some (.int .i64 a0_7):=(blk_cell BK257.out 7).trans rfl;have hfz65_0:=fZ_ BK257.out 0;have hfz65_1:=fZ_ BK257.out 1;have hfz65_2:=fZ_ BK257.out 2;have hfz65_3:=fZ_ BK257.out 3;have hfz65_4:=fZ_ BK257.out 4;have hfz65_5:=fZ_ BK257.out 5;have hfz65_6:=fZ_ BK257.out 6;have hfz65_7:=fZ_ BK257.out 7)|((with_reducible refine gate_callee (f:=28) rfl ?_);refine goesL_ (some 12) rfl rfl Try.func28 (by kernel_rfl) rfl #[.agg #[.int .i64 a0_0,.int .i64 a0_1,.int .i64 a0_2,.slice A0_3 l0_3.length c0_3,.int .i64 a0_4,.int .i64 a0_5,.bool a0_6,.int .i64 a0_7],.int .i64 1048576] rfl (by (try simp only [List.map_toArray,List.map_cons,List.map_nil]);first|done|rfl|(simp only [List.length_drop,List.length_take];rfl)) ?_;(with_reducible refine (laws_szFlash.calls k a0_0 a0_1 a0_2 _ _ l0_3 a0_4 a0_5 a0_6 a0_7 1048576 t259 _ ?side1 ?side2 A3.out).mono ?_);(case side1 => repeat (first|exact (Kd.C_below HR0_3.out HB.out)|(with_reducible refine cA_ ?_ _)|(with_reducible refine Kd.C_drewN ?_ _)|(with_reducible refine Kd.C_drew ?_)));(case side2 => exact HC0_3.out);rintro e w66 ⟨rfl,hb⟩;refine ⟨_,rfl,?_⟩;have n0_:=mk_ (blk_below (g:=gb257) (o:=.cells #[.int .i64 a0_0,.int .i64 a0_1,.int .i64 a0_2,.slice A0_3 l0_3.length c0_3,.int .i64 a0_4,.int .i64 a0_5,.bool a0_6,.int .i64 a0_7] 26 (0,0)) (by (with_reducible repeat (first|refine kN_ ?_ _|refine kD_ ?_|refine kA_ ?_ _));exact BK257.out) hb);have n1_:=mk_ (blk_below (g:=gb258) (o:=.cells #[.slice A1_0 l1_0.length c1_0,.int .i64 a1_1] 66 (0,0)) (by (with_reducible repeat (first|refine kN_ ?_ _|refine kD_ ?_|refine kA_ ?_ _));exact BK258.out) hb);have n2_:=mk_ (bT_ (by repeat (first|(with_reducible first|exact HB.out|apply bA_|apply bN_|apply bD_|refine bS_ ?_ GE257.out|refine bS_ ?_ GE258.out)|exact HB.out)) hb);clear BK257;clear BK258;clear HB;have BK257:=n0_;have BK258:=n1_;have HB:=n2_;clear n0_ n1_ n2_;(try clear hb);(try clear hb2);(try clear hk);(try clear hi);have hcz67_0 : w66.cell? ⟨gb258,0,none⟩ = some (.slice A1_0 l1_0.length c1_0):=(blk_cell BK258.out 0).trans rfl;have hcz67_1 : w66.cell? ⟨gb258,1,none⟩ = some (.int .i64 a1_1):=(blk_cell BK258.out 1).trans rfl;have hfz67_0:=fZ_ BK258.out 0;have hfz67_1:=fZ_ BK258.out 1)|((with_reducible refine gate_callee (f:=33) rfl ?_);refine goesL_ (some 17) rfl rfl Try.func33 (by kernel_rfl) rfl #[.agg #[.slice A1_0 l1_0.length c1_0,.int .i64 a1_1],.int .i64 t259] rfl (by (try simp only [List.map_toArray,List.map_cons,List.map_nil]);first|done|rfl|(simp only [List.length_drop,List.length_take];rfl)) ?_;(with_reducible refine (laws_szWipe.calls _ _ l1_0 a1_1 t259 t260 _ ?side1 ?side2 A10.out).mono ?_);(case side1 => repeat (first|exact (Kd.C_below HR1_0.out HB.out)|(with_reducible refine cA_ ?_ _)|(with_reducible refine Kd.C_drewN ?_ _)|(with_reducible refine Kd.C_drew ?_)));(case side2 => exact HC1_0.out);rintro e w68 ⟨rfl,hb⟩;refine ⟨_,rfl,?_⟩;have n0_:=mk_ (blk_below (g:=gb257) (o:=.cells #[.int .i64 a0_0,.int .i64 a0_1,.int .i64 a0_2,.slice A0_3 l0_3.length c0_3,.int .i64 a0_4,.int .i64 a0_5,.bool a0_6,.int .i64 a0_7] 26 (0,0)) (by (with_reducible repeat (first|refine kN_ ?_ _|refine kD_ ?_|refine kA_ ?_ _));exact BK257.out) hb);have n1_:=mk_ (blk_below (g:=gb258) (o:=.cells #[.slice A1_0 l1_0.length c1_0,.int .i64 a1_1] 66 (0,0)) (by (with_reducible repeat (first|refine kN_ ?_ _|refine kD_ ?_|refine kA_ ?_ _));exact BK258.out) hb);have n2_:=mk_ (bT_ (by repeat (first|(with_reducible first|exact HB.out|apply bA_|apply bN_|apply bD_|refine bS_ ?_ GE257.out|refine bS_ ?_ GE258.out)|exact HB.out)) hb);clear BK257;clear BK258;clear HB;have BK257:=n0_;have BK258:=n1_;have HB:=n2_;clear n0_ n1_ n2_;(try clear hb);(try clear hb2);(try clear hk);(try clear hi)))
            have n0_ := Aside0.mk (blk_drew BK257.out)
            have n1_ := Aside0.mk (blk_drew BK258.out)
            have n2_ := Aside0.mk (below_drew1 HB.out)
            clear BK257
            clear BK258
            clear HB
            have BK257 := n0_
            have BK258 := n1_
            have HB := n2_
            clear n0_ n1_ n2_
            refine start_ (n:=6) (S:=fun w' => w'.cell? ⟨gb257,0,none⟩ = some (.int .i64 a0_0) ∧ w'.cell? ⟨gb257,1,none⟩ = some (.int .i64 a0_1) ∧ w'.cell? ⟨gb257,2,none⟩ = some (.int .i64 a0_2) ∧ w'.cell? ⟨gb257,3,none⟩ = some (.slice A0_3 l0_3.length c0_3) ∧ w'.cell? ⟨gb257,4,none⟩ = some (.int .i64 a0_4) ∧ w'.cell? ⟨gb257,5,none⟩ = some (.int .i64 a0_5) ∧ w'.cell? ⟨gb257,6,none⟩ = some (.bool a0_6) ∧ w'.cell? ⟨gb257,7,none⟩ = some (.int .i64 a0_7) ∧ w'.cell? ⟨gb258,0,none⟩ = some (.slice A1_0 l1_0.length c1_0) ∧ w'.cell? ⟨gb258,1,none⟩ = some (.int .i64 a1_1)) (ds:=[]) #[false,false,false,false,false,false] (by kernel_rfl) rfl rfl ⟨(blk_cell BK257.out 0).trans rfl,(blk_cell BK257.out 1).trans rfl,(blk_cell BK257.out 2).trans rfl,(blk_cell BK257.out 3).trans rfl,(blk_cell BK257.out 4).trans rfl,(blk_cell BK257.out 5).trans rfl,(blk_cell BK257.out 6).trans rfl,(blk_cell BK257.out 7).trans rfl,(blk_cell BK258.out 0).trans rfl,(blk_cell BK258.out 1).trans rfl⟩ (fun hHeld => ?_)
            generalize w68.drew = w69 at BK257 BK258 HB hHeld ⊢
            refine take_ (i := 0) (N := some 20) (v := ?_) (a' := ?_) #[true, false, false, false, false, false] rfl rfl (by kernel_rfl) (fun _ _ _ h => h) (Or.inl ⟨by rfl, ?_⟩) hHeld ?_ ?_
            rotate_left
            · rintro w' ⟨s0, s1, s2, s3, s4, s5, s6, s7, s8, s9⟩
              go_simp
              with_reducible rfl
            rotate_left
            · simp only [Act.put, List.setIfInBounds_toArray, List.set_cons_zero, List.set_cons_succ, i64_w, i32_w]
              rfl
            refine take_ (i := 2) (N := some 22) (v := ?_) (a' := ?_) #[true, false, true, false, false, false] rfl rfl (by kernel_rfl) (fun _ _ _ h => h) (Or.inl ⟨by rfl, ?_⟩) hHeld ?_ ?_
            rotate_left
            · rintro w' ⟨s0, s1, s2, s3, s4, s5, s6, s7, s8, s9⟩
              go_simp
              with_reducible rfl
            rotate_left
            · simp only [Act.put, List.setIfInBounds_toArray, List.set_cons_zero, List.set_cons_succ, i64_w, i32_w]
              rfl
            refine one_ (i := 1) (N := some 21) #[true, true, true, false, false, false] rfl rfl (by kernel_rfl) (by decide) (fun K hK => ?_)
            refine goes_ Try.func30 (by kernel_rfl) rfl #[.agg #[.int .i64 a0_0,.int .i64 a0_1,.int .i64 a0_2,.slice A0_3 l0_3.length c0_3,.int .i64 a0_4,.int .i64 a0_5,.bool a0_6,.int .i64 a0_7]] (by rfl) rfl rfl (by (try simp only [List.map_toArray,List.map_cons,List.map_nil]);first|done|rfl|(simp only [List.length_drop,List.length_take];rfl)) ?_
            with_reducible refine (laws_toFlash.calls k a0_0 a0_1 a0_2 _ _ l0_3 a0_4 a0_5 a0_6 a0_7 t261 t262 t263 t264 t267 t268 t269 t270 _ ?side1 ?side2 A19.out).mono ?_
            (case side1 => repeat (first|exact (Kd.C_below HR0_3.out HB.out)|(with_reducible refine cA_ ?_ _)|(with_reducible refine Kd.C_drewN ?_ _)|(with_reducible refine Kd.C_drew ?_)))
            (case side2 => exact HC0_3.out)
            rintro e w70 ⟨v265, rfl, ho0, hb⟩
            refine ⟨_, rfl, ?_⟩
            have n0_:=mk_ (Kd.S_lower ho0 (bZ_ (by repeat (first|(with_reducible first|exact HB.out|apply bA_|apply bN_|apply bD_|refine bS_ ?_ GE257.out|refine bS_ ?_ GE258.out)|exact HB.out))))
            have n1_:=mk_ (blk_below (g:=gb257) (o:=.cells #[.int .i64 a0_0,.int .i64 a0_1,.int .i64 a0_2,.slice A0_3 l0_3.length c0_3,.int .i64 a0_4,.int .i64 a0_5,.bool a0_6,.int .i64 a0_7] 26 (0,0)) (by (with_reducible repeat (first|refine kN_ ?_ _|refine kD_ ?_|refine kA_ ?_ _));exact BK257.out) hb)
            have n2_:=mk_ (blk_below (g:=gb258) (o:=.cells #[.slice A1_0 l1_0.length c1_0,.int .i64 a1_1] 66 (0,0)) (by (with_reducible repeat (first|refine kN_ ?_ _|refine kD_ ?_|refine kA_ ?_ _));exact BK258.out) hb)
            have n3_:=mk_ (bT_ (by repeat (first|(with_reducible first|exact HB.out|apply bA_|apply bN_|apply bD_|refine bS_ ?_ GE257.out|refine bS_ ?_ GE258.out)|exact HB.out)) hb)
            clear BK257
            clear BK258
            clear HB
            have HO266 := n0_
            have BK257 := n1_
            have BK258 := n2_
            have HB := n3_
            clear n0_ n1_ n2_ n3_
            (try clear hb)
            (try clear hb2)
            (try clear hk)
            (try clear hi)
            (try clear ho0)
            refine hK.out _ _ ⟨(blk_cell BK257.out 0).trans rfl,(blk_cell BK257.out 1).trans rfl,(blk_cell BK257.out 2).trans rfl,(blk_cell BK257.out 3).trans rfl,(blk_cell BK257.out 4).trans rfl,(blk_cell BK257.out 5).trans rfl,(blk_cell BK257.out 6).trans rfl,(blk_cell BK257.out 7).trans rfl,(blk_cell BK258.out 0).trans rfl,(blk_cell BK258.out 1).trans rfl⟩ (fun hHeld => ?_)
            clear hK K
            refine norm_ (a' := ?_) ?_ ?_
            rotate_left
            · show Act.put _ (some 21) _ = _
              simp only [Act.put, List.setIfInBounds_toArray, List.set_cons_zero, List.set_cons_succ, i64_w, i32_w]
              rfl
            refine one_ (i := 3) (N := some 23) #[true, true, true, true, false, false] rfl rfl (by kernel_rfl) (by decide) (fun K hK => ?_)
            refine goes_ Try.func35 (by kernel_rfl) rfl #[.agg #[.slice A1_0 l1_0.length c1_0,.int .i64 a1_1]] (by rfl) rfl rfl (by (try simp only [List.map_toArray,List.map_cons,List.map_nil]);first|done|rfl|(simp only [List.length_drop,List.length_take];rfl)) ?_
            with_reducible refine (laws_toWipe.calls k _ _ l1_0 a1_1 t271 t274 _ ?side1 ?side2 A20.out).mono ?_
            (case side1 => repeat (first|exact (Kd.C_below HR1_0.out HB.out)|(with_reducible refine cA_ ?_ _)|(with_reducible refine Kd.C_drewN ?_ _)|(with_reducible refine Kd.C_drew ?_)))
            (case side2 => exact HC1_0.out)
            rintro e w71 ⟨v272, rfl, ho0, hb⟩
            refine ⟨_, rfl, ?_⟩
            have n0_ := Aside0.mk (Kd.S_below (by (with_reducible repeat (first | apply Kd.S_alloc | apply Kd.S_drewN | apply Kd.S_drew)); exact HO266.out) hb)
            have n1_:=mk_ (Kd.R_lower ho0 (bZ_ (by repeat (first|(with_reducible first|exact HB.out|apply bA_|apply bN_|apply bD_|refine bS_ ?_ GE257.out|refine bS_ ?_ GE258.out)|exact HB.out))))
            have n2_:=mk_ (blk_below (g:=gb257) (o:=.cells #[.int .i64 a0_0,.int .i64 a0_1,.int .i64 a0_2,.slice A0_3 l0_3.length c0_3,.int .i64 a0_4,.int .i64 a0_5,.bool a0_6,.int .i64 a0_7] 26 (0,0)) (by (with_reducible repeat (first|refine kN_ ?_ _|refine kD_ ?_|refine kA_ ?_ _));exact BK257.out) hb)
            have n3_:=mk_ (blk_below (g:=gb258) (o:=.cells #[.slice A1_0 l1_0.length c1_0,.int .i64 a1_1] 66 (0,0)) (by (with_reducible repeat (first|refine kN_ ?_ _|refine kD_ ?_|refine kA_ ?_ _));exact BK258.out) hb)
            have n4_:=mk_ (bT_ (by repeat (first|(with_reducible first|exact HB.out|apply bA_|apply bN_|apply bD_|refine bS_ ?_ GE257.out|refine bS_ ?_ GE258.out)|exact HB.out)) hb)
            clear HO266
            clear BK257
            clear BK258
            clear HB
            have HO266 := n0_
            have HO273 := n1_
            have BK257 := n2_
            have BK258 := n3_
            have HB := n4_
            clear n0_ n1_ n2_ n3_ n4_
            (try clear hb)
            (try clear hb2)
            (try clear hk)
            (try clear hi)
            (try clear ho0)
            obtain ⟨Ao72, co72, eo72⟩ := Kd.S_slice HO266.out
            (first | subst eo72 | (injection eo72 with f1_ f2_ f3_; have f4_ := f1_.symm; have f5_ := f3_.symm; clear f1_ f2_ f3_; subst f4_; subst f5_))
            obtain ⟨Ao73, co73, eo73⟩ := Kd.R_slice HO273.out
            (first | subst eo73 | (injection eo73 with f1_ f2_ f3_; have f4_ := f1_.symm; have f5_ := f3_.symm; clear f1_ f2_ f3_; subst f4_; subst f5_))
            refine hK.out _ _ ⟨(blk_cell BK257.out 0).trans rfl,(blk_cell BK257.out 1).trans rfl,(blk_cell BK257.out 2).trans rfl,(blk_cell BK257.out 3).trans rfl,(blk_cell BK257.out 4).trans rfl,(blk_cell BK257.out 5).trans rfl,(blk_cell BK257.out 6).trans rfl,(blk_cell BK257.out 7).trans rfl,(blk_cell BK258.out 0).trans rfl,(blk_cell BK258.out 1).trans rfl⟩ (fun hHeld => ?_)
            clear hK K
            refine norm_ (a' := ?_) ?_ ?_
            rotate_left
            · show Act.put _ (some 23) _ = _
              simp only [Act.put, List.setIfInBounds_toArray, List.set_cons_zero, List.set_cons_succ, i64_w, i32_w]
              rfl
            refine one_ (i := 4) (N := some 24) #[true, true, true, true, true, false] rfl rfl (by kernel_rfl) (by decide) (fun K hK => ?_)
            refine goes_ Try.func34 (by kernel_rfl) rfl #[.agg #[.int .i64 t261,.int .i64 t262,.int .i64 t263,.slice Ao72 t264.length co72,.int .i64 t267,.int .i64 t268,.bool t269,.int .i64 t270],.agg #[.slice Ao73 t271.length co73,.int .i64 t274]] (by rfl) rfl rfl (by (try simp only [List.map_toArray,List.map_cons,List.map_nil]);first|done|rfl|(simp only [List.length_drop,List.length_take];rfl)) ?_
            with_reducible refine (spec_ValidWipe.calls k t261 t262 t263 _ _ t264 t267 t268 t269 t270 _ _ t271 t274 t275 _ ?side1 ?side2 ?side3 ?side4 A21.out).mono ?_
            (case side1 => repeat (first|exact (Kd.S_reads' HO266.out).2.2|(with_reducible refine cA_ ?_ _)|(with_reducible refine Kd.C_drewN ?_ _)|(with_reducible refine Kd.C_drew ?_)))
            (case side2 => exact (Kd.S_reads' HO266.out).2.1)
            (case side3 => repeat (first|exact (Kd.R_reads' HO273.out).2.2|(with_reducible refine cA_ ?_ _)|(with_reducible refine Kd.C_drewN ?_ _)|(with_reducible refine Kd.C_drew ?_)))
            (case side4 => exact (Kd.R_reads' HO273.out).2.1)
            rintro e w74 ⟨rfl, hb⟩
            refine ⟨_, rfl, ?_⟩
            have n0_ := Aside0.mk (Kd.S_below (by (with_reducible repeat (first | apply Kd.S_alloc | apply Kd.S_drewN | apply Kd.S_drew)); exact HO266.out) hb)
            have n1_ := Aside0.mk (Kd.R_below (by (with_reducible repeat (first | apply Kd.R_alloc | apply Kd.R_drewN | apply Kd.R_drew)); exact HO273.out) hb)
            have n2_:=mk_ (blk_below (g:=gb257) (o:=.cells #[.int .i64 a0_0,.int .i64 a0_1,.int .i64 a0_2,.slice A0_3 l0_3.length c0_3,.int .i64 a0_4,.int .i64 a0_5,.bool a0_6,.int .i64 a0_7] 26 (0,0)) (by (with_reducible repeat (first|refine kN_ ?_ _|refine kD_ ?_|refine kA_ ?_ _));exact BK257.out) hb)
            have n3_:=mk_ (blk_below (g:=gb258) (o:=.cells #[.slice A1_0 l1_0.length c1_0,.int .i64 a1_1] 66 (0,0)) (by (with_reducible repeat (first|refine kN_ ?_ _|refine kD_ ?_|refine kA_ ?_ _));exact BK258.out) hb)
            have n4_:=mk_ (bT_ (by repeat (first|(with_reducible first|exact HB.out|apply bA_|apply bN_|apply bD_|refine bS_ ?_ GE257.out|refine bS_ ?_ GE258.out)|exact HB.out)) hb)
            clear HO266
            clear HO273
            clear BK257
            clear BK258
            clear HB
            have HO266 := n0_
            have HO273 := n1_
            have BK257 := n2_
            have BK258 := n3_
            have HB := n4_
            clear n0_ n1_ n2_ n3_ n4_
            (try clear hb)
            (try clear hb2)
            (try clear hk)
            (try clear hi)
            refine hK.out _ _ ⟨(blk_cell BK257.out 0).trans rfl,(blk_cell BK257.out 1).trans rfl,(blk_cell BK257.out 2).trans rfl,(blk_cell BK257.out 3).trans rfl,(blk_cell BK257.out 4).trans rfl,(blk_cell BK257.out 5).trans rfl,(blk_cell BK257.out 6).trans rfl,(blk_cell BK257.out 7).trans rfl,(blk_cell BK258.out 0).trans rfl,(blk_cell BK258.out 1).trans rfl⟩ (fun hHeld => ?_)
            clear hK K
            refine norm_ (a' := ?_) ?_ ?_
            rotate_left
            · show Act.put _ (some 24) _ = _
              simp only [Act.put, List.setIfInBounds_toArray, List.set_cons_zero, List.set_cons_succ, i64_w, i32_w]
              rfl
            refine pure_ (i := 5) (N := some 6) (v := ?_) (a' := ?_) #[true, true, true, true, true, true] rfl rfl (by kernel_rfl) (fun _ _ _ h => h) (Or.inl ⟨by rfl, ?_⟩) ?_ ?_
            rotate_left
            · intro w'
              go_simp
              with_reducible rfl
            rotate_left
            · simp only [Act.put, List.setIfInBounds_toArray, List.set_cons_zero, List.set_cons_succ, i64_w, i32_w]
              rfl
            refine done_ (by kernel_rfl) ?_
            have hcz75_0 : w74.cell? ⟨gb257, 0, none⟩ = some (.int .i64 a0_0) := (blk_cell BK257.out 0).trans rfl
            have hcz75_1 : w74.cell? ⟨gb257, 1, none⟩ = some (.int .i64 a0_1) := (blk_cell BK257.out 1).trans rfl
            have hcz75_2 : w74.cell? ⟨gb257, 2, none⟩ = some (.int .i64 a0_2) := (blk_cell BK257.out 2).trans rfl
            have hcz75_3 : w74.cell? ⟨gb257, 3, none⟩ = some (.slice A0_3 l0_3.length c0_3) := (blk_cell BK257.out 3).trans rfl
            have hcz75_4 : w74.cell? ⟨gb257, 4, none⟩ = some (.int .i64 a0_4) := (blk_cell BK257.out 4).trans rfl
            have hcz75_5 : w74.cell? ⟨gb257, 5, none⟩ = some (.int .i64 a0_5) := (blk_cell BK257.out 5).trans rfl
            have hcz75_6 : w74.cell? ⟨gb257, 6, none⟩ = some (.bool a0_6) := (blk_cell BK257.out 6).trans rfl
            have hcz75_7 : w74.cell? ⟨gb257, 7, none⟩ = some (.int .i64 a0_7) := (blk_cell BK257.out 7).trans rfl
            have hfz75_0 := blk_frozen BK257.out 0
            have hfz75_1 := blk_frozen BK257.out 1
            have hfz75_2 := blk_frozen BK257.out 2
            have hfz75_3 := blk_frozen BK257.out 3
            have hfz75_4 := blk_frozen BK257.out 4
            have hfz75_5 := blk_frozen BK257.out 5
            have hfz75_6 := blk_frozen BK257.out 6
            have hfz75_7 := blk_frozen BK257.out 7
            try go_wp2_with (first|((with_reducible refine gate_callee (f:=30) rfl ?_);refine goesL_ (some 26) rfl rfl Try.func30 (by kernel_rfl) rfl #[.agg #[.int .i64 a0_0,.int .i64 a0_1,.int .i64 a0_2,.slice A0_3 l0_3.length c0_3,.int .i64 a0_4,.int .i64 a0_5,.bool a0_6,.int .i64 a0_7]] rfl (by (try simp only [List.map_toArray,List.map_cons,List.map_nil]);first|done|rfl|(simp only [List.length_drop,List.length_take];rfl)) ?_;(with_reducible refine (laws_toFlash.calls k a0_0 a0_1 a0_2 _ _ l0_3 a0_4 a0_5 a0_6 a0_7 t276 t277 t278 t279 t282 t283 t284 t285 _ ?side1 ?side2 A22.out).mono ?_);(case side1 => repeat (first|exact (Kd.C_below HR0_3.out HB.out)|(with_reducible refine cA_ ?_ _)|(with_reducible refine Kd.C_drewN ?_ _)|(with_reducible refine Kd.C_drew ?_)));(case side2 => exact HC0_3.out);rintro e w76 ⟨v280,rfl,ho0,hb⟩;refine ⟨_,rfl,?_⟩;have n0_:=mk_ (Kd.S_elder' (by (with_reducible repeat (first|apply sA_|apply sN_|apply Kd.S_drew));exact HO266.out) (Kd.S_base ho0) hb);have n1_:=mk_ (Kd.R_below (by (with_reducible repeat (first|apply rA_|apply rN_|apply rD_));exact HO273.out) hb);have n2_:=mk_ (Kd.S_lower (Kd.S_new' ho0 (Kd.S_lt (by (with_reducible repeat (first|apply sA_|apply sN_|apply Kd.S_drew));exact HO266.out))) (bZ_ (by repeat (first|(with_reducible first|exact HB.out|apply bA_|apply bN_|apply bD_|refine bS_ ?_ GE257.out|refine bS_ ?_ GE258.out)|exact HB.out))));have n3_:=mk_ (blk_below (g:=gb257) (o:=.cells #[.int .i64 a0_0,.int .i64 a0_1,.int .i64 a0_2,.slice A0_3 l0_3.length c0_3,.int .i64 a0_4,.int .i64 a0_5,.bool a0_6,.int .i64 a0_7] 26 (0,0)) (by (with_reducible repeat (first|refine kN_ ?_ _|refine kD_ ?_|refine kA_ ?_ _));exact BK257.out) hb);have n4_:=mk_ (blk_below (g:=gb258) (o:=.cells #[.slice A1_0 l1_0.length c1_0,.int .i64 a1_1] 66 (0,0)) (by (with_reducible repeat (first|refine kN_ ?_ _|refine kD_ ?_|refine kA_ ?_ _));exact BK258.out) hb);have n5_:=mk_ (bT_ (by repeat (first|(with_reducible first|exact HB.out|apply bA_|apply bN_|apply bD_|refine bS_ ?_ GE257.out|refine bS_ ?_ GE258.out)|exact HB.out)) hb);clear HO266;clear HO273;clear BK257;clear BK258;clear HB;have HO266:=n0_;have HO273:=n1_;have HO281:=n2_;have BK257:=n3_;have BK258:=n4_;have HB:=n5_;clear n0_ n1_ n2_ n3_ n4_ n5_;(try clear hb);(try clear hb2);(try clear hk);(try clear hi);(try clear ho0))|((with_reducible refine gate_dst (N:=7) rfl ?_);refine box_event ?hg (N:=7) ?hd (cs:=#[.int .i64 0,.int .i64 0,.int .i64 0,.slice none 0 0,.int .i64 0,.int .i64 0,.bool false,.int .i64 0]) (t:=40) ?hr ?_;(case hd => rfl);(case hg => rfl);(case hr => first|(go_simp;done)|(go_simp;rfl));intro gb286 hg w77 hbox hb;have n0_:=mk_ (sB_ (by (with_reducible repeat (first|apply sA_|apply sN_|apply Kd.S_drew));exact HO266.out) hb);have n1_:=mk_ (Kd.R_below (by (with_reducible repeat (first|apply rA_|apply rN_|apply rD_));exact HO273.out) hb);have n2_:=mk_ (sB_ (by (with_reducible repeat (first|apply sA_|apply sN_|apply Kd.S_drew));exact HO281.out) hb);have n3_:=mk_ (blk_below (g:=gb257) (o:=.cells #[.int .i64 a0_0,.int .i64 a0_1,.int .i64 a0_2,.slice A0_3 l0_3.length c0_3,.int .i64 a0_4,.int .i64 a0_5,.bool a0_6,.int .i64 a0_7] 26 (0,0)) (by (with_reducible repeat (first|refine kN_ ?_ _|refine kD_ ?_|refine kA_ ?_ _));exact BK257.out) hb);have n4_:=mk_ (blk_below (g:=gb258) (o:=.cells #[.slice A1_0 l1_0.length c1_0,.int .i64 a1_1] 66 (0,0)) (by (with_reducible repeat (first|refine kN_ ?_ _|refine kD_ ?_|refine kA_ ?_ _));exact BK258.out) hb);have n5_:=mk_ (bT_ (by repeat (first|(with_reducible first|exact HB.out|apply bA_|apply bN_|apply bD_|refine bS_ ?_ GE257.out|refine bS_ ?_ GE258.out)|exact HB.out)) hb);have n6_:=mk_ (hbox);have n7_:=mk_ ((by rw [hg];exact (bZ_ (by repeat (first|(with_reducible first|exact HB.out|apply bA_|apply bN_|apply bD_|refine bS_ ?_ GE257.out|refine bS_ ?_ GE258.out)|exact HB.out))) : w.heap.size ≤ gb286));have n8_:=mk_ ((by rw [hg];exact (bZ_ (by repeat (first|(with_reducible first|exact HB.out|apply bA_|apply bN_|apply bD_|refine bS_ ?_ GE257.out|refine bS_ ?_ GE258.out)|exact HB.out))) : w.heap.size ≤ gb286));have n9_:=mk_ ((by rw [hg];exact Nat.ne_of_lt (blk_lt (g:=gb257) (o:=.cells #[.int .i64 a0_0,.int .i64 a0_1,.int .i64 a0_2,.slice A0_3 l0_3.length c0_3,.int .i64 a0_4,.int .i64 a0_5,.bool a0_6,.int .i64 a0_7] 26 (0,0)) (by (with_reducible repeat (first|refine kN_ ?_ _|refine kD_ ?_|refine kA_ ?_ _));exact BK257.out)) : gb257 ≠ gb286));have n10_:=mk_ ((by rw [hg];exact Nat.ne_of_gt (blk_lt (g:=gb257) (o:=.cells #[.int .i64 a0_0,.int .i64 a0_1,.int .i64 a0_2,.slice A0_3 l0_3.length c0_3,.int .i64 a0_4,.int .i64 a0_5,.bool a0_6,.int .i64 a0_7] 26 (0,0)) (by (with_reducible repeat (first|refine kN_ ?_ _|refine kD_ ?_|refine kA_ ?_ _));exact BK257.out)) : gb286 ≠ gb257));have n11_:=mk_ ((by rw [hg];exact Nat.ne_of_lt (blk_lt (g:=gb258) (o:=.cells #[.slice A1_0 l1_0.length c1_0,.int .i64 a1_1] 66 (0,0)) (by (with_reducible repeat (first|refine kN_ ?_ _|refine kD_ ?_|refine kA_ ?_ _));exact BK258.out)) : gb258 ≠ gb286));have n12_:=mk_ ((by rw [hg];exact Nat.ne_of_gt (blk_lt (g:=gb258) (o:=.cells #[.slice A1_0 l1_0.length c1_0,.int .i64 a1_1] 66 (0,0)) (by (with_reducible repeat (first|refine kN_ ?_ _|refine kD_ ?_|refine kA_ ?_ _));exact BK258.out)) : gb286 ≠ gb258));clear HO266;clear HO273;clear HO281;clear BK257;clear BK258;clear HB;have HO266:=n0_;have HO273:=n1_;have HO281:=n2_;have BK257:=n3_;have BK258:=n4_;have HB:=n5_;have BK286:=n6_;have GW286:=n7_;have GE286:=n8_;have NB257_286:=n9_;have NB286_257:=n10_;have NB258_286:=n11_;have NB286_258:=n12_;clear n0_ n1_ n2_ n3_ n4_ n5_ n6_ n7_ n8_ n9_ n10_ n11_ n12_;clear hb hbox hg;have hnb78:=NB286_257.out;have hnc78:=NB257_286.out;have hnb79:=NB286_258.out;have hnc79:=NB258_286.out;have hcz80_0 : w77.cell? ⟨gb286,0,none⟩ = some (.int .i64 0):=(blk_cell BK286.out 0).trans rfl;have hcz80_1 : w77.cell? ⟨gb286,1,none⟩ = some (.int .i64 0):=(blk_cell BK286.out 1).trans rfl;have hcz80_2 : w77.cell? ⟨gb286,2,none⟩ = some (.int .i64 0):=(blk_cell BK286.out 2).trans rfl;have hcz80_3 : w77.cell? ⟨gb286,3,none⟩ = some (.slice none 0 0):=(blk_cell BK286.out 3).trans rfl;have hcz80_4 : w77.cell? ⟨gb286,4,none⟩ = some (.int .i64 0):=(blk_cell BK286.out 4).trans rfl;have hcz80_5 : w77.cell? ⟨gb286,5,none⟩ = some (.int .i64 0):=(blk_cell BK286.out 5).trans rfl;have hcz80_6 : w77.cell? ⟨gb286,6,none⟩ = some (.bool false):=(blk_cell BK286.out 6).trans rfl;have hcz80_7 : w77.cell? ⟨gb286,7,none⟩ = some (.int .i64 0):=(blk_cell BK286.out 7).trans rfl;have hfz80_0:=fZ_ BK286.out 0;have hfz80_1:=fZ_ BK286.out 1;have hfz80_2:=fZ_ BK286.out 2;have hfz80_3:=fZ_ BK286.out 3;have hfz80_4:=fZ_ BK286.out 4;have hfz80_5:=fZ_ BK286.out 5;have hfz80_6:=fZ_ BK286.out 6;have hfz80_7:=fZ_ BK286.out 7;obtain ⟨Ao81,co81,eo81⟩:=Kd.S_slice HO281.out;subst eo81;have hcz82_0 : w77.cell? ⟨gb258,0,none⟩ = some (.slice A1_0 l1_0.length c1_0):=(blk_cell BK258.out 0).trans rfl;have hcz82_1 : w77.cell? ⟨gb258,1,none⟩ = some (.int .i64 a1_1):=(blk_cell BK258.out 1).trans rfl;have hfz82_0:=fZ_ BK258.out 0;have hfz82_1:=fZ_ BK258.out 1)|((with_reducible refine gate_callee (f:=35) rfl ?_);refine goesL_ (some 28) rfl rfl Try.func35 (by kernel_rfl) rfl #[.agg #[.slice A1_0 l1_0.length c1_0,.int .i64 a1_1]] rfl (by (try simp only [List.map_toArray,List.map_cons,List.map_nil]);first|done|rfl|(simp only [List.length_drop,List.length_take];rfl)) ?_;(with_reducible refine (laws_toWipe.calls k _ _ l1_0 a1_1 t287 t290 _ ?side1 ?side2 A23.out).mono ?_);(case side1 => exact Kd.C_below HR1_0.out (by repeat (first|(with_reducible first|exact HB.out|apply bA_|apply bN_|apply bD_|refine bS_ ?_ GE257.out|refine bS_ ?_ GE258.out|refine bS_ ?_ GE286.out)|exact HB.out)));(case side2 => exact HC1_0.out);rintro e w83 ⟨v288,rfl,ho0,hb⟩;refine ⟨_,rfl,?_⟩;have n0_:=mk_ (sB_ (by (with_reducible repeat (first|apply sA_|apply sN_|apply Kd.S_drew));exact (Kd.S_mono (Kd.S_far (p:=⟨gb286,7,none⟩) (Kd.S_far (p:=⟨gb286,6,none⟩) (Kd.S_far (p:=⟨gb286,5,none⟩) (Kd.S_far (p:=⟨gb286,4,none⟩) (Kd.S_far (p:=⟨gb286,3,none⟩) (Kd.S_far (p:=⟨gb286,2,none⟩) (Kd.S_far (p:=⟨gb286,1,none⟩) (Kd.S_far (p:=⟨gb286,0,none⟩) (Kd.S_types HO266.out BK286.out (by decide)) (fun _ hk => hk.2) (.int .i64 t276)) (fun _ hk => hk.2) (.int .i64 t277)) (fun _ hk => hk.2) (.int .i64 t278)) (fun _ hk => hk.2) (.slice Ao81 t279.length co81)) (fun _ hk => hk.2) (.int .i64 t282)) (fun _ hk => hk.2) (.int .i64 t283)) (fun _ hk => hk.2) (.bool t284)) (fun _ hk => hk.2) (.int .i64 t285)) (fun _ h_ => h_.1))) hb);have n1_:=mk_ (Kd.R_elder' (by (with_reducible repeat (first|apply rA_|apply rN_|apply rD_));exact (Kd.R_mono (Kd.R_far (p:=⟨gb286,7,none⟩) (Kd.R_far (p:=⟨gb286,6,none⟩) (Kd.R_far (p:=⟨gb286,5,none⟩) (Kd.R_far (p:=⟨gb286,4,none⟩) (Kd.R_far (p:=⟨gb286,3,none⟩) (Kd.R_far (p:=⟨gb286,2,none⟩) (Kd.R_far (p:=⟨gb286,1,none⟩) (Kd.R_far (p:=⟨gb286,0,none⟩) (Kd.R_types HO273.out BK286.out (by decide)) (fun _ hk => hk.2) (.int .i64 t276)) (fun _ hk => hk.2) (.int .i64 t277)) (fun _ hk => hk.2) (.int .i64 t278)) (fun _ hk => hk.2) (.slice Ao81 t279.length co81)) (fun _ hk => hk.2) (.int .i64 t282)) (fun _ hk => hk.2) (.int .i64 t283)) (fun _ hk => hk.2) (.bool t284)) (fun _ hk => hk.2) (.int .i64 t285)) (fun _ h_ => h_.1))) (Kd.R_base ho0) hb);have n2_:=mk_ (sB_ (by (with_reducible repeat (first|apply sA_|apply sN_|apply Kd.S_drew));exact (Kd.S_mono (Kd.S_far (p:=⟨gb286,7,none⟩) (Kd.S_far (p:=⟨gb286,6,none⟩) (Kd.S_far (p:=⟨gb286,5,none⟩) (Kd.S_far (p:=⟨gb286,4,none⟩) (Kd.S_far (p:=⟨gb286,3,none⟩) (Kd.S_far (p:=⟨gb286,2,none⟩) (Kd.S_far (p:=⟨gb286,1,none⟩) (Kd.S_far (p:=⟨gb286,0,none⟩) (Kd.S_types HO281.out BK286.out (by decide)) (fun _ hk => hk.2) (.int .i64 t276)) (fun _ hk => hk.2) (.int .i64 t277)) (fun _ hk => hk.2) (.int .i64 t278)) (fun _ hk => hk.2) (.slice Ao81 t279.length co81)) (fun _ hk => hk.2) (.int .i64 t282)) (fun _ hk => hk.2) (.int .i64 t283)) (fun _ hk => hk.2) (.bool t284)) (fun _ hk => hk.2) (.int .i64 t285)) (fun _ h_ => h_.1))) hb);have n3_:=mk_ (Kd.R_lower (Kd.R_new' ho0 (Kd.R_lt (by (with_reducible repeat (first|apply rA_|apply rN_|apply rD_));exact (Kd.R_mono (Kd.R_far (p:=⟨gb286,7,none⟩) (Kd.R_far (p:=⟨gb286,6,none⟩) (Kd.R_far (p:=⟨gb286,5,none⟩) (Kd.R_far (p:=⟨gb286,4,none⟩) (Kd.R_far (p:=⟨gb286,3,none⟩) (Kd.R_far (p:=⟨gb286,2,none⟩) (Kd.R_far (p:=⟨gb286,1,none⟩) (Kd.R_far (p:=⟨gb286,0,none⟩) (Kd.R_types HO273.out BK286.out (by decide)) (fun _ hk => hk.2) (.int .i64 t276)) (fun _ hk => hk.2) (.int .i64 t277)) (fun _ hk => hk.2) (.int .i64 t278)) (fun _ hk => hk.2) (.slice Ao81 t279.length co81)) (fun _ hk => hk.2) (.int .i64 t282)) (fun _ hk => hk.2) (.int .i64 t283)) (fun _ hk => hk.2) (.bool t284)) (fun _ hk => hk.2) (.int .i64 t285)) (fun _ h_ => h_.1))))) (bZ_ (by repeat (first|(with_reducible first|exact HB.out|apply bA_|apply bN_|apply bD_|refine bS_ ?_ GE257.out|refine bS_ ?_ GE258.out|refine bS_ ?_ GE286.out)|exact HB.out))));have n4_:=mk_ (blk_below (g:=gb257) (o:=.cells #[.int .i64 a0_0,.int .i64 a0_1,.int .i64 a0_2,.slice A0_3 l0_3.length c0_3,.int .i64 a0_4,.int .i64 a0_5,.bool a0_6,.int .i64 a0_7] 26 (0,0)) (by (with_reducible repeat (first|refine kN_ ?_ _|refine kD_ ?_|refine kA_ ?_ _));refine blk_far ?_ NB257_286.out _;(with_reducible repeat (first|refine kN_ ?_ _|refine kD_ ?_|refine kA_ ?_ _));refine blk_far ?_ NB257_286.out _;(with_reducible repeat (first|refine kN_ ?_ _|refine kD_ ?_|refine kA_ ?_ _));refine blk_far ?_ NB257_286.out _;(with_reducible repeat (first|refine kN_ ?_ _|refine kD_ ?_|refine kA_ ?_ _));refine blk_far ?_ NB257_286.out _;(with_reducible repeat (first|refine kN_ ?_ _|refine kD_ ?_|refine kA_ ?_ _));refine blk_far ?_ NB257_286.out _;(with_reducible repeat (first|refine kN_ ?_ _|refine kD_ ?_|refine kA_ ?_ _));refine blk_far ?_ NB257_286.out _;(with_reducible repeat (first|refine kN_ ?_ _|refine kD_ ?_|refine kA_ ?_ _));refine blk_far ?_ NB257_286.out _;(with_reducible repeat (first|refine kN_ ?_ _|refine kD_ ?_|refine kA_ ?_ _));refine blk_far ?_ NB257_286.out _;(with_reducible repeat (first|refine kN_ ?_ _|refine kD_ ?_|refine kA_ ?_ _));exact BK257.out) hb);have n5_:=mk_ (blk_below (g:=gb258) (o:=.cells #[.slice A1_0 l1_0.length c1_0,.int .i64 a1_1] 66 (0,0)) (by (with_reducible repeat (first|refine kN_ ?_ _|refine kD_ ?_|refine kA_ ?_ _));refine blk_far ?_ NB258_286.out _;(with_reducible repeat (first|refine kN_ ?_ _|refine kD_ ?_|refine kA_ ?_ _));refine blk_far ?_ NB258_286.out _;(with_reducible repeat (first|refine kN_ ?_ _|refine kD_ ?_|refine kA_ ?_ _));refine blk_far ?_ NB258_286.out _;(with_reducible repeat (first|refine kN_ ?_ _|refine kD_ ?_|refine kA_ ?_ _));refine blk_far ?_ NB258_286.out _;(with_reducible repeat (first|refine kN_ ?_ _|refine kD_ ?_|refine kA_ ?_ _));refine blk_far ?_ NB258_286.out _;(with_reducible repeat (first|refine kN_ ?_ _|refine kD_ ?_|refine kA_ ?_ _));refine blk_far ?_ NB258_286.out _;(with_reducible repeat (first|refine kN_ ?_ _|refine kD_ ?_|refine kA_ ?_ _));refine blk_far ?_ NB258_286.out _;(with_reducible repeat (first|refine kN_ ?_ _|refine kD_ ?_|refine kA_ ?_ _));refine blk_far ?_ NB258_286.out _;(with_reducible repeat (first|refine kN_ ?_ _|refine kD_ ?_|refine kA_ ?_ _));exact BK258.out) hb);have n6_:=mk_ (blk_below (g:=gb286) (o:=.cells #[.int .i64 t276,.int .i64 t277,.int .i64 t278,.slice Ao81 t279.length co81,.int .i64 t282,.int .i64 t283,.bool t284,.int .i64 t285] 40 (0,0)) (by (with_reducible repeat (first|refine kN_ ?_ _|refine kD_ ?_|refine kA_ ?_ _));refine blk_put (cs:=#[.int .i64 t276,.int .i64 t277,.int .i64 t278,.slice Ao81 t279.length co81,.int .i64 t282,.int .i64 t283,.bool t284,.int .i64 0]) ?_ 7 _ rfl;(with_reducible repeat (first|refine kN_ ?_ _|refine kD_ ?_|refine kA_ ?_ _));refine blk_put (cs:=#[.int .i64 t276,.int .i64 t277,.int .i64 t278,.slice Ao81 t279.length co81,.int .i64 t282,.int .i64 t283,.bool false,.int .i64 0]) ?_ 6 _ rfl;(with_reducible repeat (first|refine kN_ ?_ _|refine kD_ ?_|refine kA_ ?_ _));refine blk_put (cs:=#[.int .i64 t276,.int .i64 t277,.int .i64 t278,.slice Ao81 t279.length co81,.int .i64 t282,.int .i64 0,.bool false,.int .i64 0]) ?_ 5 _ rfl;(with_reducible repeat (first|refine kN_ ?_ _|refine kD_ ?_|refine kA_ ?_ _));refine blk_put (cs:=#[.int .i64 t276,.int .i64 t277,.int .i64 t278,.slice Ao81 t279.length co81,.int .i64 0,.int .i64 0,.bool false,.int .i64 0]) ?_ 4 _ rfl;(with_reducible repeat (first|refine kN_ ?_ _|refine kD_ ?_|refine kA_ ?_ _));refine blk_put (cs:=#[.int .i64 t276,.int .i64 t277,.int .i64 t278,.slice none 0 0,.int .i64 0,.int .i64 0,.bool false,.int .i64 0]) ?_ 3 _ rfl;(with_reducible repeat (first|refine kN_ ?_ _|refine kD_ ?_|refine kA_ ?_ _));refine blk_put (cs:=#[.int .i64 t276,.int .i64 t277,.int .i64 0,.slice none 0 0,.int .i64 0,.int .i64 0,.bool false,.int .i64 0]) ?_ 2 _ rfl;(with_reducible repeat (first|refine kN_ ?_ _|refine kD_ ?_|refine kA_ ?_ _));refine blk_put (cs:=#[.int .i64 t276,.int .i64 0,.int .i64 0,.slice none 0 0,.int .i64 0,.int .i64 0,.bool false,.int .i64 0]) ?_ 1 _ rfl;(with_reducible repeat (first|refine kN_ ?_ _|refine kD_ ?_|refine kA_ ?_ _));refine blk_put (cs:=#[.int .i64 0,.int .i64 0,.int .i64 0,.slice none 0 0,.int .i64 0,.int .i64 0,.bool false,.int .i64 0]) ?_ 0 _ rfl;(with_reducible repeat (first|refine kN_ ?_ _|refine kD_ ?_|refine kA_ ?_ _));exact BK286.out) hb);have n7_:=mk_ (bT_ (by repeat (first|(with_reducible first|exact HB.out|apply bA_|apply bN_|apply bD_|refine bS_ ?_ GE257.out|refine bS_ ?_ GE258.out|refine bS_ ?_ GE286.out)|exact HB.out)) hb);clear HO266;clear HO273;clear HO281;clear BK257;clear BK258;clear BK286;clear HB;have HO266:=n0_;have HO273:=n1_;have HO281:=n2_;have HO289:=n3_;have BK257:=n4_;have BK258:=n5_;have BK286:=n6_;have HB:=n7_;clear n0_ n1_ n2_ n3_ n4_ n5_ n6_ n7_;(try clear hb);(try clear hb2);(try clear hk);(try clear hi);(try clear ho0))|((with_reducible refine gate_dst (N:=8) rfl ?_);refine box_event ?hg (N:=8) ?hd (cs:=#[.slice none 0 0,.int .i64 0]) (t:=69) ?hr ?_;(case hd => rfl);(case hg => rfl);(case hr => first|(go_simp;done)|(go_simp;rfl));intro gb291 hg w84 hbox hb;have n0_:=mk_ (sB_ (by (with_reducible repeat (first|apply sA_|apply sN_|apply Kd.S_drew));exact HO266.out) hb);have n1_:=mk_ (Kd.R_below (by (with_reducible repeat (first|apply rA_|apply rN_|apply rD_));exact HO273.out) hb);have n2_:=mk_ (sB_ (by (with_reducible repeat (first|apply sA_|apply sN_|apply Kd.S_drew));exact HO281.out) hb);have n3_:=mk_ (Kd.R_below (by (with_reducible repeat (first|apply rA_|apply rN_|apply rD_));exact HO289.out) hb);have n4_:=mk_ (blk_below (g:=gb257) (o:=.cells #[.int .i64 a0_0,.int .i64 a0_1,.int .i64 a0_2,.slice A0_3 l0_3.length c0_3,.int .i64 a0_4,.int .i64 a0_5,.bool a0_6,.int .i64 a0_7] 26 (0,0)) (by (with_reducible repeat (first|refine kN_ ?_ _|refine kD_ ?_|refine kA_ ?_ _));exact BK257.out) hb);have n5_:=mk_ (blk_below (g:=gb258) (o:=.cells #[.slice A1_0 l1_0.length c1_0,.int .i64 a1_1] 66 (0,0)) (by (with_reducible repeat (first|refine kN_ ?_ _|refine kD_ ?_|refine kA_ ?_ _));exact BK258.out) hb);have n6_:=mk_ (blk_below (g:=gb286) (o:=.cells #[.int .i64 t276,.int .i64 t277,.int .i64 t278,.slice Ao81 t279.length co81,.int .i64 t282,.int .i64 t283,.bool t284,.int .i64 t285] 40 (0,0)) (by (with_reducible repeat (first|refine kN_ ?_ _|refine kD_ ?_|refine kA_ ?_ _));exact BK286.out) hb);have n7_:=mk_ (bT_ (by repeat (first|(with_reducible first|exact HB.out|apply bA_|apply bN_|apply bD_|refine bS_ ?_ GE257.out|refine bS_ ?_ GE258.out|refine bS_ ?_ GE286.out)|exact HB.out)) hb);have n8_:=mk_ (hbox);have n9_:=mk_ ((by rw [hg];exact (bZ_ (by repeat (first|(with_reducible first|exact HB.out|apply bA_|apply bN_|apply bD_|refine bS_ ?_ GE257.out|refine bS_ ?_ GE258.out|refine bS_ ?_ GE286.out)|exact HB.out))) : w.heap.size ≤ gb291));have n10_:=mk_ ((by rw [hg];exact (bZ_ (by repeat (first|(with_reducible first|exact HB.out|apply bA_|apply bN_|apply bD_|refine bS_ ?_ GE257.out|refine bS_ ?_ GE258.out|refine bS_ ?_ GE286.out)|exact HB.out))) : w.heap.size ≤ gb291));have n11_:=mk_ ((by rw [hg];exact Nat.ne_of_lt (blk_lt (g:=gb257) (o:=.cells #[.int .i64 a0_0,.int .i64 a0_1,.int .i64 a0_2,.slice A0_3 l0_3.length c0_3,.int .i64 a0_4,.int .i64 a0_5,.bool a0_6,.int .i64 a0_7] 26 (0,0)) (by (with_reducible repeat (first|refine kN_ ?_ _|refine kD_ ?_|refine kA_ ?_ _));exact BK257.out)) : gb257 ≠ gb291));have n12_:=mk_ ((by rw [hg];exact Nat.ne_of_gt (blk_lt (g:=gb257) (o:=.cells #[.int .i64 a0_0,.int .i64 a0_1,.int .i64 a0_2,.slice A0_3 l0_3.length c0_3,.int .i64 a0_4,.int .i64 a0_5,.bool a0_6,.int .i64 a0_7] 26 (0,0)) (by (with_reducible repeat (first|refine kN_ ?_ _|refine kD_ ?_|refine kA_ ?_ _));exact BK257.out)) : gb291 ≠ gb257));have n13_:=mk_ ((by rw [hg];exact Nat.ne_of_lt (blk_lt (g:=gb258) (o:=.cells #[.slice A1_0 l1_0.length c1_0,.int .i64 a1_1] 66 (0,0)) (by (with_reducible repeat (first|refine kN_ ?_ _|refine kD_ ?_|refine kA_ ?_ _));exact BK258.out)) : gb258 ≠ gb291));have n14_:=mk_ ((by rw [hg];exact Nat.ne_of_gt (blk_lt (g:=gb258) (o:=.cells #[.slice A1_0 l1_0.length c1_0,.int .i64 a1_1] 66 (0,0)) (by (with_reducible repeat (first|refine kN_ ?_ _|refine kD_ ?_|refine kA_ ?_ _));exact BK258.out)) : gb291 ≠ gb258));have n15_:=mk_ ((by rw [hg];exact Nat.ne_of_lt (blk_lt (g:=gb286) (o:=.cells #[.int .i64 t276,.int .i64 t277,.int .i64 t278,.slice Ao81 t279.length co81,.int .i64 t282,.int .i64 t283,.bool t284,.int .i64 t285] 40 (0,0)) (by (with_reducible repeat (first|refine kN_ ?_ _|refine kD_ ?_|refine kA_ ?_ _));exact BK286.out)) : gb286 ≠ gb291));have n16_:=mk_ ((by rw [hg];exact Nat.ne_of_gt (blk_lt (g:=gb286) (o:=.cells #[.int .i64 t276,.int .i64 t277,.int .i64 t278,.slice Ao81 t279.length co81,.int .i64 t282,.int .i64 t283,.bool t284,.int .i64 t285] 40 (0,0)) (by (with_reducible repeat (first|refine kN_ ?_ _|refine kD_ ?_|refine kA_ ?_ _));exact BK286.out)) : gb291 ≠ gb286));clear HO266;clear HO273;clear HO281;clear HO289;clear BK257;clear BK258;clear BK286;clear HB;have HO266:=n0_;have HO273:=n1_;have HO281:=n2_;have HO289:=n3_;have BK257:=n4_;have BK258:=n5_;have BK286:=n6_;have HB:=n7_;have BK291:=n8_;have GW291:=n9_;have GE291:=n10_;have NB257_291:=n11_;have NB291_257:=n12_;have NB258_291:=n13_;have NB291_258:=n14_;have NB286_291:=n15_;have NB291_286:=n16_;clear n0_ n1_ n2_ n3_ n4_ n5_ n6_ n7_ n8_ n9_ n10_ n11_ n12_ n13_ n14_ n15_ n16_;clear hb hbox hg;obtain ⟨Ao85,co85,eo85⟩:=Kd.R_slice HO289.out;subst eo85;have hnb86:=NB291_257.out;have hnc86:=NB257_291.out;have hnb87:=NB291_258.out;have hnc87:=NB258_291.out;have hnb88:=NB291_286.out;have hnc88:=NB286_291.out;have hcz89_0 : w84.cell? ⟨gb291,0,none⟩ = some (.slice none 0 0):=(blk_cell BK291.out 0).trans rfl;have hcz89_1 : w84.cell? ⟨gb291,1,none⟩ = some (.int .i64 0):=(blk_cell BK291.out 1).trans rfl;have hfz89_0:=fZ_ BK291.out 0;have hfz89_1:=fZ_ BK291.out 1;have hcz90_0 : w84.cell? ⟨gb286,0,none⟩ = some (.int .i64 t276):=(blk_cell BK286.out 0).trans rfl;have hcz90_1 : w84.cell? ⟨gb286,1,none⟩ = some (.int .i64 t277):=(blk_cell BK286.out 1).trans rfl;have hcz90_2 : w84.cell? ⟨gb286,2,none⟩ = some (.int .i64 t278):=(blk_cell BK286.out 2).trans rfl;have hcz90_3 : w84.cell? ⟨gb286,3,none⟩ = some (.slice Ao81 t279.length co81):=(blk_cell BK286.out 3).trans rfl;have hcz90_4 : w84.cell? ⟨gb286,4,none⟩ = some (.int .i64 t282):=(blk_cell BK286.out 4).trans rfl;have hcz90_5 : w84.cell? ⟨gb286,5,none⟩ = some (.int .i64 t283):=(blk_cell BK286.out 5).trans rfl;have hcz90_6 : w84.cell? ⟨gb286,6,none⟩ = some (.bool t284):=(blk_cell BK286.out 6).trans rfl;have hcz90_7 : w84.cell? ⟨gb286,7,none⟩ = some (.int .i64 t285):=(blk_cell BK286.out 7).trans rfl;have hfz90_0:=fZ_ BK286.out 0;have hfz90_1:=fZ_ BK286.out 1;have hfz90_2:=fZ_ BK286.out 2;have hfz90_3:=fZ_ BK286.out 3;have hfz90_4:=fZ_ BK286.out 4;have hfz90_5:=fZ_ BK286.out 5;have hfz90_6:=fZ_ BK286.out 6;have hfz90_7:=fZ_ BK286.out 7)|((with_reducible refine gate_callee (f:=36) rfl ?_);refine goesL_ (some 31) rfl rfl Try.func36 (by kernel_rfl) rfl #[.agg #[.int .i64 t276,.int .i64 t277,.int .i64 t278,.slice Ao81 t279.length co81,.int .i64 t282,.int .i64 t283,.bool t284,.int .i64 t285],.agg #[.slice Ao85 t287.length co85,.int .i64 t290]] rfl (by (try simp only [List.map_toArray,List.map_cons,List.map_nil]);first|done|rfl|(simp only [List.length_drop,List.length_take];rfl)) ?_;(with_reducible refine (impl_ValidWipe.calls k t276 t277 t278 _ _ t279 t282 t283 t284 t285 _ _ t287 t290 t292 _ ?side1 ?side2 ?side3 ?side4 A24.out).mono ?_);(case side1 => refine (Kd.S_reads' (e:=120) (base:=w.heap.size) (ok:=fun k_ => (True ∧ some k_ ≠ (.slice Ao72 t264.length co72 : Value).ownBlock)) (n:=t279.length) (c:=co81) ?_).2.2;exact (by (with_reducible repeat (first|apply sA_|apply sN_|apply Kd.S_drew));exact (Kd.S_mono (Kd.S_far (p:=⟨gb291,1,none⟩) (Kd.S_far (p:=⟨gb291,0,none⟩) (Kd.S_types HO281.out BK291.out (by decide)) (fun _ hk => hk.2) (.slice Ao85 t287.length co85)) (fun _ hk => hk.2) (.int .i64 t290)) (fun _ h_ => h_.1))));(case side2 => exact (Kd.S_reads' HO281.out).2.1);(case side3 => refine (Kd.R_reads' (e:=2) (base:=w.heap.size) (ok:=fun k_ => (True ∧ some k_ ≠ (.slice Ao73 t271.length co73 : Value).ownBlock)) (n:=t287.length) (c:=co85) ?_).2.2;exact (by (with_reducible repeat (first|apply rA_|apply rN_|apply rD_));exact (Kd.R_mono (Kd.R_far (p:=⟨gb291,1,none⟩) (Kd.R_far (p:=⟨gb291,0,none⟩) (Kd.R_types HO289.out BK291.out (by decide)) (fun _ hk => hk.2) (.slice Ao85 t287.length co85)) (fun _ hk => hk.2) (.int .i64 t290)) (fun _ h_ => h_.1))));(case side4 => exact (Kd.R_reads' HO289.out).2.1);rintro e w91 ⟨rfl,hb⟩;refine ⟨_,rfl,?_⟩;have n0_:=mk_ (sB_ (by (with_reducible repeat (first|apply sA_|apply sN_|apply Kd.S_drew));exact (Kd.S_mono (Kd.S_far (p:=⟨gb291,1,none⟩) (Kd.S_far (p:=⟨gb291,0,none⟩) (Kd.S_types HO266.out BK291.out (by decide)) (fun _ hk => hk.2) (.slice Ao85 t287.length co85)) (fun _ hk => hk.2) (.int .i64 t290)) (fun _ h_ => h_.1))) hb);have n1_:=mk_ (Kd.R_below (by (with_reducible repeat (first|apply rA_|apply rN_|apply rD_));exact (Kd.R_mono (Kd.R_far (p:=⟨gb291,1,none⟩) (Kd.R_far (p:=⟨gb291,0,none⟩) (Kd.R_types HO273.out BK291.out (by decide)) (fun _ hk => hk.2) (.slice Ao85 t287.length co85)) (fun _ hk => hk.2) (.int .i64 t290)) (fun _ h_ => h_.1))) hb);have n2_:=mk_ (sB_ (by (with_reducible repeat (first|apply sA_|apply sN_|apply Kd.S_drew));exact (Kd.S_mono (Kd.S_far (p:=⟨gb291,1,none⟩) (Kd.S_far (p:=⟨gb291,0,none⟩) (Kd.S_types HO281.out BK291.out (by decide)) (fun _ hk => hk.2) (.slice Ao85 t287.length co85)) (fun _ hk => hk.2) (.int .i64 t290)) (fun _ h_ => h_.1))) hb);have n3_:=mk_ (Kd.R_below (by (with_reducible repeat (first|apply rA_|apply rN_|apply rD_));exact (Kd.R_mono (Kd.R_far (p:=⟨gb291,1,none⟩) (Kd.R_far (p:=⟨gb291,0,none⟩) (Kd.R_types HO289.out BK291.out (by decide)) (fun _ hk => hk.2) (.slice Ao85 t287.length co85)) (fun _ hk => hk.2) (.int .i64 t290)) (fun _ h_ => h_.1))) hb);have n4_:=mk_ (blk_below (g:=gb257) (o:=.cells #[.int .i64 a0_0,.int .i64 a0_1,.int .i64 a0_2,.slice A0_3 l0_3.length c0_3,.int .i64 a0_4,.int .i64 a0_5,.bool a0_6,.int .i64 a0_7] 26 (0,0)) (by (with_reducible repeat (first|refine kN_ ?_ _|refine kD_ ?_|refine kA_ ?_ _));refine blk_far ?_ NB257_291.out _;(with_reducible repeat (first|refine kN_ ?_ _|refine kD_ ?_|refine kA_ ?_ _));refine blk_far ?_ NB257_291.out _;(with_reducible repeat (first|refine kN_ ?_ _|refine kD_ ?_|refine kA_ ?_ _));exact BK257.out) hb);have n5_:=mk_ (blk_below (g:=gb258) (o:=.cells #[.slice A1_0 l1_0.length c1_0,.int .i64 a1_1] 66 (0,0)) (by (with_reducible repeat (first|refine kN_ ?_ _|refine kD_ ?_|refine kA_ ?_ _));refine blk_far ?_ NB258_291.out _;(with_reducible repeat (first|refine kN_ ?_ _|refine kD_ ?_|refine kA_ ?_ _));refine blk_far ?_ NB258_291.out _;(with_reducible repeat (first|refine kN_ ?_ _|refine kD_ ?_|refine kA_ ?_ _));exact BK258.out) hb);have n6_:=mk_ (blk_below (g:=gb286) (o:=.cells #[.int .i64 t276,.int .i64 t277,.int .i64 t278,.slice Ao81 t279.length co81,.int .i64 t282,.int .i64 t283,.bool t284,.int .i64 t285] 40 (0,0)) (by (with_reducible repeat (first|refine kN_ ?_ _|refine kD_ ?_|refine kA_ ?_ _));refine blk_far ?_ NB286_291.out _;(with_reducible repeat (first|refine kN_ ?_ _|refine kD_ ?_|refine kA_ ?_ _));refine blk_far ?_ NB286_291.out _;(with_reducible repeat (first|refine kN_ ?_ _|refine kD_ ?_|refine kA_ ?_ _));exact BK286.out) hb);have n7_:=mk_ (blk_below (g:=gb291) (o:=.cells #[.slice Ao85 t287.length co85,.int .i64 t290] 69 (0,0)) (by (with_reducible repeat (first|refine kN_ ?_ _|refine kD_ ?_|refine kA_ ?_ _));refine blk_put (cs:=#[.slice Ao85 t287.length co85,.int .i64 0]) ?_ 1 _ rfl;(with_reducible repeat (first|refine kN_ ?_ _|refine kD_ ?_|refine kA_ ?_ _));refine blk_put (cs:=#[.slice none 0 0,.int .i64 0]) ?_ 0 _ rfl;(with_reducible repeat (first|refine kN_ ?_ _|refine kD_ ?_|refine kA_ ?_ _));exact BK291.out) hb);have n8_:=mk_ (bT_ (by repeat (first|(with_reducible first|exact HB.out|apply bA_|apply bN_|apply bD_|refine bS_ ?_ GE257.out|refine bS_ ?_ GE258.out|refine bS_ ?_ GE286.out|refine bS_ ?_ GE291.out)|exact HB.out)) hb);clear HO266;clear HO273;clear HO281;clear HO289;clear BK257;clear BK258;clear BK286;clear BK291;clear HB;have HO266:=n0_;have HO273:=n1_;have HO281:=n2_;have HO289:=n3_;have BK257:=n4_;have BK258:=n5_;have BK286:=n6_;have BK291:=n7_;have HB:=n8_;clear n0_ n1_ n2_ n3_ n4_ n5_ n6_ n7_ n8_;(try clear hb);(try clear hb2);(try clear hk);(try clear hi)))
            have n0_ := Aside0.mk (Kd.S_drew HO266.out)
            have n1_ := Aside0.mk (Kd.R_drew HO273.out)
            have n2_ := Aside0.mk (Kd.S_drew HO281.out)
            have n3_ := Aside0.mk (Kd.R_drew HO289.out)
            have n4_ := Aside0.mk (blk_drew BK257.out)
            have n5_ := Aside0.mk (blk_drew BK258.out)
            have n6_ := Aside0.mk (blk_drew BK286.out)
            have n7_ := Aside0.mk (blk_drew BK291.out)
            have n8_ := Aside0.mk (below_drew1 HB.out)
            clear HO266
            clear HO273
            clear HO281
            clear HO289
            clear BK257
            clear BK258
            clear BK286
            clear BK291
            clear HB
            have HO266 := n0_
            have HO273 := n1_
            have HO281 := n2_
            have HO289 := n3_
            have BK257 := n4_
            have BK258 := n5_
            have BK286 := n6_
            have BK291 := n7_
            have HB := n8_
            clear n0_ n1_ n2_ n3_ n4_ n5_ n6_ n7_ n8_
            refine start_ (n:=5) (S:=fun w' => w'.cell? ⟨gb286,0,none⟩ = some (.int .i64 t276) ∧ w'.cell? ⟨gb286,1,none⟩ = some (.int .i64 t277) ∧ w'.cell? ⟨gb286,2,none⟩ = some (.int .i64 t278) ∧ w'.cell? ⟨gb286,3,none⟩ = some (.slice Ao81 t279.length co81) ∧ w'.cell? ⟨gb286,4,none⟩ = some (.int .i64 t282) ∧ w'.cell? ⟨gb286,5,none⟩ = some (.int .i64 t283) ∧ w'.cell? ⟨gb286,6,none⟩ = some (.bool t284) ∧ w'.cell? ⟨gb286,7,none⟩ = some (.int .i64 t285) ∧ w'.cell? ⟨gb257,0,none⟩ = some (.int .i64 a0_0) ∧ w'.cell? ⟨gb257,1,none⟩ = some (.int .i64 a0_1) ∧ w'.cell? ⟨gb257,2,none⟩ = some (.int .i64 a0_2) ∧ w'.cell? ⟨gb257,3,none⟩ = some (.slice A0_3 l0_3.length c0_3) ∧ w'.cell? ⟨gb257,4,none⟩ = some (.int .i64 a0_4) ∧ w'.cell? ⟨gb257,5,none⟩ = some (.int .i64 a0_5) ∧ w'.cell? ⟨gb257,6,none⟩ = some (.bool a0_6) ∧ w'.cell? ⟨gb257,7,none⟩ = some (.int .i64 a0_7)) (ds:=[]) #[false,false,false,false,false] (by kernel_rfl) rfl rfl ⟨(blk_cell BK286.out 0).trans rfl,(blk_cell BK286.out 1).trans rfl,(blk_cell BK286.out 2).trans rfl,(blk_cell BK286.out 3).trans rfl,(blk_cell BK286.out 4).trans rfl,(blk_cell BK286.out 5).trans rfl,(blk_cell BK286.out 6).trans rfl,(blk_cell BK286.out 7).trans rfl,(blk_cell BK257.out 0).trans rfl,(blk_cell BK257.out 1).trans rfl,(blk_cell BK257.out 2).trans rfl,(blk_cell BK257.out 3).trans rfl,(blk_cell BK257.out 4).trans rfl,(blk_cell BK257.out 5).trans rfl,(blk_cell BK257.out 6).trans rfl,(blk_cell BK257.out 7).trans rfl⟩ (fun hHeld => ?_)
            generalize w91.drew = w92 at HO266 HO273 HO281 HO289 BK257 BK258 BK286 BK291 HB hHeld ⊢
            refine take_ (i := 0) (N := some 35) (v := ?_) (a' := ?_) #[true, false, false, false, false] rfl rfl (by kernel_rfl) (fun _ _ _ h => h) (Or.inl ⟨by rfl, ?_⟩) hHeld ?_ ?_
            rotate_left
            · rintro w' ⟨s0, s1, s2, s3, s4, s5, s6, s7, s8, s9, s10, s11, s12, s13, s14, s15⟩
              go_simp
              with_reducible rfl
            rotate_left
            · simp only [Act.put, List.setIfInBounds_toArray, List.set_cons_zero, List.set_cons_succ, i64_w, i32_w]
              rfl
            refine take_ (i := 1) (N := some 36) (v := ?_) (a' := ?_) #[true, true, false, false, false] rfl rfl (by kernel_rfl) (fun _ _ _ h => h) (Or.inl ⟨by rfl, ?_⟩) hHeld ?_ ?_
            rotate_left
            · rintro w' ⟨s0, s1, s2, s3, s4, s5, s6, s7, s8, s9, s10, s11, s12, s13, s14, s15⟩
              go_simp
              with_reducible rfl
            rotate_left
            · simp only [Act.put, List.setIfInBounds_toArray, List.set_cons_zero, List.set_cons_succ, i64_w, i32_w]
              rfl
            refine one_ (i := 2) (N := some 37) #[true, true, true, false, false] rfl rfl (by kernel_rfl) (by decide) (fun K hK => ?_)
            refine goes_ Try.func30 (by kernel_rfl) rfl #[.agg #[.int .i64 a0_0,.int .i64 a0_1,.int .i64 a0_2,.slice A0_3 l0_3.length c0_3,.int .i64 a0_4,.int .i64 a0_5,.bool a0_6,.int .i64 a0_7]] (by rfl) rfl rfl (by (try simp only [List.map_toArray,List.map_cons,List.map_nil]);first|done|rfl|(simp only [List.length_drop,List.length_take];rfl)) ?_
            with_reducible refine (laws_toFlash.calls k a0_0 a0_1 a0_2 _ _ l0_3 a0_4 a0_5 a0_6 a0_7 t293 t294 t295 t296 t299 t300 t301 t302 _ ?side1 ?side2 A56.out).mono ?_
            (case side1 => repeat (first|exact (Kd.C_below HR0_3.out HB.out)|(with_reducible refine cA_ ?_ _)|(with_reducible refine Kd.C_drewN ?_ _)|(with_reducible refine Kd.C_drew ?_)))
            (case side2 => exact HC0_3.out)
            rintro e w93 ⟨v297, rfl, ho0, hb⟩
            refine ⟨_, rfl, ?_⟩
            have n0_ := Aside0.mk (Kd.S_elder' (by (with_reducible repeat (first | apply Kd.S_alloc | apply Kd.S_drewN | apply Kd.S_drew)); exact HO266.out) (Kd.S_base ho0) hb)
            have n1_ := Aside0.mk (Kd.R_below (by (with_reducible repeat (first | apply Kd.R_alloc | apply Kd.R_drewN | apply Kd.R_drew)); exact HO273.out) hb)
            have n2_ := Aside0.mk (Kd.S_elder' (by (with_reducible repeat (first | apply Kd.S_alloc | apply Kd.S_drewN | apply Kd.S_drew)); exact HO281.out) (Kd.S_base ho0) hb)
            have n3_ := Aside0.mk (Kd.R_below (by (with_reducible repeat (first | apply Kd.R_alloc | apply Kd.R_drewN | apply Kd.R_drew)); exact HO289.out) hb)
            have n4_:=mk_ (Kd.S_lower (Kd.S_new' (Kd.S_new' ho0 (Kd.S_lt (by (with_reducible repeat (first|apply sA_|apply sN_|apply Kd.S_drew));exact HO266.out))) (Kd.S_lt (by (with_reducible repeat (first|apply sA_|apply sN_|apply Kd.S_drew));exact HO281.out))) (bZ_ (by repeat (first|(with_reducible first|exact HB.out|apply bA_|apply bN_|apply bD_|refine bS_ ?_ GE257.out|refine bS_ ?_ GE258.out|refine bS_ ?_ GE286.out|refine bS_ ?_ GE291.out)|exact HB.out))))
            have n5_:=mk_ (blk_below (g:=gb257) (o:=.cells #[.int .i64 a0_0,.int .i64 a0_1,.int .i64 a0_2,.slice A0_3 l0_3.length c0_3,.int .i64 a0_4,.int .i64 a0_5,.bool a0_6,.int .i64 a0_7] 26 (0,0)) (by (with_reducible repeat (first|refine kN_ ?_ _|refine kD_ ?_|refine kA_ ?_ _));exact BK257.out) hb)
            have n6_:=mk_ (blk_below (g:=gb258) (o:=.cells #[.slice A1_0 l1_0.length c1_0,.int .i64 a1_1] 66 (0,0)) (by (with_reducible repeat (first|refine kN_ ?_ _|refine kD_ ?_|refine kA_ ?_ _));exact BK258.out) hb)
            have n7_:=mk_ (blk_below (g:=gb286) (o:=.cells #[.int .i64 t276,.int .i64 t277,.int .i64 t278,.slice Ao81 t279.length co81,.int .i64 t282,.int .i64 t283,.bool t284,.int .i64 t285] 40 (0,0)) (by (with_reducible repeat (first|refine kN_ ?_ _|refine kD_ ?_|refine kA_ ?_ _));exact BK286.out) hb)
            have n8_:=mk_ (blk_below (g:=gb291) (o:=.cells #[.slice Ao85 t287.length co85,.int .i64 t290] 69 (0,0)) (by (with_reducible repeat (first|refine kN_ ?_ _|refine kD_ ?_|refine kA_ ?_ _));exact BK291.out) hb)
            have n9_:=mk_ (bT_ (by repeat (first|(with_reducible first|exact HB.out|apply bA_|apply bN_|apply bD_|refine bS_ ?_ GE257.out|refine bS_ ?_ GE258.out|refine bS_ ?_ GE286.out|refine bS_ ?_ GE291.out)|exact HB.out)) hb)
            clear HO266
            clear HO273
            clear HO281
            clear HO289
            clear BK257
            clear BK258
            clear BK286
            clear BK291
            clear HB
            have HO266 := n0_
            have HO273 := n1_
            have HO281 := n2_
            have HO289 := n3_
            have HO298 := n4_
            have BK257 := n5_
            have BK258 := n6_
            have BK286 := n7_
            have BK291 := n8_
            have HB := n9_
            clear n0_ n1_ n2_ n3_ n4_ n5_ n6_ n7_ n8_ n9_
            (try clear hb)
            (try clear hb2)
            (try clear hk)
            (try clear hi)
            (try clear ho0)
            obtain ⟨Ao94, co94, eo94⟩ := Kd.S_slice HO298.out
            (first | subst eo94 | (injection eo94 with f1_ f2_ f3_; have f4_ := f1_.symm; have f5_ := f3_.symm; clear f1_ f2_ f3_; subst f4_; subst f5_))
            refine hK.out _ _ ⟨(blk_cell BK286.out 0).trans rfl,(blk_cell BK286.out 1).trans rfl,(blk_cell BK286.out 2).trans rfl,(blk_cell BK286.out 3).trans rfl,(blk_cell BK286.out 4).trans rfl,(blk_cell BK286.out 5).trans rfl,(blk_cell BK286.out 6).trans rfl,(blk_cell BK286.out 7).trans rfl,(blk_cell BK257.out 0).trans rfl,(blk_cell BK257.out 1).trans rfl,(blk_cell BK257.out 2).trans rfl,(blk_cell BK257.out 3).trans rfl,(blk_cell BK257.out 4).trans rfl,(blk_cell BK257.out 5).trans rfl,(blk_cell BK257.out 6).trans rfl,(blk_cell BK257.out 7).trans rfl⟩ (fun hHeld => ?_)
            clear hK K
            refine norm_ (a' := ?_) ?_ ?_
            rotate_left
            · show Act.put _ (some 37) _ = _
              simp only [Act.put, List.setIfInBounds_toArray, List.set_cons_zero, List.set_cons_succ, i64_w, i32_w]
              rfl
            refine one_ (i := 3) (N := some 38) #[true, true, true, true, false] rfl rfl (by kernel_rfl) (by decide) (fun K hK => ?_)
            refine goes_ Try.func32 (by kernel_rfl) rfl #[.agg #[.int .i64 t276,.int .i64 t277,.int .i64 t278,.slice Ao81 t279.length co81,.int .i64 t282,.int .i64 t283,.bool t284,.int .i64 t285],.agg #[.int .i64 t293,.int .i64 t294,.int .i64 t295,.slice Ao94 t296.length co94,.int .i64 t299,.int .i64 t300,.bool t301,.int .i64 t302]] (by rfl) rfl rfl (by (try simp only [List.map_toArray,List.map_cons,List.map_nil]);first|done|rfl|(simp only [List.length_drop,List.length_take];rfl)) ?_
            with_reducible refine (laws_eqFlash.calls k t276 t277 t278 _ _ t279 t282 t283 t284 t285 t293 t294 t295 _ _ t296 t299 t300 t301 t302 true _ ?side1 ?side2 ?side3 ?side4 A57.out).mono ?_
            (case side1 => repeat (first|exact (Kd.S_reads' HO281.out).2.2|(with_reducible refine cA_ ?_ _)|(with_reducible refine Kd.C_drewN ?_ _)|(with_reducible refine Kd.C_drew ?_)))
            (case side2 => exact (Kd.S_reads' HO281.out).2.1)
            (case side3 => repeat (first|exact (Kd.S_reads' HO298.out).2.2|(with_reducible refine cA_ ?_ _)|(with_reducible refine Kd.C_drewN ?_ _)|(with_reducible refine Kd.C_drew ?_)))
            (case side4 => exact (Kd.S_reads' HO298.out).2.1)
            rintro e w95 ⟨rfl, hb⟩
            refine ⟨_, rfl, ?_⟩
            have n0_ := Aside0.mk (Kd.S_below (by (with_reducible repeat (first | apply Kd.S_alloc | apply Kd.S_drewN | apply Kd.S_drew)); exact HO266.out) hb)
            have n1_ := Aside0.mk (Kd.R_below (by (with_reducible repeat (first | apply Kd.R_alloc | apply Kd.R_drewN | apply Kd.R_drew)); exact HO273.out) hb)
            have n2_ := Aside0.mk (Kd.S_below (by (with_reducible repeat (first | apply Kd.S_alloc | apply Kd.S_drewN | apply Kd.S_drew)); exact HO281.out) hb)
            have n3_ := Aside0.mk (Kd.R_below (by (with_reducible repeat (first | apply Kd.R_alloc | apply Kd.R_drewN | apply Kd.R_drew)); exact HO289.out) hb)
            have n4_ := Aside0.mk (Kd.S_below (by (with_reducible repeat (first | apply Kd.S_alloc | apply Kd.S_drewN | apply Kd.S_drew)); exact HO298.out) hb)
            have n5_:=mk_ (blk_below (g:=gb257) (o:=.cells #[.int .i64 a0_0,.int .i64 a0_1,.int .i64 a0_2,.slice A0_3 l0_3.length c0_3,.int .i64 a0_4,.int .i64 a0_5,.bool a0_6,.int .i64 a0_7] 26 (0,0)) (by (with_reducible repeat (first|refine kN_ ?_ _|refine kD_ ?_|refine kA_ ?_ _));exact BK257.out) hb)
            have n6_:=mk_ (blk_below (g:=gb258) (o:=.cells #[.slice A1_0 l1_0.length c1_0,.int .i64 a1_1] 66 (0,0)) (by (with_reducible repeat (first|refine kN_ ?_ _|refine kD_ ?_|refine kA_ ?_ _));exact BK258.out) hb)
            have n7_:=mk_ (blk_below (g:=gb286) (o:=.cells #[.int .i64 t276,.int .i64 t277,.int .i64 t278,.slice Ao81 t279.length co81,.int .i64 t282,.int .i64 t283,.bool t284,.int .i64 t285] 40 (0,0)) (by (with_reducible repeat (first|refine kN_ ?_ _|refine kD_ ?_|refine kA_ ?_ _));exact BK286.out) hb)
            have n8_:=mk_ (blk_below (g:=gb291) (o:=.cells #[.slice Ao85 t287.length co85,.int .i64 t290] 69 (0,0)) (by (with_reducible repeat (first|refine kN_ ?_ _|refine kD_ ?_|refine kA_ ?_ _));exact BK291.out) hb)
            have n9_:=mk_ (bT_ (by repeat (first|(with_reducible first|exact HB.out|apply bA_|apply bN_|apply bD_|refine bS_ ?_ GE257.out|refine bS_ ?_ GE258.out|refine bS_ ?_ GE286.out|refine bS_ ?_ GE291.out)|exact HB.out)) hb)
            clear HO266
            clear HO273
            clear HO281
            clear HO289
            clear HO298
            clear BK257
            clear BK258
            clear BK286
            clear BK291
            clear HB
            have HO266 := n0_
            have HO273 := n1_
            have HO281 := n2_
            have HO289 := n3_
            have HO298 := n4_
            have BK257 := n5_
            have BK258 := n6_
            have BK286 := n7_
            have BK291 := n8_
            have HB := n9_
            clear n0_ n1_ n2_ n3_ n4_ n5_ n6_ n7_ n8_ n9_
            (try clear hb)
            (try clear hb2)
            (try clear hk)
            (try clear hi)
            refine hK.out _ _ ⟨(blk_cell BK286.out 0).trans rfl,(blk_cell BK286.out 1).trans rfl,(blk_cell BK286.out 2).trans rfl,(blk_cell BK286.out 3).trans rfl,(blk_cell BK286.out 4).trans rfl,(blk_cell BK286.out 5).trans rfl,(blk_cell BK286.out 6).trans rfl,(blk_cell BK286.out 7).trans rfl,(blk_cell BK257.out 0).trans rfl,(blk_cell BK257.out 1).trans rfl,(blk_cell BK257.out 2).trans rfl,(blk_cell BK257.out 3).trans rfl,(blk_cell BK257.out 4).trans rfl,(blk_cell BK257.out 5).trans rfl,(blk_cell BK257.out 6).trans rfl,(blk_cell BK257.out 7).trans rfl⟩ (fun hHeld => ?_)
            clear hK K
            refine norm_ (a' := ?_) ?_ ?_
            rotate_left
            · show Act.put _ (some 38) _ = _
              simp only [Act.put, List.setIfInBounds_toArray, List.set_cons_zero, List.set_cons_succ, i64_w, i32_w]
              rfl
            refine pure_ (i := 4) (N := some 39) (v := ?_) (a' := ?_) #[true, true, true, true, true] rfl rfl (by kernel_rfl) (fun _ _ _ h => h) (Or.inl ⟨by rfl, ?_⟩) ?_ ?_
            rotate_left
            · intro w'
              go_simp
              with_reducible rfl
            rotate_left
            · simp only [Act.put, List.setIfInBounds_toArray, List.set_cons_zero, List.set_cons_succ, i64_w, i32_w]
              rfl
            refine done_ (by kernel_rfl) ?_
            try go_wp2
            have n0_ := Aside0.mk (Kd.S_drew HO266.out)
            have n1_ := Aside0.mk (Kd.R_drew HO273.out)
            have n2_ := Aside0.mk (Kd.S_drew HO281.out)
            have n3_ := Aside0.mk (Kd.R_drew HO289.out)
            have n4_ := Aside0.mk (Kd.S_drew HO298.out)
            have n5_ := Aside0.mk (blk_drew BK257.out)
            have n6_ := Aside0.mk (blk_drew BK258.out)
            have n7_ := Aside0.mk (blk_drew BK286.out)
            have n8_ := Aside0.mk (blk_drew BK291.out)
            have n9_ := Aside0.mk (below_drew1 HB.out)
            clear HO266
            clear HO273
            clear HO281
            clear HO289
            clear HO298
            clear BK257
            clear BK258
            clear BK286
            clear BK291
            clear HB
            have HO266 := n0_
            have HO273 := n1_
            have HO281 := n2_
            have HO289 := n3_
            have HO298 := n4_
            have BK257 := n5_
            have BK258 := n6_
            have BK286 := n7_
            have BK291 := n8_
            have HB := n9_
            clear n0_ n1_ n2_ n3_ n4_ n5_ n6_ n7_ n8_ n9_
            refine start_ (n:=5) (S:=fun w' => w'.cell? ⟨gb291,0,none⟩ = some (.slice Ao85 t287.length co85) ∧ w'.cell? ⟨gb291,1,none⟩ = some (.int .i64 t290) ∧ w'.cell? ⟨gb258,0,none⟩ = some (.slice A1_0 l1_0.length c1_0) ∧ w'.cell? ⟨gb258,1,none⟩ = some (.int .i64 a1_1)) (ds:=[]) #[false,false,false,false,false] (by kernel_rfl) rfl rfl ⟨(blk_cell BK291.out 0).trans rfl,(blk_cell BK291.out 1).trans rfl,(blk_cell BK258.out 0).trans rfl,(blk_cell BK258.out 1).trans rfl⟩ (fun hHeld => ?_)
            generalize w95.drew = w96 at HO266 HO273 HO281 HO289 HO298 BK257 BK258 BK286 BK291 HB hHeld ⊢
            refine take_ (i := 0) (N := some 40) (v := ?_) (a' := ?_) #[true, false, false, false, false] rfl rfl (by kernel_rfl) (fun _ _ _ h => h) (Or.inl ⟨by rfl, ?_⟩) hHeld ?_ ?_
            rotate_left
            · rintro w' ⟨s0, s1, s2, s3⟩
              go_simp
              with_reducible rfl
            rotate_left
            · simp only [Act.put, List.setIfInBounds_toArray, List.set_cons_zero, List.set_cons_succ, i64_w, i32_w]
              rfl
            refine take_ (i := 1) (N := some 41) (v := ?_) (a' := ?_) #[true, true, false, false, false] rfl rfl (by kernel_rfl) (fun _ _ _ h => h) (Or.inl ⟨by rfl, ?_⟩) hHeld ?_ ?_
            rotate_left
            · rintro w' ⟨s0, s1, s2, s3⟩
              go_simp
              with_reducible rfl
            rotate_left
            · simp only [Act.put, List.setIfInBounds_toArray, List.set_cons_zero, List.set_cons_succ, i64_w, i32_w]
              rfl
            refine one_ (i := 2) (N := some 42) #[true, true, true, false, false] rfl rfl (by kernel_rfl) (by decide) (fun K hK => ?_)
            refine goes_ Try.func35 (by kernel_rfl) rfl #[.agg #[.slice A1_0 l1_0.length c1_0,.int .i64 a1_1]] (by rfl) rfl rfl (by (try simp only [List.map_toArray,List.map_cons,List.map_nil]);first|done|rfl|(simp only [List.length_drop,List.length_take];rfl)) ?_
            with_reducible refine (laws_toWipe.calls k _ _ l1_0 a1_1 t304 t307 _ ?side1 ?side2 A59.out).mono ?_
            (case side1 => repeat (first|exact (Kd.C_below HR1_0.out HB.out)|(with_reducible refine cA_ ?_ _)|(with_reducible refine Kd.C_drewN ?_ _)|(with_reducible refine Kd.C_drew ?_)))
            (case side2 => exact HC1_0.out)
            rintro e w97 ⟨v305, rfl, ho0, hb⟩
            refine ⟨_, rfl, ?_⟩
            have n0_ := Aside0.mk (Kd.S_below (by (with_reducible repeat (first | apply Kd.S_alloc | apply Kd.S_drewN | apply Kd.S_drew)); exact HO266.out) hb)
            have n1_ := Aside0.mk (Kd.R_elder' (by (with_reducible repeat (first | apply Kd.R_alloc | apply Kd.R_drewN | apply Kd.R_drew)); exact HO273.out) (Kd.R_base ho0) hb)
            have n2_ := Aside0.mk (Kd.S_below (by (with_reducible repeat (first | apply Kd.S_alloc | apply Kd.S_drewN | apply Kd.S_drew)); exact HO281.out) hb)
            have n3_ := Aside0.mk (Kd.R_elder' (by (with_reducible repeat (first | apply Kd.R_alloc | apply Kd.R_drewN | apply Kd.R_drew)); exact HO289.out) (Kd.R_base ho0) hb)
            have n4_ := Aside0.mk (Kd.S_below (by (with_reducible repeat (first | apply Kd.S_alloc | apply Kd.S_drewN | apply Kd.S_drew)); exact HO298.out) hb)
            have n5_:=mk_ (Kd.R_lower (Kd.R_new' (Kd.R_new' ho0 (Kd.R_lt (by (with_reducible repeat (first|apply rA_|apply rN_|apply rD_));exact HO273.out))) (Kd.R_lt (by (with_reducible repeat (first|apply rA_|apply rN_|apply rD_));exact HO289.out))) (bZ_ (by repeat (first|(with_reducible first|exact HB.out|apply bA_|apply bN_|apply bD_|refine bS_ ?_ GE257.out|refine bS_ ?_ GE258.out|refine bS_ ?_ GE286.out|refine bS_ ?_ GE291.out)|exact HB.out))))
            have n6_:=mk_ (blk_below (g:=gb257) (o:=.cells #[.int .i64 a0_0,.int .i64 a0_1,.int .i64 a0_2,.slice A0_3 l0_3.length c0_3,.int .i64 a0_4,.int .i64 a0_5,.bool a0_6,.int .i64 a0_7] 26 (0,0)) (by (with_reducible repeat (first|refine kN_ ?_ _|refine kD_ ?_|refine kA_ ?_ _));exact BK257.out) hb)
            have n7_:=mk_ (blk_below (g:=gb258) (o:=.cells #[.slice A1_0 l1_0.length c1_0,.int .i64 a1_1] 66 (0,0)) (by (with_reducible repeat (first|refine kN_ ?_ _|refine kD_ ?_|refine kA_ ?_ _));exact BK258.out) hb)
            have n8_:=mk_ (blk_below (g:=gb286) (o:=.cells #[.int .i64 t276,.int .i64 t277,.int .i64 t278,.slice Ao81 t279.length co81,.int .i64 t282,.int .i64 t283,.bool t284,.int .i64 t285] 40 (0,0)) (by (with_reducible repeat (first|refine kN_ ?_ _|refine kD_ ?_|refine kA_ ?_ _));exact BK286.out) hb)
            have n9_:=mk_ (blk_below (g:=gb291) (o:=.cells #[.slice Ao85 t287.length co85,.int .i64 t290] 69 (0,0)) (by (with_reducible repeat (first|refine kN_ ?_ _|refine kD_ ?_|refine kA_ ?_ _));exact BK291.out) hb)
            have n10_:=mk_ (bT_ (by repeat (first|(with_reducible first|exact HB.out|apply bA_|apply bN_|apply bD_|refine bS_ ?_ GE257.out|refine bS_ ?_ GE258.out|refine bS_ ?_ GE286.out|refine bS_ ?_ GE291.out)|exact HB.out)) hb)
            clear HO266
            clear HO273
            clear HO281
            clear HO289
            clear HO298
            clear BK257
            clear BK258
            clear BK286
            clear BK291
            clear HB
            have HO266 := n0_
            have HO273 := n1_
            have HO281 := n2_
            have HO289 := n3_
            have HO298 := n4_
            have HO306 := n5_
            have BK257 := n6_
            have BK258 := n7_
            have BK286 := n8_
            have BK291 := n9_
            have HB := n10_
            clear n0_ n1_ n2_ n3_ n4_ n5_ n6_ n7_ n8_ n9_ n10_
            (try clear hb)
            (try clear hb2)
            (try clear hk)
            (try clear hi)
            (try clear ho0)
            obtain ⟨Ao98, co98, eo98⟩ := Kd.R_slice HO306.out
            (first | subst eo98 | (injection eo98 with f1_ f2_ f3_; have f4_ := f1_.symm; have f5_ := f3_.symm; clear f1_ f2_ f3_; subst f4_; subst f5_))
            refine hK.out _ _ ⟨(blk_cell BK291.out 0).trans rfl, (blk_cell BK291.out 1).trans rfl, (blk_cell BK258.out 0).trans rfl, (blk_cell BK258.out 1).trans rfl⟩ (fun hHeld => ?_)
            clear hK K
            refine norm_ (a' := ?_) ?_ ?_
            rotate_left
            · show Act.put _ (some 42) _ = _
              simp only [Act.put, List.setIfInBounds_toArray, List.set_cons_zero, List.set_cons_succ, i64_w, i32_w]
              rfl
            refine one_ (i := 3) (N := some 43) #[true, true, true, true, false] rfl rfl (by kernel_rfl) (by decide) (fun K hK => ?_)
            refine goes_ Try.func37 (by kernel_rfl) rfl #[.agg #[.slice Ao85 t287.length co85,.int .i64 t290],.agg #[.slice Ao98 t304.length co98,.int .i64 t307]] (by rfl) rfl rfl (by (try simp only [List.map_toArray,List.map_cons,List.map_nil]);first|done|rfl|(simp only [List.length_drop,List.length_take];rfl)) ?_
            with_reducible refine (laws_eqWipe.calls k _ _ t287 t290 _ _ t304 t307 true _ ?side1 ?side2 ?side3 ?side4 A60.out).mono ?_
            (case side1 => repeat (first|exact (Kd.R_reads' HO289.out).2.2|(with_reducible refine cA_ ?_ _)|(with_reducible refine Kd.C_drewN ?_ _)|(with_reducible refine Kd.C_drew ?_)))
            (case side2 => exact (Kd.R_reads' HO289.out).2.1)
            (case side3 => repeat (first|exact (Kd.R_reads' HO306.out).2.2|(with_reducible refine cA_ ?_ _)|(with_reducible refine Kd.C_drewN ?_ _)|(with_reducible refine Kd.C_drew ?_)))
            (case side4 => exact (Kd.R_reads' HO306.out).2.1)
            rintro e w99 ⟨rfl, hb⟩
            refine ⟨_, rfl, ?_⟩
            have n0_ := Aside0.mk (Kd.S_below (by (with_reducible repeat (first | apply Kd.S_alloc | apply Kd.S_drewN | apply Kd.S_drew)); exact HO266.out) hb)
            have n1_ := Aside0.mk (Kd.R_below (by (with_reducible repeat (first | apply Kd.R_alloc | apply Kd.R_drewN | apply Kd.R_drew)); exact HO273.out) hb)
            have n2_ := Aside0.mk (Kd.S_below (by (with_reducible repeat (first | apply Kd.S_alloc | apply Kd.S_drewN | apply Kd.S_drew)); exact HO281.out) hb)
            have n3_ := Aside0.mk (Kd.R_below (by (with_reducible repeat (first | apply Kd.R_alloc | apply Kd.R_drewN | apply Kd.R_drew)); exact HO289.out) hb)
            have n4_ := Aside0.mk (Kd.S_below (by (with_reducible repeat (first | apply Kd.S_alloc | apply Kd.S_drewN | apply Kd.S_drew)); exact HO298.out) hb)
            have n5_ := Aside0.mk (Kd.R_below (by (with_reducible repeat (first | apply Kd.R_alloc | apply Kd.R_drewN | apply Kd.R_drew)); exact HO306.out) hb)
            have n6_:=mk_ (blk_below (g:=gb257) (o:=.cells #[.int .i64 a0_0,.int .i64 a0_1,.int .i64 a0_2,.slice A0_3 l0_3.length c0_3,.int .i64 a0_4,.int .i64 a0_5,.bool a0_6,.int .i64 a0_7] 26 (0,0)) (by (with_reducible repeat (first|refine kN_ ?_ _|refine kD_ ?_|refine kA_ ?_ _));exact BK257.out) hb)
            have n7_:=mk_ (blk_below (g:=gb258) (o:=.cells #[.slice A1_0 l1_0.length c1_0,.int .i64 a1_1] 66 (0,0)) (by (with_reducible repeat (first|refine kN_ ?_ _|refine kD_ ?_|refine kA_ ?_ _));exact BK258.out) hb)
            have n8_:=mk_ (blk_below (g:=gb286) (o:=.cells #[.int .i64 t276,.int .i64 t277,.int .i64 t278,.slice Ao81 t279.length co81,.int .i64 t282,.int .i64 t283,.bool t284,.int .i64 t285] 40 (0,0)) (by (with_reducible repeat (first|refine kN_ ?_ _|refine kD_ ?_|refine kA_ ?_ _));exact BK286.out) hb)
            have n9_:=mk_ (blk_below (g:=gb291) (o:=.cells #[.slice Ao85 t287.length co85,.int .i64 t290] 69 (0,0)) (by (with_reducible repeat (first|refine kN_ ?_ _|refine kD_ ?_|refine kA_ ?_ _));exact BK291.out) hb)
            have n10_:=mk_ (bT_ (by repeat (first|(with_reducible first|exact HB.out|apply bA_|apply bN_|apply bD_|refine bS_ ?_ GE257.out|refine bS_ ?_ GE258.out|refine bS_ ?_ GE286.out|refine bS_ ?_ GE291.out)|exact HB.out)) hb)
            clear HO266
            clear HO273
            clear HO281
            clear HO289
            clear HO298
            clear HO306
            clear BK257
            clear BK258
            clear BK286
            clear BK291
            clear HB
            have HO266 := n0_
            have HO273 := n1_
            have HO281 := n2_
            have HO289 := n3_
            have HO298 := n4_
            have HO306 := n5_
            have BK257 := n6_
            have BK258 := n7_
            have BK286 := n8_
            have BK291 := n9_
            have HB := n10_
            clear n0_ n1_ n2_ n3_ n4_ n5_ n6_ n7_ n8_ n9_ n10_
            (try clear hb)
            (try clear hb2)
            (try clear hk)
            (try clear hi)
            refine hK.out _ _ ⟨(blk_cell BK291.out 0).trans rfl, (blk_cell BK291.out 1).trans rfl, (blk_cell BK258.out 0).trans rfl, (blk_cell BK258.out 1).trans rfl⟩ (fun hHeld => ?_)
            clear hK K
            refine norm_ (a' := ?_) ?_ ?_
            rotate_left
            · show Act.put _ (some 43) _ = _
              simp only [Act.put, List.setIfInBounds_toArray, List.set_cons_zero, List.set_cons_succ, i64_w, i32_w]
              rfl
            refine pure_ (i := 4) (N := some 44) (v := ?_) (a' := ?_) #[true, true, true, true, true] rfl rfl (by kernel_rfl) (fun _ _ _ h => h) (Or.inl ⟨by rfl, ?_⟩) ?_ ?_
            rotate_left
            · intro w'
              go_simp
              with_reducible rfl
            rotate_left
            · simp only [Act.put, List.setIfInBounds_toArray, List.set_cons_zero, List.set_cons_succ, i64_w, i32_w]
              rfl
            refine done_ (by kernel_rfl) ?_
            try go_wp2
            go_ret
            exact ⟨by first|rfl|(simp [errW_none,errW_some] <;> rfl)|(simp [*,errW_none,errW_some] <;> rfl),by repeat (first|(with_reducible first|exact HB.out|apply bA_|apply bN_|apply bD_|refine bS_ ?_ GE257.out|refine bS_ ?_ GE258.out|refine bS_ ?_ GE286.out|refine bS_ ?_ GE291.out)|exact HB.out)⟩
          · replace c61 := Bool.eq_false_iff.mpr c61
            subst c61
            have H1 : (some false) = some r := by rw [if_neg (show ¬ (false = true) by decide)] at H; exact H
            clear H
            have H := H1
            clear H1
            obtain rfl := Option.some.inj H
            go_enter Try.func6, Try.ntmps6
            try go_wp2_with (first|((with_reducible refine gate_dst (N:=2) rfl ?_);refine box_event ?hg (N:=2) ?hd (cs:=#[.int .i64 a0_0,.int .i64 a0_1,.int .i64 a0_2,.slice A0_3 l0_3.length c0_3,.int .i64 a0_4,.int .i64 a0_5,.bool a0_6,.int .i64 a0_7]) (t:=26) ?hr ?_;(case hd => rfl);(case hg => rfl);(case hr => first|(go_simp;done)|(go_simp;rfl));intro gb257 hg w100 hbox hb;have n0_:=mk_ (bT_ (by repeat (first|(with_reducible first|exact HB.out|apply bA_|apply bN_|apply bD_)|exact HB.out)) hb);have n1_:=mk_ (hbox);have n2_:=mk_ ((by rw [hg];exact (bZ_ (by repeat (first|(with_reducible first|exact HB.out|apply bA_|apply bN_|apply bD_)|exact HB.out))) : w.heap.size ≤ gb257));have n3_:=mk_ ((by rw [hg];exact (bZ_ (by repeat (first|(with_reducible first|exact HB.out|apply bA_|apply bN_|apply bD_)|exact HB.out))) : w.heap.size ≤ gb257));clear HB;have HB:=n0_;have BK257:=n1_;have GW257:=n2_;have GE257:=n3_;clear n0_ n1_ n2_ n3_;clear hb hbox hg)|((with_reducible refine gate_dst (N:=3) rfl ?_);refine box_event ?hg (N:=3) ?hd (cs:=#[.slice A1_0 l1_0.length c1_0,.int .i64 a1_1]) (t:=66) ?hr ?_;(case hd => rfl);(case hg => rfl);(case hr => first|(go_simp;done)|(go_simp;rfl));intro gb258 hg w101 hbox hb;have n0_:=mk_ (blk_below (g:=gb257) (o:=.cells #[.int .i64 a0_0,.int .i64 a0_1,.int .i64 a0_2,.slice A0_3 l0_3.length c0_3,.int .i64 a0_4,.int .i64 a0_5,.bool a0_6,.int .i64 a0_7] 26 (0,0)) (by (with_reducible repeat (first|refine kN_ ?_ _|refine kD_ ?_|refine kA_ ?_ _));exact BK257.out) hb);have n1_:=mk_ (bT_ (by repeat (first|(with_reducible first|exact HB.out|apply bA_|apply bN_|apply bD_|refine bS_ ?_ GE257.out)|exact HB.out)) hb);have n2_:=mk_ (hbox);have n3_:=mk_ ((by rw [hg];exact (bZ_ (by repeat (first|(with_reducible first|exact HB.out|apply bA_|apply bN_|apply bD_|refine bS_ ?_ GE257.out)|exact HB.out))) : w.heap.size ≤ gb258));have n4_:=mk_ ((by rw [hg];exact (bZ_ (by repeat (first|(with_reducible first|exact HB.out|apply bA_|apply bN_|apply bD_|refine bS_ ?_ GE257.out)|exact HB.out))) : w.heap.size ≤ gb258));have n5_:=mk_ ((by rw [hg];exact Nat.ne_of_lt (blk_lt (g:=gb257) (o:=.cells #[.int .i64 a0_0,.int .i64 a0_1,.int .i64 a0_2,.slice A0_3 l0_3.length c0_3,.int .i64 a0_4,.int .i64 a0_5,.bool a0_6,.int .i64 a0_7] 26 (0,0)) (by (with_reducible repeat (first|refine kN_ ?_ _|refine kD_ ?_|refine kA_ ?_ _));exact BK257.out)) : gb257 ≠ gb258));have n6_:=mk_ ((by rw [hg];exact Nat.ne_of_gt (blk_lt (g:=gb257) (o:=.cells #[.int .i64 a0_0,.int .i64 a0_1,.int .i64 a0_2,.slice A0_3 l0_3.length c0_3,.int .i64 a0_4,.int .i64 a0_5,.bool a0_6,.int .i64 a0_7] 26 (0,0)) (by (with_reducible repeat (first|refine kN_ ?_ _|refine kD_ ?_|refine kA_ ?_ _));exact BK257.out)) : gb258 ≠ gb257));clear BK257;clear HB;have BK257:=n0_;have HB:=n1_;have BK258:=n2_;have GW258:=n3_;have GE258:=n4_;have NB257_258:=n5_;have NB258_257:=n6_;clear n0_ n1_ n2_ n3_ n4_ n5_ n6_;clear hb hbox hg;have hnb102:=NB257_258.out;have hnc102:=NB258_257.out;have hcz103_0 : w101.cell? ⟨gb257,0,none⟩ = some (.int .i64 a0_0):=(blk_cell BK257.out 0).trans rfl;have hcz103_1 : w101.cell? ⟨gb257,1,none⟩ = some (.int .i64 a0_1):=(blk_cell BK257.out 1).trans rfl;have hcz103_2 : w101.cell? ⟨gb257,2,none⟩ = some (.int .i64 a0_2):=(blk_cell BK257.out 2).trans rfl;have hcz103_3 : w101.cell? ⟨gb257,3,none⟩ = some (.slice A0_3 l0_3.length c0_3):=(blk_cell BK257.out 3).trans rfl;have hcz103_4 : w101.cell? ⟨gb257,4,none⟩ = some (.int .i64 a0_4):=(blk_cell BK257.out 4).trans rfl;have hcz103_5 : w101.cell? ⟨gb257,5,none⟩ = some (.int .i64 a0_5):=(blk_cell BK257.out 5).trans rfl;have hcz103_6 : w101.cell? ⟨gb257,6,none⟩ = some (.bool a0_6):=(blk_cell BK257.out 6).trans rfl;have hcz103_7 : w101.cell? ⟨gb257,7,none⟩ = some (.int .i64 a0_7):=(blk_cell BK257.out 7).trans rfl;have hfz103_0:=fZ_ BK257.out 0;have hfz103_1:=fZ_ BK257.out 1;have hfz103_2:=fZ_ BK257.out 2;have hfz103_3:=fZ_ BK257.out 3;have hfz103_4:=fZ_ BK257.out 4;have hfz103_5:=fZ_ BK257.out 5;have hfz103_6:=fZ_ BK257.out 6;have hfz103_7:=fZ_ BK257.out 7)|((with_reducible refine gate_callee (f:=28) rfl ?_);refine goesL_ (some 12) rfl rfl Try.func28 (by kernel_rfl) rfl #[.agg #[.int .i64 a0_0,.int .i64 a0_1,.int .i64 a0_2,.slice A0_3 l0_3.length c0_3,.int .i64 a0_4,.int .i64 a0_5,.bool a0_6,.int .i64 a0_7],.int .i64 1048576] rfl (by (try simp only [List.map_toArray,List.map_cons,List.map_nil]);first|done|rfl|(simp only [List.length_drop,List.length_take];rfl)) ?_;(with_reducible refine (laws_szFlash.calls k a0_0 a0_1 a0_2 _ _ l0_3 a0_4 a0_5 a0_6 a0_7 1048576 t259 _ ?side1 ?side2 A3.out).mono ?_);(case side1 => repeat (first|exact (Kd.C_below HR0_3.out HB.out)|(with_reducible refine cA_ ?_ _)|(with_reducible refine Kd.C_drewN ?_ _)|(with_reducible refine Kd.C_drew ?_)));(case side2 => exact HC0_3.out);rintro e w104 ⟨rfl,hb⟩;refine ⟨_,rfl,?_⟩;have n0_:=mk_ (blk_below (g:=gb257) (o:=.cells #[.int .i64 a0_0,.int .i64 a0_1,.int .i64 a0_2,.slice A0_3 l0_3.length c0_3,.int .i64 a0_4,.int .i64 a0_5,.bool a0_6,.int .i64 a0_7] 26 (0,0)) (by (with_reducible repeat (first|refine kN_ ?_ _|refine kD_ ?_|refine kA_ ?_ _));exact BK257.out) hb);have n1_:=mk_ (blk_below (g:=gb258) (o:=.cells #[.slice A1_0 l1_0.length c1_0,.int .i64 a1_1] 66 (0,0)) (by (with_reducible repeat (first|refine kN_ ?_ _|refine kD_ ?_|refine kA_ ?_ _));exact BK258.out) hb);have n2_:=mk_ (bT_ (by repeat (first|(with_reducible first|exact HB.out|apply bA_|apply bN_|apply bD_|refine bS_ ?_ GE257.out|refine bS_ ?_ GE258.out)|exact HB.out)) hb);clear BK257;clear BK258;clear HB;have BK257:=n0_;have BK258:=n1_;have HB:=n2_;clear n0_ n1_ n2_;(try clear hb);(try clear hb2);(try clear hk);(try clear hi);have hcz105_0 : w104.cell? ⟨gb258,0,none⟩ = some (.slice A1_0 l1_0.length c1_0):=(blk_cell BK258.out 0).trans rfl;have hcz105_1 : w104.cell? ⟨gb258,1,none⟩ = some (.int .i64 a1_1):=(blk_cell BK258.out 1).trans rfl;have hfz105_0:=fZ_ BK258.out 0;have hfz105_1:=fZ_ BK258.out 1)|((with_reducible refine gate_callee (f:=33) rfl ?_);refine goesL_ (some 17) rfl rfl Try.func33 (by kernel_rfl) rfl #[.agg #[.slice A1_0 l1_0.length c1_0,.int .i64 a1_1],.int .i64 t259] rfl (by (try simp only [List.map_toArray,List.map_cons,List.map_nil]);first|done|rfl|(simp only [List.length_drop,List.length_take];rfl)) ?_;(with_reducible refine (laws_szWipe.calls _ _ l1_0 a1_1 t259 t260 _ ?side1 ?side2 A10.out).mono ?_);(case side1 => repeat (first|exact (Kd.C_below HR1_0.out HB.out)|(with_reducible refine cA_ ?_ _)|(with_reducible refine Kd.C_drewN ?_ _)|(with_reducible refine Kd.C_drew ?_)));(case side2 => exact HC1_0.out);rintro e w106 ⟨rfl,hb⟩;refine ⟨_,rfl,?_⟩;have n0_:=mk_ (blk_below (g:=gb257) (o:=.cells #[.int .i64 a0_0,.int .i64 a0_1,.int .i64 a0_2,.slice A0_3 l0_3.length c0_3,.int .i64 a0_4,.int .i64 a0_5,.bool a0_6,.int .i64 a0_7] 26 (0,0)) (by (with_reducible repeat (first|refine kN_ ?_ _|refine kD_ ?_|refine kA_ ?_ _));exact BK257.out) hb);have n1_:=mk_ (blk_below (g:=gb258) (o:=.cells #[.slice A1_0 l1_0.length c1_0,.int .i64 a1_1] 66 (0,0)) (by (with_reducible repeat (first|refine kN_ ?_ _|refine kD_ ?_|refine kA_ ?_ _));exact BK258.out) hb);have n2_:=mk_ (bT_ (by repeat (first|(with_reducible first|exact HB.out|apply bA_|apply bN_|apply bD_|refine bS_ ?_ GE257.out|refine bS_ ?_ GE258.out)|exact HB.out)) hb);clear BK257;clear BK258;clear HB;have BK257:=n0_;have BK258:=n1_;have HB:=n2_;clear n0_ n1_ n2_;(try clear hb);(try clear hb2);(try clear hk);(try clear hi)))
            have n0_ := Aside0.mk (blk_drew BK257.out)
            have n1_ := Aside0.mk (blk_drew BK258.out)
            have n2_ := Aside0.mk (below_drew1 HB.out)
            clear BK257
            clear BK258
            clear HB
            have BK257 := n0_
            have BK258 := n1_
            have HB := n2_
            clear n0_ n1_ n2_
            refine start_ (n:=6) (S:=fun w' => w'.cell? ⟨gb257,0,none⟩ = some (.int .i64 a0_0) ∧ w'.cell? ⟨gb257,1,none⟩ = some (.int .i64 a0_1) ∧ w'.cell? ⟨gb257,2,none⟩ = some (.int .i64 a0_2) ∧ w'.cell? ⟨gb257,3,none⟩ = some (.slice A0_3 l0_3.length c0_3) ∧ w'.cell? ⟨gb257,4,none⟩ = some (.int .i64 a0_4) ∧ w'.cell? ⟨gb257,5,none⟩ = some (.int .i64 a0_5) ∧ w'.cell? ⟨gb257,6,none⟩ = some (.bool a0_6) ∧ w'.cell? ⟨gb257,7,none⟩ = some (.int .i64 a0_7) ∧ w'.cell? ⟨gb258,0,none⟩ = some (.slice A1_0 l1_0.length c1_0) ∧ w'.cell? ⟨gb258,1,none⟩ = some (.int .i64 a1_1)) (ds:=[]) #[false,false,false,false,false,false] (by kernel_rfl) rfl rfl ⟨(blk_cell BK257.out 0).trans rfl,(blk_cell BK257.out 1).trans rfl,(blk_cell BK257.out 2).trans rfl,(blk_cell BK257.out 3).trans rfl,(blk_cell BK257.out 4).trans rfl,(blk_cell BK257.out 5).trans rfl,(blk_cell BK257.out 6).trans rfl,(blk_cell BK257.out 7).trans rfl,(blk_cell BK258.out 0).trans rfl,(blk_cell BK258.out 1).trans rfl⟩ (fun hHeld => ?_)
            generalize w106.drew = w107 at BK257 BK258 HB hHeld ⊢
            refine take_ (i := 0) (N := some 20) (v := ?_) (a' := ?_) #[true, false, false, false, false, false] rfl rfl (by kernel_rfl) (fun _ _ _ h => h) (Or.inl ⟨by rfl, ?_⟩) hHeld ?_ ?_
            rotate_left
            · rintro w' ⟨s0, s1, s2, s3, s4, s5, s6, s7, s8, s9⟩
              go_simp
              with_reducible rfl
            rotate_left
            · simp only [Act.put, List.setIfInBounds_toArray, List.set_cons_zero, List.set_cons_succ, i64_w, i32_w]
              rfl
            refine take_ (i := 2) (N := some 22) (v := ?_) (a' := ?_) #[true, false, true, false, false, false] rfl rfl (by kernel_rfl) (fun _ _ _ h => h) (Or.inl ⟨by rfl, ?_⟩) hHeld ?_ ?_
            rotate_left
            · rintro w' ⟨s0, s1, s2, s3, s4, s5, s6, s7, s8, s9⟩
              go_simp
              with_reducible rfl
            rotate_left
            · simp only [Act.put, List.setIfInBounds_toArray, List.set_cons_zero, List.set_cons_succ, i64_w, i32_w]
              rfl
            refine one_ (i := 1) (N := some 21) #[true, true, true, false, false, false] rfl rfl (by kernel_rfl) (by decide) (fun K hK => ?_)
            refine goes_ Try.func30 (by kernel_rfl) rfl #[.agg #[.int .i64 a0_0,.int .i64 a0_1,.int .i64 a0_2,.slice A0_3 l0_3.length c0_3,.int .i64 a0_4,.int .i64 a0_5,.bool a0_6,.int .i64 a0_7]] (by rfl) rfl rfl (by (try simp only [List.map_toArray,List.map_cons,List.map_nil]);first|done|rfl|(simp only [List.length_drop,List.length_take];rfl)) ?_
            with_reducible refine (laws_toFlash.calls k a0_0 a0_1 a0_2 _ _ l0_3 a0_4 a0_5 a0_6 a0_7 t261 t262 t263 t264 t267 t268 t269 t270 _ ?side1 ?side2 A19.out).mono ?_
            (case side1 => repeat (first|exact (Kd.C_below HR0_3.out HB.out)|(with_reducible refine cA_ ?_ _)|(with_reducible refine Kd.C_drewN ?_ _)|(with_reducible refine Kd.C_drew ?_)))
            (case side2 => exact HC0_3.out)
            rintro e w108 ⟨v265, rfl, ho0, hb⟩
            refine ⟨_, rfl, ?_⟩
            have n0_:=mk_ (Kd.S_lower ho0 (bZ_ (by repeat (first|(with_reducible first|exact HB.out|apply bA_|apply bN_|apply bD_|refine bS_ ?_ GE257.out|refine bS_ ?_ GE258.out)|exact HB.out))))
            have n1_:=mk_ (blk_below (g:=gb257) (o:=.cells #[.int .i64 a0_0,.int .i64 a0_1,.int .i64 a0_2,.slice A0_3 l0_3.length c0_3,.int .i64 a0_4,.int .i64 a0_5,.bool a0_6,.int .i64 a0_7] 26 (0,0)) (by (with_reducible repeat (first|refine kN_ ?_ _|refine kD_ ?_|refine kA_ ?_ _));exact BK257.out) hb)
            have n2_:=mk_ (blk_below (g:=gb258) (o:=.cells #[.slice A1_0 l1_0.length c1_0,.int .i64 a1_1] 66 (0,0)) (by (with_reducible repeat (first|refine kN_ ?_ _|refine kD_ ?_|refine kA_ ?_ _));exact BK258.out) hb)
            have n3_:=mk_ (bT_ (by repeat (first|(with_reducible first|exact HB.out|apply bA_|apply bN_|apply bD_|refine bS_ ?_ GE257.out|refine bS_ ?_ GE258.out)|exact HB.out)) hb)
            clear BK257
            clear BK258
            clear HB
            have HO266 := n0_
            have BK257 := n1_
            have BK258 := n2_
            have HB := n3_
            clear n0_ n1_ n2_ n3_
            (try clear hb)
            (try clear hb2)
            (try clear hk)
            (try clear hi)
            (try clear ho0)
            refine hK.out _ _ ⟨(blk_cell BK257.out 0).trans rfl,(blk_cell BK257.out 1).trans rfl,(blk_cell BK257.out 2).trans rfl,(blk_cell BK257.out 3).trans rfl,(blk_cell BK257.out 4).trans rfl,(blk_cell BK257.out 5).trans rfl,(blk_cell BK257.out 6).trans rfl,(blk_cell BK257.out 7).trans rfl,(blk_cell BK258.out 0).trans rfl,(blk_cell BK258.out 1).trans rfl⟩ (fun hHeld => ?_)
            clear hK K
            refine norm_ (a' := ?_) ?_ ?_
            rotate_left
            · show Act.put _ (some 21) _ = _
              simp only [Act.put, List.setIfInBounds_toArray, List.set_cons_zero, List.set_cons_succ, i64_w, i32_w]
              rfl
            refine one_ (i := 3) (N := some 23) #[true, true, true, true, false, false] rfl rfl (by kernel_rfl) (by decide) (fun K hK => ?_)
            refine goes_ Try.func35 (by kernel_rfl) rfl #[.agg #[.slice A1_0 l1_0.length c1_0,.int .i64 a1_1]] (by rfl) rfl rfl (by (try simp only [List.map_toArray,List.map_cons,List.map_nil]);first|done|rfl|(simp only [List.length_drop,List.length_take];rfl)) ?_
            with_reducible refine (laws_toWipe.calls k _ _ l1_0 a1_1 t271 t274 _ ?side1 ?side2 A20.out).mono ?_
            (case side1 => repeat (first|exact (Kd.C_below HR1_0.out HB.out)|(with_reducible refine cA_ ?_ _)|(with_reducible refine Kd.C_drewN ?_ _)|(with_reducible refine Kd.C_drew ?_)))
            (case side2 => exact HC1_0.out)
            rintro e w109 ⟨v272, rfl, ho0, hb⟩
            refine ⟨_, rfl, ?_⟩
            have n0_ := Aside0.mk (Kd.S_below (by (with_reducible repeat (first | apply Kd.S_alloc | apply Kd.S_drewN | apply Kd.S_drew)); exact HO266.out) hb)
            have n1_:=mk_ (Kd.R_lower ho0 (bZ_ (by repeat (first|(with_reducible first|exact HB.out|apply bA_|apply bN_|apply bD_|refine bS_ ?_ GE257.out|refine bS_ ?_ GE258.out)|exact HB.out))))
            have n2_:=mk_ (blk_below (g:=gb257) (o:=.cells #[.int .i64 a0_0,.int .i64 a0_1,.int .i64 a0_2,.slice A0_3 l0_3.length c0_3,.int .i64 a0_4,.int .i64 a0_5,.bool a0_6,.int .i64 a0_7] 26 (0,0)) (by (with_reducible repeat (first|refine kN_ ?_ _|refine kD_ ?_|refine kA_ ?_ _));exact BK257.out) hb)
            have n3_:=mk_ (blk_below (g:=gb258) (o:=.cells #[.slice A1_0 l1_0.length c1_0,.int .i64 a1_1] 66 (0,0)) (by (with_reducible repeat (first|refine kN_ ?_ _|refine kD_ ?_|refine kA_ ?_ _));exact BK258.out) hb)
            have n4_:=mk_ (bT_ (by repeat (first|(with_reducible first|exact HB.out|apply bA_|apply bN_|apply bD_|refine bS_ ?_ GE257.out|refine bS_ ?_ GE258.out)|exact HB.out)) hb)
            clear HO266
            clear BK257
            clear BK258
            clear HB
            have HO266 := n0_
            have HO273 := n1_
            have BK257 := n2_
            have BK258 := n3_
            have HB := n4_
            clear n0_ n1_ n2_ n3_ n4_
            (try clear hb)
            (try clear hb2)
            (try clear hk)
            (try clear hi)
            (try clear ho0)
            obtain ⟨Ao110, co110, eo110⟩ := Kd.S_slice HO266.out
            (first | subst eo110 | (injection eo110 with f1_ f2_ f3_; have f4_ := f1_.symm; have f5_ := f3_.symm; clear f1_ f2_ f3_; subst f4_; subst f5_))
            obtain ⟨Ao111, co111, eo111⟩ := Kd.R_slice HO273.out
            (first | subst eo111 | (injection eo111 with f1_ f2_ f3_; have f4_ := f1_.symm; have f5_ := f3_.symm; clear f1_ f2_ f3_; subst f4_; subst f5_))
            refine hK.out _ _ ⟨(blk_cell BK257.out 0).trans rfl,(blk_cell BK257.out 1).trans rfl,(blk_cell BK257.out 2).trans rfl,(blk_cell BK257.out 3).trans rfl,(blk_cell BK257.out 4).trans rfl,(blk_cell BK257.out 5).trans rfl,(blk_cell BK257.out 6).trans rfl,(blk_cell BK257.out 7).trans rfl,(blk_cell BK258.out 0).trans rfl,(blk_cell BK258.out 1).trans rfl⟩ (fun hHeld => ?_)
            clear hK K
            refine norm_ (a' := ?_) ?_ ?_
            rotate_left
            · show Act.put _ (some 23) _ = _
              simp only [Act.put, List.setIfInBounds_toArray, List.set_cons_zero, List.set_cons_succ, i64_w, i32_w]
              rfl
            refine one_ (i := 4) (N := some 24) #[true, true, true, true, true, false] rfl rfl (by kernel_rfl) (by decide) (fun K hK => ?_)
            refine goes_ Try.func34 (by kernel_rfl) rfl #[.agg #[.int .i64 t261,.int .i64 t262,.int .i64 t263,.slice Ao110 t264.length co110,.int .i64 t267,.int .i64 t268,.bool t269,.int .i64 t270],.agg #[.slice Ao111 t271.length co111,.int .i64 t274]] (by rfl) rfl rfl (by (try simp only [List.map_toArray,List.map_cons,List.map_nil]);first|done|rfl|(simp only [List.length_drop,List.length_take];rfl)) ?_
            with_reducible refine (spec_ValidWipe.calls k t261 t262 t263 _ _ t264 t267 t268 t269 t270 _ _ t271 t274 t275 _ ?side1 ?side2 ?side3 ?side4 A21.out).mono ?_
            (case side1 => repeat (first|exact (Kd.S_reads' HO266.out).2.2|(with_reducible refine cA_ ?_ _)|(with_reducible refine Kd.C_drewN ?_ _)|(with_reducible refine Kd.C_drew ?_)))
            (case side2 => exact (Kd.S_reads' HO266.out).2.1)
            (case side3 => repeat (first|exact (Kd.R_reads' HO273.out).2.2|(with_reducible refine cA_ ?_ _)|(with_reducible refine Kd.C_drewN ?_ _)|(with_reducible refine Kd.C_drew ?_)))
            (case side4 => exact (Kd.R_reads' HO273.out).2.1)
            rintro e w112 ⟨rfl, hb⟩
            refine ⟨_, rfl, ?_⟩
            have n0_ := Aside0.mk (Kd.S_below (by (with_reducible repeat (first | apply Kd.S_alloc | apply Kd.S_drewN | apply Kd.S_drew)); exact HO266.out) hb)
            have n1_ := Aside0.mk (Kd.R_below (by (with_reducible repeat (first | apply Kd.R_alloc | apply Kd.R_drewN | apply Kd.R_drew)); exact HO273.out) hb)
            have n2_:=mk_ (blk_below (g:=gb257) (o:=.cells #[.int .i64 a0_0,.int .i64 a0_1,.int .i64 a0_2,.slice A0_3 l0_3.length c0_3,.int .i64 a0_4,.int .i64 a0_5,.bool a0_6,.int .i64 a0_7] 26 (0,0)) (by (with_reducible repeat (first|refine kN_ ?_ _|refine kD_ ?_|refine kA_ ?_ _));exact BK257.out) hb)
            have n3_:=mk_ (blk_below (g:=gb258) (o:=.cells #[.slice A1_0 l1_0.length c1_0,.int .i64 a1_1] 66 (0,0)) (by (with_reducible repeat (first|refine kN_ ?_ _|refine kD_ ?_|refine kA_ ?_ _));exact BK258.out) hb)
            have n4_:=mk_ (bT_ (by repeat (first|(with_reducible first|exact HB.out|apply bA_|apply bN_|apply bD_|refine bS_ ?_ GE257.out|refine bS_ ?_ GE258.out)|exact HB.out)) hb)
            clear HO266
            clear HO273
            clear BK257
            clear BK258
            clear HB
            have HO266 := n0_
            have HO273 := n1_
            have BK257 := n2_
            have BK258 := n3_
            have HB := n4_
            clear n0_ n1_ n2_ n3_ n4_
            (try clear hb)
            (try clear hb2)
            (try clear hk)
            (try clear hi)
            refine hK.out _ _ ⟨(blk_cell BK257.out 0).trans rfl,(blk_cell BK257.out 1).trans rfl,(blk_cell BK257.out 2).trans rfl,(blk_cell BK257.out 3).trans rfl,(blk_cell BK257.out 4).trans rfl,(blk_cell BK257.out 5).trans rfl,(blk_cell BK257.out 6).trans rfl,(blk_cell BK257.out 7).trans rfl,(blk_cell BK258.out 0).trans rfl,(blk_cell BK258.out 1).trans rfl⟩ (fun hHeld => ?_)
            clear hK K
            refine norm_ (a' := ?_) ?_ ?_
            rotate_left
            · show Act.put _ (some 24) _ = _
              simp only [Act.put, List.setIfInBounds_toArray, List.set_cons_zero, List.set_cons_succ, i64_w, i32_w]
              rfl
            refine pure_ (i := 5) (N := some 6) (v := ?_) (a' := ?_) #[true, true, true, true, true, true] rfl rfl (by kernel_rfl) (fun _ _ _ h => h) (Or.inl ⟨by rfl, ?_⟩) ?_ ?_
            rotate_left
            · intro w'
              go_simp
              with_reducible rfl
            rotate_left
            · simp only [Act.put, List.setIfInBounds_toArray, List.set_cons_zero, List.set_cons_succ, i64_w, i32_w]
              rfl
            refine done_ (by kernel_rfl) ?_
            have hcz113_0 : w112.cell? ⟨gb257, 0, none⟩ = some (.int .i64 a0_0) := (blk_cell BK257.out 0).trans rfl
            have hcz113_1 : w112.cell? ⟨gb257, 1, none⟩ = some (.int .i64 a0_1) := (blk_cell BK257.out 1).trans rfl
            have hcz113_2 : w112.cell? ⟨gb257, 2, none⟩ = some (.int .i64 a0_2) := (blk_cell BK257.out 2).trans rfl
            have hcz113_3 : w112.cell? ⟨gb257, 3, none⟩ = some (.slice A0_3 l0_3.length c0_3) := (blk_cell BK257.out 3).trans rfl
            have hcz113_4 : w112.cell? ⟨gb257, 4, none⟩ = some (.int .i64 a0_4) := (blk_cell BK257.out 4).trans rfl
            have hcz113_5 : w112.cell? ⟨gb257, 5, none⟩ = some (.int .i64 a0_5) := (blk_cell BK257.out 5).trans rfl
            have hcz113_6 : w112.cell? ⟨gb257, 6, none⟩ = some (.bool a0_6) := (blk_cell BK257.out 6).trans rfl
            have hcz113_7 : w112.cell? ⟨gb257, 7, none⟩ = some (.int .i64 a0_7) := (blk_cell BK257.out 7).trans rfl
            have hfz113_0 := blk_frozen BK257.out 0
            have hfz113_1 := blk_frozen BK257.out 1
            have hfz113_2 := blk_frozen BK257.out 2
            have hfz113_3 := blk_frozen BK257.out 3
            have hfz113_4 := blk_frozen BK257.out 4
            have hfz113_5 := blk_frozen BK257.out 5
            have hfz113_6 := blk_frozen BK257.out 6
            have hfz113_7 := blk_frozen BK257.out 7
            try go_wp2_with (first|((with_reducible refine gate_callee (f:=30) rfl ?_);refine goesL_ (some 26) rfl rfl Try.func30 (by kernel_rfl) rfl #[.agg #[.int .i64 a0_0,.int .i64 a0_1,.int .i64 a0_2,.slice A0_3 l0_3.length c0_3,.int .i64 a0_4,.int .i64 a0_5,.bool a0_6,.int .i64 a0_7]] rfl (by (try simp only [List.map_toArray,List.map_cons,List.map_nil]);first|done|rfl|(simp only [List.length_drop,List.length_take];rfl)) ?_;(with_reducible refine (laws_toFlash.calls k a0_0 a0_1 a0_2 _ _ l0_3 a0_4 a0_5 a0_6 a0_7 t276 t277 t278 t279 t282 t283 t284 t285 _ ?side1 ?side2 A22.out).mono ?_);(case side1 => repeat (first|exact (Kd.C_below HR0_3.out HB.out)|(with_reducible refine cA_ ?_ _)|(with_reducible refine Kd.C_drewN ?_ _)|(with_reducible refine Kd.C_drew ?_)));(case side2 => exact HC0_3.out);rintro e w114 ⟨v280,rfl,ho0,hb⟩;refine ⟨_,rfl,?_⟩;have n0_:=mk_ (Kd.S_elder' (by (with_reducible repeat (first|apply sA_|apply sN_|apply Kd.S_drew));exact HO266.out) (Kd.S_base ho0) hb);have n1_:=mk_ (Kd.R_below (by (with_reducible repeat (first|apply rA_|apply rN_|apply rD_));exact HO273.out) hb);have n2_:=mk_ (Kd.S_lower (Kd.S_new' ho0 (Kd.S_lt (by (with_reducible repeat (first|apply sA_|apply sN_|apply Kd.S_drew));exact HO266.out))) (bZ_ (by repeat (first|(with_reducible first|exact HB.out|apply bA_|apply bN_|apply bD_|refine bS_ ?_ GE257.out|refine bS_ ?_ GE258.out)|exact HB.out))));have n3_:=mk_ (blk_below (g:=gb257) (o:=.cells #[.int .i64 a0_0,.int .i64 a0_1,.int .i64 a0_2,.slice A0_3 l0_3.length c0_3,.int .i64 a0_4,.int .i64 a0_5,.bool a0_6,.int .i64 a0_7] 26 (0,0)) (by (with_reducible repeat (first|refine kN_ ?_ _|refine kD_ ?_|refine kA_ ?_ _));exact BK257.out) hb);have n4_:=mk_ (blk_below (g:=gb258) (o:=.cells #[.slice A1_0 l1_0.length c1_0,.int .i64 a1_1] 66 (0,0)) (by (with_reducible repeat (first|refine kN_ ?_ _|refine kD_ ?_|refine kA_ ?_ _));exact BK258.out) hb);have n5_:=mk_ (bT_ (by repeat (first|(with_reducible first|exact HB.out|apply bA_|apply bN_|apply bD_|refine bS_ ?_ GE257.out|refine bS_ ?_ GE258.out)|exact HB.out)) hb);clear HO266;clear HO273;clear BK257;clear BK258;clear HB;have HO266:=n0_;have HO273:=n1_;have HO281:=n2_;have BK257:=n3_;have BK258:=n4_;have HB:=n5_;clear n0_ n1_ n2_ n3_ n4_ n5_;(try clear hb);(try clear hb2);(try clear hk);(try clear hi);(try clear ho0))|((with_reducible refine gate_dst (N:=7) rfl ?_);refine box_event ?hg (N:=7) ?hd (cs:=#[.int .i64 0,.int .i64 0,.int .i64 0,.slice none 0 0,.int .i64 0,.int .i64 0,.bool false,.int .i64 0]) (t:=40) ?hr ?_;(case hd => rfl);(case hg => rfl);(case hr => first|(go_simp;done)|(go_simp;rfl));intro gb286 hg w115 hbox hb;have n0_:=mk_ (sB_ (by (with_reducible repeat (first|apply sA_|apply sN_|apply Kd.S_drew));exact HO266.out) hb);have n1_:=mk_ (Kd.R_below (by (with_reducible repeat (first|apply rA_|apply rN_|apply rD_));exact HO273.out) hb);have n2_:=mk_ (sB_ (by (with_reducible repeat (first|apply sA_|apply sN_|apply Kd.S_drew));exact HO281.out) hb);have n3_:=mk_ (blk_below (g:=gb257) (o:=.cells #[.int .i64 a0_0,.int .i64 a0_1,.int .i64 a0_2,.slice A0_3 l0_3.length c0_3,.int .i64 a0_4,.int .i64 a0_5,.bool a0_6,.int .i64 a0_7] 26 (0,0)) (by (with_reducible repeat (first|refine kN_ ?_ _|refine kD_ ?_|refine kA_ ?_ _));exact BK257.out) hb);have n4_:=mk_ (blk_below (g:=gb258) (o:=.cells #[.slice A1_0 l1_0.length c1_0,.int .i64 a1_1] 66 (0,0)) (by (with_reducible repeat (first|refine kN_ ?_ _|refine kD_ ?_|refine kA_ ?_ _));exact BK258.out) hb);have n5_:=mk_ (bT_ (by repeat (first|(with_reducible first|exact HB.out|apply bA_|apply bN_|apply bD_|refine bS_ ?_ GE257.out|refine bS_ ?_ GE258.out)|exact HB.out)) hb);have n6_:=mk_ (hbox);have n7_:=mk_ ((by rw [hg];exact (bZ_ (by repeat (first|(with_reducible first|exact HB.out|apply bA_|apply bN_|apply bD_|refine bS_ ?_ GE257.out|refine bS_ ?_ GE258.out)|exact HB.out))) : w.heap.size ≤ gb286));have n8_:=mk_ ((by rw [hg];exact (bZ_ (by repeat (first|(with_reducible first|exact HB.out|apply bA_|apply bN_|apply bD_|refine bS_ ?_ GE257.out|refine bS_ ?_ GE258.out)|exact HB.out))) : w.heap.size ≤ gb286));have n9_:=mk_ ((by rw [hg];exact Nat.ne_of_lt (blk_lt (g:=gb257) (o:=.cells #[.int .i64 a0_0,.int .i64 a0_1,.int .i64 a0_2,.slice A0_3 l0_3.length c0_3,.int .i64 a0_4,.int .i64 a0_5,.bool a0_6,.int .i64 a0_7] 26 (0,0)) (by (with_reducible repeat (first|refine kN_ ?_ _|refine kD_ ?_|refine kA_ ?_ _));exact BK257.out)) : gb257 ≠ gb286));have n10_:=mk_ ((by rw [hg];exact Nat.ne_of_gt (blk_lt (g:=gb257) (o:=.cells #[.int .i64 a0_0,.int .i64 a0_1,.int .i64 a0_2,.slice A0_3 l0_3.length c0_3,.int .i64 a0_4,.int .i64 a0_5,.bool a0_6,.int .i64 a0_7] 26 (0,0)) (by (with_reducible repeat (first|refine kN_ ?_ _|refine kD_ ?_|refine kA_ ?_ _));exact BK257.out)) : gb286 ≠ gb257));have n11_:=mk_ ((by rw [hg];exact Nat.ne_of_lt (blk_lt (g:=gb258) (o:=.cells #[.slice A1_0 l1_0.length c1_0,.int .i64 a1_1] 66 (0,0)) (by (with_reducible repeat (first|refine kN_ ?_ _|refine kD_ ?_|refine kA_ ?_ _));exact BK258.out)) : gb258 ≠ gb286));have n12_:=mk_ ((by rw [hg];exact Nat.ne_of_gt (blk_lt (g:=gb258) (o:=.cells #[.slice A1_0 l1_0.length c1_0,.int .i64 a1_1] 66 (0,0)) (by (with_reducible repeat (first|refine kN_ ?_ _|refine kD_ ?_|refine kA_ ?_ _));exact BK258.out)) : gb286 ≠ gb258));clear HO266;clear HO273;clear HO281;clear BK257;clear BK258;clear HB;have HO266:=n0_;have HO273:=n1_;have HO281:=n2_;have BK257:=n3_;have BK258:=n4_;have HB:=n5_;have BK286:=n6_;have GW286:=n7_;have GE286:=n8_;have NB257_286:=n9_;have NB286_257:=n10_;have NB258_286:=n11_;have NB286_258:=n12_;clear n0_ n1_ n2_ n3_ n4_ n5_ n6_ n7_ n8_ n9_ n10_ n11_ n12_;clear hb hbox hg;have hnb116:=NB286_257.out;have hnc116:=NB257_286.out;have hnb117:=NB286_258.out;have hnc117:=NB258_286.out;have hcz118_0 : w115.cell? ⟨gb286,0,none⟩ = some (.int .i64 0):=(blk_cell BK286.out 0).trans rfl;have hcz118_1 : w115.cell? ⟨gb286,1,none⟩ = some (.int .i64 0):=(blk_cell BK286.out 1).trans rfl;have hcz118_2 : w115.cell? ⟨gb286,2,none⟩ = some (.int .i64 0):=(blk_cell BK286.out 2).trans rfl;have hcz118_3 : w115.cell? ⟨gb286,3,none⟩ = some (.slice none 0 0):=(blk_cell BK286.out 3).trans rfl;have hcz118_4 : w115.cell? ⟨gb286,4,none⟩ = some (.int .i64 0):=(blk_cell BK286.out 4).trans rfl;have hcz118_5 : w115.cell? ⟨gb286,5,none⟩ = some (.int .i64 0):=(blk_cell BK286.out 5).trans rfl;have hcz118_6 : w115.cell? ⟨gb286,6,none⟩ = some (.bool false):=(blk_cell BK286.out 6).trans rfl;have hcz118_7 : w115.cell? ⟨gb286,7,none⟩ = some (.int .i64 0):=(blk_cell BK286.out 7).trans rfl;have hfz118_0:=fZ_ BK286.out 0;have hfz118_1:=fZ_ BK286.out 1;have hfz118_2:=fZ_ BK286.out 2;have hfz118_3:=fZ_ BK286.out 3;have hfz118_4:=fZ_ BK286.out 4;have hfz118_5:=fZ_ BK286.out 5;have hfz118_6:=fZ_ BK286.out 6;have hfz118_7:=fZ_ BK286.out 7;obtain ⟨Ao119,co119,eo119⟩:=Kd.S_slice HO281.out;subst eo119;have hcz120_0 : w115.cell? ⟨gb258,0,none⟩ = some (.slice A1_0 l1_0.length c1_0):=(blk_cell BK258.out 0).trans rfl;have hcz120_1 : w115.cell? ⟨gb258,1,none⟩ = some (.int .i64 a1_1):=(blk_cell BK258.out 1).trans rfl;have hfz120_0:=fZ_ BK258.out 0;have hfz120_1:=fZ_ BK258.out 1)|((with_reducible refine gate_callee (f:=35) rfl ?_);refine goesL_ (some 28) rfl rfl Try.func35 (by kernel_rfl) rfl #[.agg #[.slice A1_0 l1_0.length c1_0,.int .i64 a1_1]] rfl (by (try simp only [List.map_toArray,List.map_cons,List.map_nil]);first|done|rfl|(simp only [List.length_drop,List.length_take];rfl)) ?_;(with_reducible refine (laws_toWipe.calls k _ _ l1_0 a1_1 t287 t290 _ ?side1 ?side2 A23.out).mono ?_);(case side1 => exact Kd.C_below HR1_0.out (by repeat (first|(with_reducible first|exact HB.out|apply bA_|apply bN_|apply bD_|refine bS_ ?_ GE257.out|refine bS_ ?_ GE258.out|refine bS_ ?_ GE286.out)|exact HB.out)));(case side2 => exact HC1_0.out);rintro e w121 ⟨v288,rfl,ho0,hb⟩;refine ⟨_,rfl,?_⟩;have n0_:=mk_ (sB_ (by (with_reducible repeat (first|apply sA_|apply sN_|apply Kd.S_drew));exact (Kd.S_mono (Kd.S_far (p:=⟨gb286,7,none⟩) (Kd.S_far (p:=⟨gb286,6,none⟩) (Kd.S_far (p:=⟨gb286,5,none⟩) (Kd.S_far (p:=⟨gb286,4,none⟩) (Kd.S_far (p:=⟨gb286,3,none⟩) (Kd.S_far (p:=⟨gb286,2,none⟩) (Kd.S_far (p:=⟨gb286,1,none⟩) (Kd.S_far (p:=⟨gb286,0,none⟩) (Kd.S_types HO266.out BK286.out (by decide)) (fun _ hk => hk.2) (.int .i64 t276)) (fun _ hk => hk.2) (.int .i64 t277)) (fun _ hk => hk.2) (.int .i64 t278)) (fun _ hk => hk.2) (.slice Ao119 t279.length co119)) (fun _ hk => hk.2) (.int .i64 t282)) (fun _ hk => hk.2) (.int .i64 t283)) (fun _ hk => hk.2) (.bool t284)) (fun _ hk => hk.2) (.int .i64 t285)) (fun _ h_ => h_.1))) hb);have n1_:=mk_ (Kd.R_elder' (by (with_reducible repeat (first|apply rA_|apply rN_|apply rD_));exact (Kd.R_mono (Kd.R_far (p:=⟨gb286,7,none⟩) (Kd.R_far (p:=⟨gb286,6,none⟩) (Kd.R_far (p:=⟨gb286,5,none⟩) (Kd.R_far (p:=⟨gb286,4,none⟩) (Kd.R_far (p:=⟨gb286,3,none⟩) (Kd.R_far (p:=⟨gb286,2,none⟩) (Kd.R_far (p:=⟨gb286,1,none⟩) (Kd.R_far (p:=⟨gb286,0,none⟩) (Kd.R_types HO273.out BK286.out (by decide)) (fun _ hk => hk.2) (.int .i64 t276)) (fun _ hk => hk.2) (.int .i64 t277)) (fun _ hk => hk.2) (.int .i64 t278)) (fun _ hk => hk.2) (.slice Ao119 t279.length co119)) (fun _ hk => hk.2) (.int .i64 t282)) (fun _ hk => hk.2) (.int .i64 t283)) (fun _ hk => hk.2) (.bool t284)) (fun _ hk => hk.2) (.int .i64 t285)) (fun _ h_ => h_.1))) (Kd.R_base ho0) hb);have n2_:=mk_ (sB_ (by (with_reducible repeat (first|apply sA_|apply sN_|apply Kd.S_drew));exact (Kd.S_mono (Kd.S_far (p:=⟨gb286,7,none⟩) (Kd.S_far (p:=⟨gb286,6,none⟩) (Kd.S_far (p:=⟨gb286,5,none⟩) (Kd.S_far (p:=⟨gb286,4,none⟩) (Kd.S_far (p:=⟨gb286,3,none⟩) (Kd.S_far (p:=⟨gb286,2,none⟩) (Kd.S_far (p:=⟨gb286,1,none⟩) (Kd.S_far (p:=⟨gb286,0,none⟩) (Kd.S_types HO281.out BK286.out (by decide)) (fun _ hk => hk.2) (.int .i64 t276)) (fun _ hk => hk.2) (.int .i64 t277)) (fun _ hk => hk.2) (.int .i64 t278)) (fun _ hk => hk.2) (.slice Ao119 t279.length co119)) (fun _ hk => hk.2) (.int .i64 t282)) (fun _ hk => hk.2) (.int .i64 t283)) (fun _ hk => hk.2) (.bool t284)) (fun _ hk => hk.2) (.int .i64 t285)) (fun _ h_ => h_.1))) hb);have n3_:=mk_ (Kd.R_lower (Kd.R_new' ho0 (Kd.R_lt (by (with_reducible repeat (first|apply rA_|apply rN_|apply rD_));exact (Kd.R_mono (Kd.R_far (p:=⟨gb286,7,none⟩) (Kd.R_far (p:=⟨gb286,6,none⟩) (Kd.R_far (p:=⟨gb286,5,none⟩) (Kd.R_far (p:=⟨gb286,4,none⟩) (Kd.R_far (p:=⟨gb286,3,none⟩) (Kd.R_far (p:=⟨gb286,2,none⟩) (Kd.R_far (p:=⟨gb286,1,none⟩) (Kd.R_far (p:=⟨gb286,0,none⟩) (Kd.R_types HO273.out BK286.out (by decide)) (fun _ hk => hk.2) (.int .i64 t276)) (fun _ hk => hk.2) (.int .i64 t277)) (fun _ hk => hk.2) (.int .i64 t278)) (fun _ hk => hk.2) (.slice Ao119 t279.length co119)) (fun _ hk => hk.2) (.int .i64 t282)) (fun _ hk => hk.2) (.int .i64 t283)) (fun _ hk => hk.2) (.bool t284)) (fun _ hk => hk.2) (.int .i64 t285)) (fun _ h_ => h_.1))))) (bZ_ (by repeat (first|(with_reducible first|exact HB.out|apply bA_|apply bN_|apply bD_|refine bS_ ?_ GE257.out|refine bS_ ?_ GE258.out|refine bS_ ?_ GE286.out)|exact HB.out))));have n4_:=mk_ (blk_below (g:=gb257) (o:=.cells #[.int .i64 a0_0,.int .i64 a0_1,.int .i64 a0_2,.slice A0_3 l0_3.length c0_3,.int .i64 a0_4,.int .i64 a0_5,.bool a0_6,.int .i64 a0_7] 26 (0,0)) (by (with_reducible repeat (first|refine kN_ ?_ _|refine kD_ ?_|refine kA_ ?_ _));refine blk_far ?_ NB257_286.out _;(with_reducible repeat (first|refine kN_ ?_ _|refine kD_ ?_|refine kA_ ?_ _));refine blk_far ?_ NB257_286.out _;(with_reducible repeat (first|refine kN_ ?_ _|refine kD_ ?_|refine kA_ ?_ _));refine blk_far ?_ NB257_286.out _;(with_reducible repeat (first|refine kN_ ?_ _|refine kD_ ?_|refine kA_ ?_ _));refine blk_far ?_ NB257_286.out _;(with_reducible repeat (first|refine kN_ ?_ _|refine kD_ ?_|refine kA_ ?_ _));refine blk_far ?_ NB257_286.out _;(with_reducible repeat (first|refine kN_ ?_ _|refine kD_ ?_|refine kA_ ?_ _));refine blk_far ?_ NB257_286.out _;(with_reducible repeat (first|refine kN_ ?_ _|refine kD_ ?_|refine kA_ ?_ _));refine blk_far ?_ NB257_286.out _;(with_reducible repeat (first|refine kN_ ?_ _|refine kD_ ?_|refine kA_ ?_ _));refine blk_far ?_ NB257_286.out _;(with_reducible repeat (first|refine kN_ ?_ _|refine kD_ ?_|refine kA_ ?_ _));exact BK257.out) hb);have n5_:=mk_ (blk_below (g:=gb258) (o:=.cells #[.slice A1_0 l1_0.length c1_0,.int .i64 a1_1] 66 (0,0)) (by (with_reducible repeat (first|refine kN_ ?_ _|refine kD_ ?_|refine kA_ ?_ _));refine blk_far ?_ NB258_286.out _;(with_reducible repeat (first|refine kN_ ?_ _|refine kD_ ?_|refine kA_ ?_ _));refine blk_far ?_ NB258_286.out _;(with_reducible repeat (first|refine kN_ ?_ _|refine kD_ ?_|refine kA_ ?_ _));refine blk_far ?_ NB258_286.out _;(with_reducible repeat (first|refine kN_ ?_ _|refine kD_ ?_|refine kA_ ?_ _));refine blk_far ?_ NB258_286.out _;(with_reducible repeat (first|refine kN_ ?_ _|refine kD_ ?_|refine kA_ ?_ _));refine blk_far ?_ NB258_286.out _;(with_reducible repeat (first|refine kN_ ?_ _|refine kD_ ?_|refine kA_ ?_ _));refine blk_far ?_ NB258_286.out _;(with_reducible repeat (first|refine kN_ ?_ _|refine kD_ ?_|refine kA_ ?_ _));refine blk_far ?_ NB258_286.out _;(with_reducible repeat (first|refine kN_ ?_ _|refine kD_ ?_|refine kA_ ?_ _));refine blk_far ?_ NB258_286.out _;(with_reducible repeat (first|refine kN_ ?_ _|refine kD_ ?_|refine kA_ ?_ _));exact BK258.out) hb);have n6_:=mk_ (blk_below (g:=gb286) (o:=.cells #[.int .i64 t276,.int .i64 t277,.int .i64 t278,.slice Ao119 t279.length co119,.int .i64 t282,.int .i64 t283,.bool t284,.int .i64 t285] 40 (0,0)) (by (with_reducible repeat (first|refine kN_ ?_ _|refine kD_ ?_|refine kA_ ?_ _));refine blk_put (cs:=#[.int .i64 t276,.int .i64 t277,.int .i64 t278,.slice Ao119 t279.length co119,.int .i64 t282,.int .i64 t283,.bool t284,.int .i64 0]) ?_ 7 _ rfl;(with_reducible repeat (first|refine kN_ ?_ _|refine kD_ ?_|refine kA_ ?_ _));refine blk_put (cs:=#[.int .i64 t276,.int .i64 t277,.int .i64 t278,.slice Ao119 t279.length co119,.int .i64 t282,.int .i64 t283,.bool false,.int .i64 0]) ?_ 6 _ rfl;(with_reducible repeat (first|refine kN_ ?_ _|refine kD_ ?_|refine kA_ ?_ _));refine blk_put (cs:=#[.int .i64 t276,.int .i64 t277,.int .i64 t278,.slice Ao119 t279.length co119,.int .i64 t282,.int .i64 0,.bool false,.int .i64 0]) ?_ 5 _ rfl;(with_reducible repeat (first|refine kN_ ?_ _|refine kD_ ?_|refine kA_ ?_ _));refine blk_put (cs:=#[.int .i64 t276,.int .i64 t277,.int .i64 t278,.slice Ao119 t279.length co119,.int .i64 0,.int .i64 0,.bool false,.int .i64 0]) ?_ 4 _ rfl;(with_reducible repeat (first|refine kN_ ?_ _|refine kD_ ?_|refine kA_ ?_ _));refine blk_put (cs:=#[.int .i64 t276,.int .i64 t277,.int .i64 t278,.slice none 0 0,.int .i64 0,.int .i64 0,.bool false,.int .i64 0]) ?_ 3 _ rfl;(with_reducible repeat (first|refine kN_ ?_ _|refine kD_ ?_|refine kA_ ?_ _));refine blk_put (cs:=#[.int .i64 t276,.int .i64 t277,.int .i64 0,.slice none 0 0,.int .i64 0,.int .i64 0,.bool false,.int .i64 0]) ?_ 2 _ rfl;(with_reducible repeat (first|refine kN_ ?_ _|refine kD_ ?_|refine kA_ ?_ _));refine blk_put (cs:=#[.int .i64 t276,.int .i64 0,.int .i64 0,.slice none 0 0,.int .i64 0,.int .i64 0,.bool false,.int .i64 0]) ?_ 1 _ rfl;(with_reducible repeat (first|refine kN_ ?_ _|refine kD_ ?_|refine kA_ ?_ _));refine blk_put (cs:=#[.int .i64 0,.int .i64 0,.int .i64 0,.slice none 0 0,.int .i64 0,.int .i64 0,.bool false,.int .i64 0]) ?_ 0 _ rfl;(with_reducible repeat (first|refine kN_ ?_ _|refine kD_ ?_|refine kA_ ?_ _));exact BK286.out) hb);have n7_:=mk_ (bT_ (by repeat (first|(with_reducible first|exact HB.out|apply bA_|apply bN_|apply bD_|refine bS_ ?_ GE257.out|refine bS_ ?_ GE258.out|refine bS_ ?_ GE286.out)|exact HB.out)) hb);clear HO266;clear HO273;clear HO281;clear BK257;clear BK258;clear BK286;clear HB;have HO266:=n0_;have HO273:=n1_;have HO281:=n2_;have HO289:=n3_;have BK257:=n4_;have BK258:=n5_;have BK286:=n6_;have HB:=n7_;clear n0_ n1_ n2_ n3_ n4_ n5_ n6_ n7_;(try clear hb);(try clear hb2);(try clear hk);(try clear hi);(try clear ho0))|((with_reducible refine gate_dst (N:=8) rfl ?_);refine box_event ?hg (N:=8) ?hd (cs:=#[.slice none 0 0,.int .i64 0]) (t:=69) ?hr ?_;(case hd => rfl);(case hg => rfl);(case hr => first|(go_simp;done)|(go_simp;rfl));intro gb291 hg w122 hbox hb;have n0_:=mk_ (sB_ (by (with_reducible repeat (first|apply sA_|apply sN_|apply Kd.S_drew));exact HO266.out) hb);have n1_:=mk_ (Kd.R_below (by (with_reducible repeat (first|apply rA_|apply rN_|apply rD_));exact HO273.out) hb);have n2_:=mk_ (sB_ (by (with_reducible repeat (first|apply sA_|apply sN_|apply Kd.S_drew));exact HO281.out) hb);have n3_:=mk_ (Kd.R_below (by (with_reducible repeat (first|apply rA_|apply rN_|apply rD_));exact HO289.out) hb);have n4_:=mk_ (blk_below (g:=gb257) (o:=.cells #[.int .i64 a0_0,.int .i64 a0_1,.int .i64 a0_2,.slice A0_3 l0_3.length c0_3,.int .i64 a0_4,.int .i64 a0_5,.bool a0_6,.int .i64 a0_7] 26 (0,0)) (by (with_reducible repeat (first|refine kN_ ?_ _|refine kD_ ?_|refine kA_ ?_ _));exact BK257.out) hb);have n5_:=mk_ (blk_below (g:=gb258) (o:=.cells #[.slice A1_0 l1_0.length c1_0,.int .i64 a1_1] 66 (0,0)) (by (with_reducible repeat (first|refine kN_ ?_ _|refine kD_ ?_|refine kA_ ?_ _));exact BK258.out) hb);have n6_:=mk_ (blk_below (g:=gb286) (o:=.cells #[.int .i64 t276,.int .i64 t277,.int .i64 t278,.slice Ao119 t279.length co119,.int .i64 t282,.int .i64 t283,.bool t284,.int .i64 t285] 40 (0,0)) (by (with_reducible repeat (first|refine kN_ ?_ _|refine kD_ ?_|refine kA_ ?_ _));exact BK286.out) hb);have n7_:=mk_ (bT_ (by repeat (first|(with_reducible first|exact HB.out|apply bA_|apply bN_|apply bD_|refine bS_ ?_ GE257.out|refine bS_ ?_ GE258.out|refine bS_ ?_ GE286.out)|exact HB.out)) hb);have n8_:=mk_ (hbox);have n9_:=mk_ ((by rw [hg];exact (bZ_ (by repeat (first|(with_reducible first|exact HB.out|apply bA_|apply bN_|apply bD_|refine bS_ ?_ GE257.out|refine bS_ ?_ GE258.out|refine bS_ ?_ GE286.out)|exact HB.out))) : w.heap.size ≤ gb291));have n10_:=mk_ ((by rw [hg];exact (bZ_ (by repeat (first|(with_reducible first|exact HB.out|apply bA_|apply bN_|apply bD_|refine bS_ ?_ GE257.out|refine bS_ ?_ GE258.out|refine bS_ ?_ GE286.out)|exact HB.out))) : w.heap.size ≤ gb291));have n11_:=mk_ ((by rw [hg];exact Nat.ne_of_lt (blk_lt (g:=gb257) (o:=.cells #[.int .i64 a0_0,.int .i64 a0_1,.int .i64 a0_2,.slice A0_3 l0_3.length c0_3,.int .i64 a0_4,.int .i64 a0_5,.bool a0_6,.int .i64 a0_7] 26 (0,0)) (by (with_reducible repeat (first|refine kN_ ?_ _|refine kD_ ?_|refine kA_ ?_ _));exact BK257.out)) : gb257 ≠ gb291));have n12_:=mk_ ((by rw [hg];exact Nat.ne_of_gt (blk_lt (g:=gb257) (o:=.cells #[.int .i64 a0_0,.int .i64 a0_1,.int .i64 a0_2,.slice A0_3 l0_3.length c0_3,.int .i64 a0_4,.int .i64 a0_5,.bool a0_6,.int .i64 a0_7] 26 (0,0)) (by (with_reducible repeat (first|refine kN_ ?_ _|refine kD_ ?_|refine kA_ ?_ _));exact BK257.out)) : gb291 ≠ gb257));have n13_:=mk_ ((by rw [hg];exact Nat.ne_of_lt (blk_lt (g:=gb258) (o:=.cells #[.slice A1_0 l1_0.length c1_0,.int .i64 a1_1] 66 (0,0)) (by (with_reducible repeat (first|refine kN_ ?_ _|refine kD_ ?_|refine kA_ ?_ _));exact BK258.out)) : gb258 ≠ gb291));have n14_:=mk_ ((by rw [hg];exact Nat.ne_of_gt (blk_lt (g:=gb258) (o:=.cells #[.slice A1_0 l1_0.length c1_0,.int .i64 a1_1] 66 (0,0)) (by (with_reducible repeat (first|refine kN_ ?_ _|refine kD_ ?_|refine kA_ ?_ _));exact BK258.out)) : gb291 ≠ gb258));have n15_:=mk_ ((by rw [hg];exact Nat.ne_of_lt (blk_lt (g:=gb286) (o:=.cells #[.int .i64 t276,.int .i64 t277,.int .i64 t278,.slice Ao119 t279.length co119,.int .i64 t282,.int .i64 t283,.bool t284,.int .i64 t285] 40 (0,0)) (by (with_reducible repeat (first|refine kN_ ?_ _|refine kD_ ?_|refine kA_ ?_ _));exact BK286.out)) : gb286 ≠ gb291));have n16_:=mk_ ((by rw [hg];exact Nat.ne_of_gt (blk_lt (g:=gb286) (o:=.cells #[.int .i64 t276,.int .i64 t277,.int .i64 t278,.slice Ao119 t279.length co119,.int .i64 t282,.int .i64 t283,.bool t284,.int .i64 t285] 40 (0,0)) (by (with_reducible repeat (first|refine kN_ ?_ _|refine kD_ ?_|refine kA_ ?_ _));exact BK286.out)) : gb291 ≠ gb286));clear HO266;clear HO273;clear HO281;clear HO289;clear BK257;clear BK258;clear BK286;clear HB;have HO266:=n0_;have HO273:=n1_;have HO281:=n2_;have HO289:=n3_;have BK257:=n4_;have BK258:=n5_;have BK286:=n6_;have HB:=n7_;have BK291:=n8_;have GW291:=n9_;have GE291:=n10_;have NB257_291:=n11_;have NB291_257:=n12_;have NB258_291:=n13_;have NB291_258:=n14_;have NB286_291:=n15_;have NB291_286:=n16_;clear n0_ n1_ n2_ n3_ n4_ n5_ n6_ n7_ n8_ n9_ n10_ n11_ n12_ n13_ n14_ n15_ n16_;clear hb hbox hg;obtain ⟨Ao123,co123,eo123⟩:=Kd.R_slice HO289.out;subst eo123;have hnb124:=NB291_257.out;have hnc124:=NB257_291.out;have hnb125:=NB291_258.out;have hnc125:=NB258_291.out;have hnb126:=NB291_286.out;have hnc126:=NB286_291.out;have hcz127_0 : w122.cell? ⟨gb291,0,none⟩ = some (.slice none 0 0):=(blk_cell BK291.out 0).trans rfl;have hcz127_1 : w122.cell? ⟨gb291,1,none⟩ = some (.int .i64 0):=(blk_cell BK291.out 1).trans rfl;have hfz127_0:=fZ_ BK291.out 0;have hfz127_1:=fZ_ BK291.out 1;have hcz128_0 : w122.cell? ⟨gb286,0,none⟩ = some (.int .i64 t276):=(blk_cell BK286.out 0).trans rfl;have hcz128_1 : w122.cell? ⟨gb286,1,none⟩ = some (.int .i64 t277):=(blk_cell BK286.out 1).trans rfl;have hcz128_2 : w122.cell? ⟨gb286,2,none⟩ = some (.int .i64 t278):=(blk_cell BK286.out 2).trans rfl;have hcz128_3 : w122.cell? ⟨gb286,3,none⟩ = some (.slice Ao119 t279.length co119):=(blk_cell BK286.out 3).trans rfl;have hcz128_4 : w122.cell? ⟨gb286,4,none⟩ = some (.int .i64 t282):=(blk_cell BK286.out 4).trans rfl;have hcz128_5 : w122.cell? ⟨gb286,5,none⟩ = some (.int .i64 t283):=(blk_cell BK286.out 5).trans rfl;have hcz128_6 : w122.cell? ⟨gb286,6,none⟩ = some (.bool t284):=(blk_cell BK286.out 6).trans rfl;have hcz128_7 : w122.cell? ⟨gb286,7,none⟩ = some (.int .i64 t285):=(blk_cell BK286.out 7).trans rfl;have hfz128_0:=fZ_ BK286.out 0;have hfz128_1:=fZ_ BK286.out 1;have hfz128_2:=fZ_ BK286.out 2;have hfz128_3:=fZ_ BK286.out 3;have hfz128_4:=fZ_ BK286.out 4;have hfz128_5:=fZ_ BK286.out 5;have hfz128_6:=fZ_ BK286.out 6;have hfz128_7:=fZ_ BK286.out 7)|((with_reducible refine gate_callee (f:=36) rfl ?_);refine goesL_ (some 31) rfl rfl Try.func36 (by kernel_rfl) rfl #[.agg #[.int .i64 t276,.int .i64 t277,.int .i64 t278,.slice Ao119 t279.length co119,.int .i64 t282,.int .i64 t283,.bool t284,.int .i64 t285],.agg #[.slice Ao123 t287.length co123,.int .i64 t290]] rfl (by (try simp only [List.map_toArray,List.map_cons,List.map_nil]);first|done|rfl|(simp only [List.length_drop,List.length_take];rfl)) ?_;(with_reducible refine (impl_ValidWipe.calls k t276 t277 t278 _ _ t279 t282 t283 t284 t285 _ _ t287 t290 t292 _ ?side1 ?side2 ?side3 ?side4 A24.out).mono ?_);(case side1 => refine (Kd.S_reads' (e:=120) (base:=w.heap.size) (ok:=fun k_ => (True ∧ some k_ ≠ (.slice Ao110 t264.length co110 : Value).ownBlock)) (n:=t279.length) (c:=co119) ?_).2.2;exact (by (with_reducible repeat (first|apply sA_|apply sN_|apply Kd.S_drew));exact (Kd.S_mono (Kd.S_far (p:=⟨gb291,1,none⟩) (Kd.S_far (p:=⟨gb291,0,none⟩) (Kd.S_types HO281.out BK291.out (by decide)) (fun _ hk => hk.2) (.slice Ao123 t287.length co123)) (fun _ hk => hk.2) (.int .i64 t290)) (fun _ h_ => h_.1))));(case side2 => exact (Kd.S_reads' HO281.out).2.1);(case side3 => refine (Kd.R_reads' (e:=2) (base:=w.heap.size) (ok:=fun k_ => (True ∧ some k_ ≠ (.slice Ao111 t271.length co111 : Value).ownBlock)) (n:=t287.length) (c:=co123) ?_).2.2;exact (by (with_reducible repeat (first|apply rA_|apply rN_|apply rD_));exact (Kd.R_mono (Kd.R_far (p:=⟨gb291,1,none⟩) (Kd.R_far (p:=⟨gb291,0,none⟩) (Kd.R_types HO289.out BK291.out (by decide)) (fun _ hk => hk.2) (.slice Ao123 t287.length co123)) (fun _ hk => hk.2) (.int .i64 t290)) (fun _ h_ => h_.1))));(case side4 => exact (Kd.R_reads' HO289.out).2.1);rintro e w129 ⟨rfl,hb⟩;refine ⟨_,rfl,?_⟩;have n0_:=mk_ (sB_ (by (with_reducible repeat (first|apply sA_|apply sN_|apply Kd.S_drew));exact (Kd.S_mono (Kd.S_far (p:=⟨gb291,1,none⟩) (Kd.S_far (p:=⟨gb291,0,none⟩) (Kd.S_types HO266.out BK291.out (by decide)) (fun _ hk => hk.2) (.slice Ao123 t287.length co123)) (fun _ hk => hk.2) (.int .i64 t290)) (fun _ h_ => h_.1))) hb);have n1_:=mk_ (Kd.R_below (by (with_reducible repeat (first|apply rA_|apply rN_|apply rD_));exact (Kd.R_mono (Kd.R_far (p:=⟨gb291,1,none⟩) (Kd.R_far (p:=⟨gb291,0,none⟩) (Kd.R_types HO273.out BK291.out (by decide)) (fun _ hk => hk.2) (.slice Ao123 t287.length co123)) (fun _ hk => hk.2) (.int .i64 t290)) (fun _ h_ => h_.1))) hb);have n2_:=mk_ (sB_ (by (with_reducible repeat (first|apply sA_|apply sN_|apply Kd.S_drew));exact (Kd.S_mono (Kd.S_far (p:=⟨gb291,1,none⟩) (Kd.S_far (p:=⟨gb291,0,none⟩) (Kd.S_types HO281.out BK291.out (by decide)) (fun _ hk => hk.2) (.slice Ao123 t287.length co123)) (fun _ hk => hk.2) (.int .i64 t290)) (fun _ h_ => h_.1))) hb);have n3_:=mk_ (Kd.R_below (by (with_reducible repeat (first|apply rA_|apply rN_|apply rD_));exact (Kd.R_mono (Kd.R_far (p:=⟨gb291,1,none⟩) (Kd.R_far (p:=⟨gb291,0,none⟩) (Kd.R_types HO289.out BK291.out (by decide)) (fun _ hk => hk.2) (.slice Ao123 t287.length co123)) (fun _ hk => hk.2) (.int .i64 t290)) (fun _ h_ => h_.1))) hb);have n4_:=mk_ (blk_below (g:=gb257) (o:=.cells #[.int .i64 a0_0,.int .i64 a0_1,.int .i64 a0_2,.slice A0_3 l0_3.length c0_3,.int .i64 a0_4,.int .i64 a0_5,.bool a0_6,.int .i64 a0_7] 26 (0,0)) (by (with_reducible repeat (first|refine kN_ ?_ _|refine kD_ ?_|refine kA_ ?_ _));refine blk_far ?_ NB257_291.out _;(with_reducible repeat (first|refine kN_ ?_ _|refine kD_ ?_|refine kA_ ?_ _));refine blk_far ?_ NB257_291.out _;(with_reducible repeat (first|refine kN_ ?_ _|refine kD_ ?_|refine kA_ ?_ _));exact BK257.out) hb);have n5_:=mk_ (blk_below (g:=gb258) (o:=.cells #[.slice A1_0 l1_0.length c1_0,.int .i64 a1_1] 66 (0,0)) (by (with_reducible repeat (first|refine kN_ ?_ _|refine kD_ ?_|refine kA_ ?_ _));refine blk_far ?_ NB258_291.out _;(with_reducible repeat (first|refine kN_ ?_ _|refine kD_ ?_|refine kA_ ?_ _));refine blk_far ?_ NB258_291.out _;(with_reducible repeat (first|refine kN_ ?_ _|refine kD_ ?_|refine kA_ ?_ _));exact BK258.out) hb);have n6_:=mk_ (blk_below (g:=gb286) (o:=.cells #[.int .i64 t276,.int .i64 t277,.int .i64 t278,.slice Ao119 t279.length co119,.int .i64 t282,.int .i64 t283,.bool t284,.int .i64 t285] 40 (0,0)) (by (with_reducible repeat (first|refine kN_ ?_ _|refine kD_ ?_|refine kA_ ?_ _));refine blk_far ?_ NB286_291.out _;(with_reducible repeat (first|refine kN_ ?_ _|refine kD_ ?_|refine kA_ ?_ _));refine blk_far ?_ NB286_291.out _;(with_reducible repeat (first|refine kN_ ?_ _|refine kD_ ?_|refine kA_ ?_ _));exact BK286.out) hb);have n7_:=mk_ (blk_below (g:=gb291) (o:=.cells #[.slice Ao123 t287.length co123,.int .i64 t290] 69 (0,0)) (by (with_reducible repeat (first|refine kN_ ?_ _|refine kD_ ?_|refine kA_ ?_ _));refine blk_put (cs:=#[.slice Ao123 t287.length co123,.int .i64 0]) ?_ 1 _ rfl;(with_reducible repeat (first|refine kN_ ?_ _|refine kD_ ?_|refine kA_ ?_ _));refine blk_put (cs:=#[.slice none 0 0,.int .i64 0]) ?_ 0 _ rfl;(with_reducible repeat (first|refine kN_ ?_ _|refine kD_ ?_|refine kA_ ?_ _));exact BK291.out) hb);have n8_:=mk_ (bT_ (by repeat (first|(with_reducible first|exact HB.out|apply bA_|apply bN_|apply bD_|refine bS_ ?_ GE257.out|refine bS_ ?_ GE258.out|refine bS_ ?_ GE286.out|refine bS_ ?_ GE291.out)|exact HB.out)) hb);clear HO266;clear HO273;clear HO281;clear HO289;clear BK257;clear BK258;clear BK286;clear BK291;clear HB;have HO266:=n0_;have HO273:=n1_;have HO281:=n2_;have HO289:=n3_;have BK257:=n4_;have BK258:=n5_;have BK286:=n6_;have BK291:=n7_;have HB:=n8_;clear n0_ n1_ n2_ n3_ n4_ n5_ n6_ n7_ n8_;(try clear hb);(try clear hb2);(try clear hk);(try clear hi)))
            have n0_ := Aside0.mk (Kd.S_drew HO266.out)
            have n1_ := Aside0.mk (Kd.R_drew HO273.out)
            have n2_ := Aside0.mk (Kd.S_drew HO281.out)
            have n3_ := Aside0.mk (Kd.R_drew HO289.out)
            have n4_ := Aside0.mk (blk_drew BK257.out)
            have n5_ := Aside0.mk (blk_drew BK258.out)
            have n6_ := Aside0.mk (blk_drew BK286.out)
            have n7_ := Aside0.mk (blk_drew BK291.out)
            have n8_ := Aside0.mk (below_drew1 HB.out)
            clear HO266
            clear HO273
            clear HO281
            clear HO289
            clear BK257
            clear BK258
            clear BK286
            clear BK291
            clear HB
            have HO266 := n0_
            have HO273 := n1_
            have HO281 := n2_
            have HO289 := n3_
            have BK257 := n4_
            have BK258 := n5_
            have BK286 := n6_
            have BK291 := n7_
            have HB := n8_
            clear n0_ n1_ n2_ n3_ n4_ n5_ n6_ n7_ n8_
            refine start_ (n:=5) (S:=fun w' => w'.cell? ⟨gb286,0,none⟩ = some (.int .i64 t276) ∧ w'.cell? ⟨gb286,1,none⟩ = some (.int .i64 t277) ∧ w'.cell? ⟨gb286,2,none⟩ = some (.int .i64 t278) ∧ w'.cell? ⟨gb286,3,none⟩ = some (.slice Ao119 t279.length co119) ∧ w'.cell? ⟨gb286,4,none⟩ = some (.int .i64 t282) ∧ w'.cell? ⟨gb286,5,none⟩ = some (.int .i64 t283) ∧ w'.cell? ⟨gb286,6,none⟩ = some (.bool t284) ∧ w'.cell? ⟨gb286,7,none⟩ = some (.int .i64 t285) ∧ w'.cell? ⟨gb257,0,none⟩ = some (.int .i64 a0_0) ∧ w'.cell? ⟨gb257,1,none⟩ = some (.int .i64 a0_1) ∧ w'.cell? ⟨gb257,2,none⟩ = some (.int .i64 a0_2) ∧ w'.cell? ⟨gb257,3,none⟩ = some (.slice A0_3 l0_3.length c0_3) ∧ w'.cell? ⟨gb257,4,none⟩ = some (.int .i64 a0_4) ∧ w'.cell? ⟨gb257,5,none⟩ = some (.int .i64 a0_5) ∧ w'.cell? ⟨gb257,6,none⟩ = some (.bool a0_6) ∧ w'.cell? ⟨gb257,7,none⟩ = some (.int .i64 a0_7)) (ds:=[]) #[false,false,false,false,false] (by kernel_rfl) rfl rfl ⟨(blk_cell BK286.out 0).trans rfl,(blk_cell BK286.out 1).trans rfl,(blk_cell BK286.out 2).trans rfl,(blk_cell BK286.out 3).trans rfl,(blk_cell BK286.out 4).trans rfl,(blk_cell BK286.out 5).trans rfl,(blk_cell BK286.out 6).trans rfl,(blk_cell BK286.out 7).trans rfl,(blk_cell BK257.out 0).trans rfl,(blk_cell BK257.out 1).trans rfl,(blk_cell BK257.out 2).trans rfl,(blk_cell BK257.out 3).trans rfl,(blk_cell BK257.out 4).trans rfl,(blk_cell BK257.out 5).trans rfl,(blk_cell BK257.out 6).trans rfl,(blk_cell BK257.out 7).trans rfl⟩ (fun hHeld => ?_)
            generalize w129.drew = w130 at HO266 HO273 HO281 HO289 BK257 BK258 BK286 BK291 HB hHeld ⊢
            refine take_ (i := 0) (N := some 35) (v := ?_) (a' := ?_) #[true, false, false, false, false] rfl rfl (by kernel_rfl) (fun _ _ _ h => h) (Or.inl ⟨by rfl, ?_⟩) hHeld ?_ ?_
            rotate_left
            · rintro w' ⟨s0, s1, s2, s3, s4, s5, s6, s7, s8, s9, s10, s11, s12, s13, s14, s15⟩
              go_simp
              with_reducible rfl
            rotate_left
            · simp only [Act.put, List.setIfInBounds_toArray, List.set_cons_zero, List.set_cons_succ, i64_w, i32_w]
              rfl
            refine take_ (i := 1) (N := some 36) (v := ?_) (a' := ?_) #[true, true, false, false, false] rfl rfl (by kernel_rfl) (fun _ _ _ h => h) (Or.inl ⟨by rfl, ?_⟩) hHeld ?_ ?_
            rotate_left
            · rintro w' ⟨s0, s1, s2, s3, s4, s5, s6, s7, s8, s9, s10, s11, s12, s13, s14, s15⟩
              go_simp
              with_reducible rfl
            rotate_left
            · simp only [Act.put, List.setIfInBounds_toArray, List.set_cons_zero, List.set_cons_succ, i64_w, i32_w]
              rfl
            refine one_ (i := 2) (N := some 37) #[true, true, true, false, false] rfl rfl (by kernel_rfl) (by decide) (fun K hK => ?_)
            refine goes_ Try.func30 (by kernel_rfl) rfl #[.agg #[.int .i64 a0_0,.int .i64 a0_1,.int .i64 a0_2,.slice A0_3 l0_3.length c0_3,.int .i64 a0_4,.int .i64 a0_5,.bool a0_6,.int .i64 a0_7]] (by rfl) rfl rfl (by (try simp only [List.map_toArray,List.map_cons,List.map_nil]);first|done|rfl|(simp only [List.length_drop,List.length_take];rfl)) ?_
            with_reducible refine (laws_toFlash.calls k a0_0 a0_1 a0_2 _ _ l0_3 a0_4 a0_5 a0_6 a0_7 t293 t294 t295 t296 t299 t300 t301 t302 _ ?side1 ?side2 A56.out).mono ?_
            (case side1 => repeat (first|exact (Kd.C_below HR0_3.out HB.out)|(with_reducible refine cA_ ?_ _)|(with_reducible refine Kd.C_drewN ?_ _)|(with_reducible refine Kd.C_drew ?_)))
            (case side2 => exact HC0_3.out)
            rintro e w131 ⟨v297, rfl, ho0, hb⟩
            refine ⟨_, rfl, ?_⟩
            have n0_ := Aside0.mk (Kd.S_elder' (by (with_reducible repeat (first | apply Kd.S_alloc | apply Kd.S_drewN | apply Kd.S_drew)); exact HO266.out) (Kd.S_base ho0) hb)
            have n1_ := Aside0.mk (Kd.R_below (by (with_reducible repeat (first | apply Kd.R_alloc | apply Kd.R_drewN | apply Kd.R_drew)); exact HO273.out) hb)
            have n2_ := Aside0.mk (Kd.S_elder' (by (with_reducible repeat (first | apply Kd.S_alloc | apply Kd.S_drewN | apply Kd.S_drew)); exact HO281.out) (Kd.S_base ho0) hb)
            have n3_ := Aside0.mk (Kd.R_below (by (with_reducible repeat (first | apply Kd.R_alloc | apply Kd.R_drewN | apply Kd.R_drew)); exact HO289.out) hb)
            have n4_:=mk_ (Kd.S_lower (Kd.S_new' (Kd.S_new' ho0 (Kd.S_lt (by (with_reducible repeat (first|apply sA_|apply sN_|apply Kd.S_drew));exact HO266.out))) (Kd.S_lt (by (with_reducible repeat (first|apply sA_|apply sN_|apply Kd.S_drew));exact HO281.out))) (bZ_ (by repeat (first|(with_reducible first|exact HB.out|apply bA_|apply bN_|apply bD_|refine bS_ ?_ GE257.out|refine bS_ ?_ GE258.out|refine bS_ ?_ GE286.out|refine bS_ ?_ GE291.out)|exact HB.out))))
            have n5_:=mk_ (blk_below (g:=gb257) (o:=.cells #[.int .i64 a0_0,.int .i64 a0_1,.int .i64 a0_2,.slice A0_3 l0_3.length c0_3,.int .i64 a0_4,.int .i64 a0_5,.bool a0_6,.int .i64 a0_7] 26 (0,0)) (by (with_reducible repeat (first|refine kN_ ?_ _|refine kD_ ?_|refine kA_ ?_ _));exact BK257.out) hb)
            have n6_:=mk_ (blk_below (g:=gb258) (o:=.cells #[.slice A1_0 l1_0.length c1_0,.int .i64 a1_1] 66 (0,0)) (by (with_reducible repeat (first|refine kN_ ?_ _|refine kD_ ?_|refine kA_ ?_ _));exact BK258.out) hb)
            have n7_:=mk_ (blk_below (g:=gb286) (o:=.cells #[.int .i64 t276,.int .i64 t277,.int .i64 t278,.slice Ao119 t279.length co119,.int .i64 t282,.int .i64 t283,.bool t284,.int .i64 t285] 40 (0,0)) (by (with_reducible repeat (first|refine kN_ ?_ _|refine kD_ ?_|refine kA_ ?_ _));exact BK286.out) hb)
            have n8_:=mk_ (blk_below (g:=gb291) (o:=.cells #[.slice Ao123 t287.length co123,.int .i64 t290] 69 (0,0)) (by (with_reducible repeat (first|refine kN_ ?_ _|refine kD_ ?_|refine kA_ ?_ _));exact BK291.out) hb)
            have n9_:=mk_ (bT_ (by repeat (first|(with_reducible first|exact HB.out|apply bA_|apply bN_|apply bD_|refine bS_ ?_ GE257.out|refine bS_ ?_ GE258.out|refine bS_ ?_ GE286.out|refine bS_ ?_ GE291.out)|exact HB.out)) hb)
            clear HO266
            clear HO273
            clear HO281
            clear HO289
            clear BK257
            clear BK258
            clear BK286
            clear BK291
            clear HB
            have HO266 := n0_
            have HO273 := n1_
            have HO281 := n2_
            have HO289 := n3_
            have HO298 := n4_
            have BK257 := n5_
            have BK258 := n6_
            have BK286 := n7_
            have BK291 := n8_
            have HB := n9_
            clear n0_ n1_ n2_ n3_ n4_ n5_ n6_ n7_ n8_ n9_
            (try clear hb)
            (try clear hb2)
            (try clear hk)
            (try clear hi)
            (try clear ho0)
            obtain ⟨Ao132, co132, eo132⟩ := Kd.S_slice HO298.out
            (first | subst eo132 | (injection eo132 with f1_ f2_ f3_; have f4_ := f1_.symm; have f5_ := f3_.symm; clear f1_ f2_ f3_; subst f4_; subst f5_))
            refine hK.out _ _ ⟨(blk_cell BK286.out 0).trans rfl,(blk_cell BK286.out 1).trans rfl,(blk_cell BK286.out 2).trans rfl,(blk_cell BK286.out 3).trans rfl,(blk_cell BK286.out 4).trans rfl,(blk_cell BK286.out 5).trans rfl,(blk_cell BK286.out 6).trans rfl,(blk_cell BK286.out 7).trans rfl,(blk_cell BK257.out 0).trans rfl,(blk_cell BK257.out 1).trans rfl,(blk_cell BK257.out 2).trans rfl,(blk_cell BK257.out 3).trans rfl,(blk_cell BK257.out 4).trans rfl,(blk_cell BK257.out 5).trans rfl,(blk_cell BK257.out 6).trans rfl,(blk_cell BK257.out 7).trans rfl⟩ (fun hHeld => ?_)
            clear hK K
            refine norm_ (a' := ?_) ?_ ?_
            rotate_left
            · show Act.put _ (some 37) _ = _
              simp only [Act.put, List.setIfInBounds_toArray, List.set_cons_zero, List.set_cons_succ, i64_w, i32_w]
              rfl
            refine one_ (i := 3) (N := some 38) #[true, true, true, true, false] rfl rfl (by kernel_rfl) (by decide) (fun K hK => ?_)
            refine goes_ Try.func32 (by kernel_rfl) rfl #[.agg #[.int .i64 t276,.int .i64 t277,.int .i64 t278,.slice Ao119 t279.length co119,.int .i64 t282,.int .i64 t283,.bool t284,.int .i64 t285],.agg #[.int .i64 t293,.int .i64 t294,.int .i64 t295,.slice Ao132 t296.length co132,.int .i64 t299,.int .i64 t300,.bool t301,.int .i64 t302]] (by rfl) rfl rfl (by (try simp only [List.map_toArray,List.map_cons,List.map_nil]);first|done|rfl|(simp only [List.length_drop,List.length_take];rfl)) ?_
            with_reducible refine (laws_eqFlash.calls k t276 t277 t278 _ _ t279 t282 t283 t284 t285 t293 t294 t295 _ _ t296 t299 t300 t301 t302 true _ ?side1 ?side2 ?side3 ?side4 A57.out).mono ?_
            (case side1 => repeat (first|exact (Kd.S_reads' HO281.out).2.2|(with_reducible refine cA_ ?_ _)|(with_reducible refine Kd.C_drewN ?_ _)|(with_reducible refine Kd.C_drew ?_)))
            (case side2 => exact (Kd.S_reads' HO281.out).2.1)
            (case side3 => repeat (first|exact (Kd.S_reads' HO298.out).2.2|(with_reducible refine cA_ ?_ _)|(with_reducible refine Kd.C_drewN ?_ _)|(with_reducible refine Kd.C_drew ?_)))
            (case side4 => exact (Kd.S_reads' HO298.out).2.1)
            rintro e w133 ⟨rfl, hb⟩
            refine ⟨_, rfl, ?_⟩
            have n0_ := Aside0.mk (Kd.S_below (by (with_reducible repeat (first | apply Kd.S_alloc | apply Kd.S_drewN | apply Kd.S_drew)); exact HO266.out) hb)
            have n1_ := Aside0.mk (Kd.R_below (by (with_reducible repeat (first | apply Kd.R_alloc | apply Kd.R_drewN | apply Kd.R_drew)); exact HO273.out) hb)
            have n2_ := Aside0.mk (Kd.S_below (by (with_reducible repeat (first | apply Kd.S_alloc | apply Kd.S_drewN | apply Kd.S_drew)); exact HO281.out) hb)
            have n3_ := Aside0.mk (Kd.R_below (by (with_reducible repeat (first | apply Kd.R_alloc | apply Kd.R_drewN | apply Kd.R_drew)); exact HO289.out) hb)
            have n4_ := Aside0.mk (Kd.S_below (by (with_reducible repeat (first | apply Kd.S_alloc | apply Kd.S_drewN | apply Kd.S_drew)); exact HO298.out) hb)
            have n5_:=mk_ (blk_below (g:=gb257) (o:=.cells #[.int .i64 a0_0,.int .i64 a0_1,.int .i64 a0_2,.slice A0_3 l0_3.length c0_3,.int .i64 a0_4,.int .i64 a0_5,.bool a0_6,.int .i64 a0_7] 26 (0,0)) (by (with_reducible repeat (first|refine kN_ ?_ _|refine kD_ ?_|refine kA_ ?_ _));exact BK257.out) hb)
            have n6_:=mk_ (blk_below (g:=gb258) (o:=.cells #[.slice A1_0 l1_0.length c1_0,.int .i64 a1_1] 66 (0,0)) (by (with_reducible repeat (first|refine kN_ ?_ _|refine kD_ ?_|refine kA_ ?_ _));exact BK258.out) hb)
            have n7_:=mk_ (blk_below (g:=gb286) (o:=.cells #[.int .i64 t276,.int .i64 t277,.int .i64 t278,.slice Ao119 t279.length co119,.int .i64 t282,.int .i64 t283,.bool t284,.int .i64 t285] 40 (0,0)) (by (with_reducible repeat (first|refine kN_ ?_ _|refine kD_ ?_|refine kA_ ?_ _));exact BK286.out) hb)
            have n8_:=mk_ (blk_below (g:=gb291) (o:=.cells #[.slice Ao123 t287.length co123,.int .i64 t290] 69 (0,0)) (by (with_reducible repeat (first|refine kN_ ?_ _|refine kD_ ?_|refine kA_ ?_ _));exact BK291.out) hb)
            have n9_:=mk_ (bT_ (by repeat (first|(with_reducible first|exact HB.out|apply bA_|apply bN_|apply bD_|refine bS_ ?_ GE257.out|refine bS_ ?_ GE258.out|refine bS_ ?_ GE286.out|refine bS_ ?_ GE291.out)|exact HB.out)) hb)
            clear HO266
            clear HO273
            clear HO281
            clear HO289
            clear HO298
            clear BK257
            clear BK258
            clear BK286
            clear BK291
            clear HB
            have HO266 := n0_
            have HO273 := n1_
            have HO281 := n2_
            have HO289 := n3_
            have HO298 := n4_
            have BK257 := n5_
            have BK258 := n6_
            have BK286 := n7_
            have BK291 := n8_
            have HB := n9_
            clear n0_ n1_ n2_ n3_ n4_ n5_ n6_ n7_ n8_ n9_
            (try clear hb)
            (try clear hb2)
            (try clear hk)
            (try clear hi)
            refine hK.out _ _ ⟨(blk_cell BK286.out 0).trans rfl,(blk_cell BK286.out 1).trans rfl,(blk_cell BK286.out 2).trans rfl,(blk_cell BK286.out 3).trans rfl,(blk_cell BK286.out 4).trans rfl,(blk_cell BK286.out 5).trans rfl,(blk_cell BK286.out 6).trans rfl,(blk_cell BK286.out 7).trans rfl,(blk_cell BK257.out 0).trans rfl,(blk_cell BK257.out 1).trans rfl,(blk_cell BK257.out 2).trans rfl,(blk_cell BK257.out 3).trans rfl,(blk_cell BK257.out 4).trans rfl,(blk_cell BK257.out 5).trans rfl,(blk_cell BK257.out 6).trans rfl,(blk_cell BK257.out 7).trans rfl⟩ (fun hHeld => ?_)
            clear hK K
            refine norm_ (a' := ?_) ?_ ?_
            rotate_left
            · show Act.put _ (some 38) _ = _
              simp only [Act.put, List.setIfInBounds_toArray, List.set_cons_zero, List.set_cons_succ, i64_w, i32_w]
              rfl
            refine pure_ (i := 4) (N := some 39) (v := ?_) (a' := ?_) #[true, true, true, true, true] rfl rfl (by kernel_rfl) (fun _ _ _ h => h) (Or.inl ⟨by rfl, ?_⟩) ?_ ?_
            rotate_left
            · intro w'
              go_simp
              with_reducible rfl
            rotate_left
            · simp only [Act.put, List.setIfInBounds_toArray, List.set_cons_zero, List.set_cons_succ, i64_w, i32_w]
              rfl
            refine done_ (by kernel_rfl) ?_
            try go_wp2
            have n0_ := Aside0.mk (Kd.S_drew HO266.out)
            have n1_ := Aside0.mk (Kd.R_drew HO273.out)
            have n2_ := Aside0.mk (Kd.S_drew HO281.out)
            have n3_ := Aside0.mk (Kd.R_drew HO289.out)
            have n4_ := Aside0.mk (Kd.S_drew HO298.out)
            have n5_ := Aside0.mk (blk_drew BK257.out)
            have n6_ := Aside0.mk (blk_drew BK258.out)
            have n7_ := Aside0.mk (blk_drew BK286.out)
            have n8_ := Aside0.mk (blk_drew BK291.out)
            have n9_ := Aside0.mk (below_drew1 HB.out)
            clear HO266
            clear HO273
            clear HO281
            clear HO289
            clear HO298
            clear BK257
            clear BK258
            clear BK286
            clear BK291
            clear HB
            have HO266 := n0_
            have HO273 := n1_
            have HO281 := n2_
            have HO289 := n3_
            have HO298 := n4_
            have BK257 := n5_
            have BK258 := n6_
            have BK286 := n7_
            have BK291 := n8_
            have HB := n9_
            clear n0_ n1_ n2_ n3_ n4_ n5_ n6_ n7_ n8_ n9_
            refine start_ (n:=5) (S:=fun w' => w'.cell? ⟨gb291,0,none⟩ = some (.slice Ao123 t287.length co123) ∧ w'.cell? ⟨gb291,1,none⟩ = some (.int .i64 t290) ∧ w'.cell? ⟨gb258,0,none⟩ = some (.slice A1_0 l1_0.length c1_0) ∧ w'.cell? ⟨gb258,1,none⟩ = some (.int .i64 a1_1)) (ds:=[]) #[false,false,false,false,false] (by kernel_rfl) rfl rfl ⟨(blk_cell BK291.out 0).trans rfl,(blk_cell BK291.out 1).trans rfl,(blk_cell BK258.out 0).trans rfl,(blk_cell BK258.out 1).trans rfl⟩ (fun hHeld => ?_)
            generalize w133.drew = w134 at HO266 HO273 HO281 HO289 HO298 BK257 BK258 BK286 BK291 HB hHeld ⊢
            refine take_ (i := 0) (N := some 40) (v := ?_) (a' := ?_) #[true, false, false, false, false] rfl rfl (by kernel_rfl) (fun _ _ _ h => h) (Or.inl ⟨by rfl, ?_⟩) hHeld ?_ ?_
            rotate_left
            · rintro w' ⟨s0, s1, s2, s3⟩
              go_simp
              with_reducible rfl
            rotate_left
            · simp only [Act.put, List.setIfInBounds_toArray, List.set_cons_zero, List.set_cons_succ, i64_w, i32_w]
              rfl
            refine take_ (i := 1) (N := some 41) (v := ?_) (a' := ?_) #[true, true, false, false, false] rfl rfl (by kernel_rfl) (fun _ _ _ h => h) (Or.inl ⟨by rfl, ?_⟩) hHeld ?_ ?_
            rotate_left
            · rintro w' ⟨s0, s1, s2, s3⟩
              go_simp
              with_reducible rfl
            rotate_left
            · simp only [Act.put, List.setIfInBounds_toArray, List.set_cons_zero, List.set_cons_succ, i64_w, i32_w]
              rfl
            refine one_ (i := 2) (N := some 42) #[true, true, true, false, false] rfl rfl (by kernel_rfl) (by decide) (fun K hK => ?_)
            refine goes_ Try.func35 (by kernel_rfl) rfl #[.agg #[.slice A1_0 l1_0.length c1_0,.int .i64 a1_1]] (by rfl) rfl rfl (by (try simp only [List.map_toArray,List.map_cons,List.map_nil]);first|done|rfl|(simp only [List.length_drop,List.length_take];rfl)) ?_
            with_reducible refine (laws_toWipe.calls k _ _ l1_0 a1_1 t304 t307 _ ?side1 ?side2 A59.out).mono ?_
            (case side1 => repeat (first|exact (Kd.C_below HR1_0.out HB.out)|(with_reducible refine cA_ ?_ _)|(with_reducible refine Kd.C_drewN ?_ _)|(with_reducible refine Kd.C_drew ?_)))
            (case side2 => exact HC1_0.out)
            rintro e w135 ⟨v305, rfl, ho0, hb⟩
            refine ⟨_, rfl, ?_⟩
            have n0_ := Aside0.mk (Kd.S_below (by (with_reducible repeat (first | apply Kd.S_alloc | apply Kd.S_drewN | apply Kd.S_drew)); exact HO266.out) hb)
            have n1_ := Aside0.mk (Kd.R_elder' (by (with_reducible repeat (first | apply Kd.R_alloc | apply Kd.R_drewN | apply Kd.R_drew)); exact HO273.out) (Kd.R_base ho0) hb)
            have n2_ := Aside0.mk (Kd.S_below (by (with_reducible repeat (first | apply Kd.S_alloc | apply Kd.S_drewN | apply Kd.S_drew)); exact HO281.out) hb)
            have n3_ := Aside0.mk (Kd.R_elder' (by (with_reducible repeat (first | apply Kd.R_alloc | apply Kd.R_drewN | apply Kd.R_drew)); exact HO289.out) (Kd.R_base ho0) hb)
            have n4_ := Aside0.mk (Kd.S_below (by (with_reducible repeat (first | apply Kd.S_alloc | apply Kd.S_drewN | apply Kd.S_drew)); exact HO298.out) hb)
            have n5_:=mk_ (Kd.R_lower (Kd.R_new' (Kd.R_new' ho0 (Kd.R_lt (by (with_reducible repeat (first|apply rA_|apply rN_|apply rD_));exact HO273.out))) (Kd.R_lt (by (with_reducible repeat (first|apply rA_|apply rN_|apply rD_));exact HO289.out))) (bZ_ (by repeat (first|(with_reducible first|exact HB.out|apply bA_|apply bN_|apply bD_|refine bS_ ?_ GE257.out|refine bS_ ?_ GE258.out|refine bS_ ?_ GE286.out|refine bS_ ?_ GE291.out)|exact HB.out))))
            have n6_:=mk_ (blk_below (g:=gb257) (o:=.cells #[.int .i64 a0_0,.int .i64 a0_1,.int .i64 a0_2,.slice A0_3 l0_3.length c0_3,.int .i64 a0_4,.int .i64 a0_5,.bool a0_6,.int .i64 a0_7] 26 (0,0)) (by (with_reducible repeat (first|refine kN_ ?_ _|refine kD_ ?_|refine kA_ ?_ _));exact BK257.out) hb)
            have n7_:=mk_ (blk_below (g:=gb258) (o:=.cells #[.slice A1_0 l1_0.length c1_0,.int .i64 a1_1] 66 (0,0)) (by (with_reducible repeat (first|refine kN_ ?_ _|refine kD_ ?_|refine kA_ ?_ _));exact BK258.out) hb)
            have n8_:=mk_ (blk_below (g:=gb286) (o:=.cells #[.int .i64 t276,.int .i64 t277,.int .i64 t278,.slice Ao119 t279.length co119,.int .i64 t282,.int .i64 t283,.bool t284,.int .i64 t285] 40 (0,0)) (by (with_reducible repeat (first|refine kN_ ?_ _|refine kD_ ?_|refine kA_ ?_ _));exact BK286.out) hb)
            have n9_:=mk_ (blk_below (g:=gb291) (o:=.cells #[.slice Ao123 t287.length co123,.int .i64 t290] 69 (0,0)) (by (with_reducible repeat (first|refine kN_ ?_ _|refine kD_ ?_|refine kA_ ?_ _));exact BK291.out) hb)
            have n10_:=mk_ (bT_ (by repeat (first|(with_reducible first|exact HB.out|apply bA_|apply bN_|apply bD_|refine bS_ ?_ GE257.out|refine bS_ ?_ GE258.out|refine bS_ ?_ GE286.out|refine bS_ ?_ GE291.out)|exact HB.out)) hb)
            clear HO266
            clear HO273
            clear HO281
            clear HO289
            clear HO298
            clear BK257
            clear BK258
            clear BK286
            clear BK291
            clear HB
            have HO266 := n0_
            have HO273 := n1_
            have HO281 := n2_
            have HO289 := n3_
            have HO298 := n4_
            have HO306 := n5_
            have BK257 := n6_
            have BK258 := n7_
            have BK286 := n8_
            have BK291 := n9_
            have HB := n10_
            clear n0_ n1_ n2_ n3_ n4_ n5_ n6_ n7_ n8_ n9_ n10_
            (try clear hb)
            (try clear hb2)
            (try clear hk)
            (try clear hi)
            (try clear ho0)
            obtain ⟨Ao136, co136, eo136⟩ := Kd.R_slice HO306.out
            (first | subst eo136 | (injection eo136 with f1_ f2_ f3_; have f4_ := f1_.symm; have f5_ := f3_.symm; clear f1_ f2_ f3_; subst f4_; subst f5_))
            refine hK.out _ _ ⟨(blk_cell BK291.out 0).trans rfl, (blk_cell BK291.out 1).trans rfl, (blk_cell BK258.out 0).trans rfl, (blk_cell BK258.out 1).trans rfl⟩ (fun hHeld => ?_)
            clear hK K
            refine norm_ (a' := ?_) ?_ ?_
            rotate_left
            · show Act.put _ (some 42) _ = _
              simp only [Act.put, List.setIfInBounds_toArray, List.set_cons_zero, List.set_cons_succ, i64_w, i32_w]
              rfl
            refine one_ (i := 3) (N := some 43) #[true, true, true, true, false] rfl rfl (by kernel_rfl) (by decide) (fun K hK => ?_)
            refine goes_ Try.func37 (by kernel_rfl) rfl #[.agg #[.slice Ao123 t287.length co123,.int .i64 t290],.agg #[.slice Ao136 t304.length co136,.int .i64 t307]] (by rfl) rfl rfl (by (try simp only [List.map_toArray,List.map_cons,List.map_nil]);first|done|rfl|(simp only [List.length_drop,List.length_take];rfl)) ?_
            with_reducible refine (laws_eqWipe.calls k _ _ t287 t290 _ _ t304 t307 false _ ?side1 ?side2 ?side3 ?side4 A60.out).mono ?_
            (case side1 => repeat (first|exact (Kd.R_reads' HO289.out).2.2|(with_reducible refine cA_ ?_ _)|(with_reducible refine Kd.C_drewN ?_ _)|(with_reducible refine Kd.C_drew ?_)))
            (case side2 => exact (Kd.R_reads' HO289.out).2.1)
            (case side3 => repeat (first|exact (Kd.R_reads' HO306.out).2.2|(with_reducible refine cA_ ?_ _)|(with_reducible refine Kd.C_drewN ?_ _)|(with_reducible refine Kd.C_drew ?_)))
            (case side4 => exact (Kd.R_reads' HO306.out).2.1)
            rintro e w137 ⟨rfl, hb⟩
            refine ⟨_, rfl, ?_⟩
            have n0_ := Aside0.mk (Kd.S_below (by (with_reducible repeat (first | apply Kd.S_alloc | apply Kd.S_drewN | apply Kd.S_drew)); exact HO266.out) hb)
            have n1_ := Aside0.mk (Kd.R_below (by (with_reducible repeat (first | apply Kd.R_alloc | apply Kd.R_drewN | apply Kd.R_drew)); exact HO273.out) hb)
            have n2_ := Aside0.mk (Kd.S_below (by (with_reducible repeat (first | apply Kd.S_alloc | apply Kd.S_drewN | apply Kd.S_drew)); exact HO281.out) hb)
            have n3_ := Aside0.mk (Kd.R_below (by (with_reducible repeat (first | apply Kd.R_alloc | apply Kd.R_drewN | apply Kd.R_drew)); exact HO289.out) hb)
            have n4_ := Aside0.mk (Kd.S_below (by (with_reducible repeat (first | apply Kd.S_alloc | apply Kd.S_drewN | apply Kd.S_drew)); exact HO298.out) hb)
            have n5_ := Aside0.mk (Kd.R_below (by (with_reducible repeat (first | apply Kd.R_alloc | apply Kd.R_drewN | apply Kd.R_drew)); exact HO306.out) hb)
            have n6_:=mk_ (blk_below (g:=gb257) (o:=.cells #[.int .i64 a0_0,.int .i64 a0_1,.int .i64 a0_2,.slice A0_3 l0_3.length c0_3,.int .i64 a0_4,.int .i64 a0_5,.bool a0_6,.int .i64 a0_7] 26 (0,0)) (by (with_reducible repeat (first|refine kN_ ?_ _|refine kD_ ?_|refine kA_ ?_ _));exact BK257.out) hb)
            have n7_:=mk_ (blk_below (g:=gb258) (o:=.cells #[.slice A1_0 l1_0.length c1_0,.int .i64 a1_1] 66 (0,0)) (by (with_reducible repeat (first|refine kN_ ?_ _|refine kD_ ?_|refine kA_ ?_ _));exact BK258.out) hb)
            have n8_:=mk_ (blk_below (g:=gb286) (o:=.cells #[.int .i64 t276,.int .i64 t277,.int .i64 t278,.slice Ao119 t279.length co119,.int .i64 t282,.int .i64 t283,.bool t284,.int .i64 t285] 40 (0,0)) (by (with_reducible repeat (first|refine kN_ ?_ _|refine kD_ ?_|refine kA_ ?_ _));exact BK286.out) hb)
            have n9_:=mk_ (blk_below (g:=gb291) (o:=.cells #[.slice Ao123 t287.length co123,.int .i64 t290] 69 (0,0)) (by (with_reducible repeat (first|refine kN_ ?_ _|refine kD_ ?_|refine kA_ ?_ _));exact BK291.out) hb)
            have n10_:=mk_ (bT_ (by repeat (first|(with_reducible first|exact HB.out|apply bA_|apply bN_|apply bD_|refine bS_ ?_ GE257.out|refine bS_ ?_ GE258.out|refine bS_ ?_ GE286.out|refine bS_ ?_ GE291.out)|exact HB.out)) hb)
            clear HO266
            clear HO273
            clear HO281
            clear HO289
            clear HO298
            clear HO306
            clear BK257
            clear BK258
            clear BK286
            clear BK291
            clear HB
            have HO266 := n0_
            have HO273 := n1_
            have HO281 := n2_
            have HO289 := n3_
            have HO298 := n4_
            have HO306 := n5_
            have BK257 := n6_
            have BK258 := n7_
            have BK286 := n8_
            have BK291 := n9_
            have HB := n10_
            clear n0_ n1_ n2_ n3_ n4_ n5_ n6_ n7_ n8_ n9_ n10_
            (try clear hb)
            (try clear hb2)
            (try clear hk)
            (try clear hi)
            refine hK.out _ _ ⟨(blk_cell BK291.out 0).trans rfl, (blk_cell BK291.out 1).trans rfl, (blk_cell BK258.out 0).trans rfl, (blk_cell BK258.out 1).trans rfl⟩ (fun hHeld => ?_)
            clear hK K
            refine norm_ (a' := ?_) ?_ ?_
            rotate_left
            · show Act.put _ (some 43) _ = _
              simp only [Act.put, List.setIfInBounds_toArray, List.set_cons_zero, List.set_cons_succ, i64_w, i32_w]
              rfl
            refine pure_ (i := 4) (N := some 44) (v := ?_) (a' := ?_) #[true, true, true, true, true] rfl rfl (by kernel_rfl) (fun _ _ _ h => h) (Or.inl ⟨by rfl, ?_⟩) ?_ ?_
            rotate_left
            · intro w'
              go_simp
              with_reducible rfl
            rotate_left
            · simp only [Act.put, List.setIfInBounds_toArray, List.set_cons_zero, List.set_cons_succ, i64_w, i32_w]
              rfl
            refine done_ (by kernel_rfl) ?_
            try go_wp2
            go_ret
            exact ⟨by first|rfl|(simp [errW_none,errW_some] <;> rfl)|(simp [*,errW_none,errW_some] <;> rfl),by repeat (first|(with_reducible first|exact HB.out|apply bA_|apply bN_|apply bD_|refine bS_ ?_ GE257.out|refine bS_ ?_ GE258.out|refine bS_ ?_ GE286.out|refine bS_ ?_ GE291.out)|exact HB.out)⟩
        · replace c58 := Bool.eq_false_iff.mpr c58
          subst c58
          have H1 : (some false) = some r := by rw [if_neg (show ¬ (false = true) by decide)] at H; exact H
          clear H
          have H := H1
          clear H1
          obtain rfl := Option.some.inj H
          go_enter Try.func6, Try.ntmps6
          try go_wp2_with (first|((with_reducible refine gate_dst (N:=2) rfl ?_);refine box_event ?hg (N:=2) ?hd (cs:=#[.int .i64 a0_0,.int .i64 a0_1,.int .i64 a0_2,.slice A0_3 l0_3.length c0_3,.int .i64 a0_4,.int .i64 a0_5,.bool a0_6,.int .i64 a0_7]) (t:=26) ?hr ?_;(case hd => rfl);(case hg => rfl);(case hr => first|(go_simp;done)|(go_simp;rfl));intro gb257 hg w138 hbox hb;have n0_:=mk_ (bT_ (by repeat (first|(with_reducible first|exact HB.out|apply bA_|apply bN_|apply bD_)|exact HB.out)) hb);have n1_:=mk_ (hbox);have n2_:=mk_ ((by rw [hg];exact (bZ_ (by repeat (first|(with_reducible first|exact HB.out|apply bA_|apply bN_|apply bD_)|exact HB.out))) : w.heap.size ≤ gb257));have n3_:=mk_ ((by rw [hg];exact (bZ_ (by repeat (first|(with_reducible first|exact HB.out|apply bA_|apply bN_|apply bD_)|exact HB.out))) : w.heap.size ≤ gb257));clear HB;have HB:=n0_;have BK257:=n1_;have GW257:=n2_;have GE257:=n3_;clear n0_ n1_ n2_ n3_;clear hb hbox hg)|((with_reducible refine gate_dst (N:=3) rfl ?_);refine box_event ?hg (N:=3) ?hd (cs:=#[.slice A1_0 l1_0.length c1_0,.int .i64 a1_1]) (t:=66) ?hr ?_;(case hd => rfl);(case hg => rfl);(case hr => first|(go_simp;done)|(go_simp;rfl));intro gb258 hg w139 hbox hb;have n0_:=mk_ (blk_below (g:=gb257) (o:=.cells #[.int .i64 a0_0,.int .i64 a0_1,.int .i64 a0_2,.slice A0_3 l0_3.length c0_3,.int .i64 a0_4,.int .i64 a0_5,.bool a0_6,.int .i64 a0_7] 26 (0,0)) (by (with_reducible repeat (first|refine kN_ ?_ _|refine kD_ ?_|refine kA_ ?_ _));exact BK257.out) hb);have n1_:=mk_ (bT_ (by repeat (first|(with_reducible first|exact HB.out|apply bA_|apply bN_|apply bD_|refine bS_ ?_ GE257.out)|exact HB.out)) hb);have n2_:=mk_ (hbox);have n3_:=mk_ ((by rw [hg];exact (bZ_ (by repeat (first|(with_reducible first|exact HB.out|apply bA_|apply bN_|apply bD_|refine bS_ ?_ GE257.out)|exact HB.out))) : w.heap.size ≤ gb258));have n4_:=mk_ ((by rw [hg];exact (bZ_ (by repeat (first|(with_reducible first|exact HB.out|apply bA_|apply bN_|apply bD_|refine bS_ ?_ GE257.out)|exact HB.out))) : w.heap.size ≤ gb258));have n5_:=mk_ ((by rw [hg];exact Nat.ne_of_lt (blk_lt (g:=gb257) (o:=.cells #[.int .i64 a0_0,.int .i64 a0_1,.int .i64 a0_2,.slice A0_3 l0_3.length c0_3,.int .i64 a0_4,.int .i64 a0_5,.bool a0_6,.int .i64 a0_7] 26 (0,0)) (by (with_reducible repeat (first|refine kN_ ?_ _|refine kD_ ?_|refine kA_ ?_ _));exact BK257.out)) : gb257 ≠ gb258));have n6_:=mk_ ((by rw [hg];exact Nat.ne_of_gt (blk_lt (g:=gb257) (o:=.cells #[.int .i64 a0_0,.int .i64 a0_1,.int .i64 a0_2,.slice A0_3 l0_3.length c0_3,.int .i64 a0_4,.int .i64 a0_5,.bool a0_6,.int .i64 a0_7] 26 (0,0)) (by (with_reducible repeat (first|refine kN_ ?_ _|refine kD_ ?_|refine kA_ ?_ _));exact BK257.out)) : gb258 ≠ gb257));clear BK257;clear HB;have BK257:=n0_;have HB:=n1_;have BK258:=n2_;have GW258:=n3_;have GE258:=n4_;have NB257_258:=n5_;have NB258_257:=n6_;clear n0_ n1_ n2_ n3_ n4_ n5_ n6_;clear hb hbox hg;have hnb140:=NB257_258.out;have hnc140:=NB258_257.out;have hcz141_0 : w139.cell? ⟨gb257,0,none⟩ = some (.int .i64 a0_0):=(blk_cell BK257.out 0).trans rfl;have hcz141_1 : w139.cell? ⟨gb257,1,none⟩ = some (.int .i64 a0_1):=(blk_cell BK257.out 1).trans rfl;have hcz141_2 : w139.cell? ⟨gb257,2,none⟩ = some (.int .i64 a0_2):=(blk_cell BK257.out 2).trans rfl;have hcz141_3 : w139.cell? ⟨gb257,3,none⟩ = some (.slice A0_3 l0_3.length c0_3):=(blk_cell BK257.out 3).trans rfl;have hcz141_4 : w139.cell? ⟨gb257,4,none⟩ = some (.int .i64 a0_4):=(blk_cell BK257.out 4).trans rfl;have hcz141_5 : w139.cell? ⟨gb257,5,none⟩ = some (.int .i64 a0_5):=(blk_cell BK257.out 5).trans rfl;have hcz141_6 : w139.cell? ⟨gb257,6,none⟩ = some (.bool a0_6):=(blk_cell BK257.out 6).trans rfl;have hcz141_7 : w139.cell? ⟨gb257,7,none⟩ = some (.int .i64 a0_7):=(blk_cell BK257.out 7).trans rfl;have hfz141_0:=fZ_ BK257.out 0;have hfz141_1:=fZ_ BK257.out 1;have hfz141_2:=fZ_ BK257.out 2;have hfz141_3:=fZ_ BK257.out 3;have hfz141_4:=fZ_ BK257.out 4;have hfz141_5:=fZ_ BK257.out 5;have hfz141_6:=fZ_ BK257.out 6;have hfz141_7:=fZ_ BK257.out 7)|((with_reducible refine gate_callee (f:=28) rfl ?_);refine goesL_ (some 12) rfl rfl Try.func28 (by kernel_rfl) rfl #[.agg #[.int .i64 a0_0,.int .i64 a0_1,.int .i64 a0_2,.slice A0_3 l0_3.length c0_3,.int .i64 a0_4,.int .i64 a0_5,.bool a0_6,.int .i64 a0_7],.int .i64 1048576] rfl (by (try simp only [List.map_toArray,List.map_cons,List.map_nil]);first|done|rfl|(simp only [List.length_drop,List.length_take];rfl)) ?_;(with_reducible refine (laws_szFlash.calls k a0_0 a0_1 a0_2 _ _ l0_3 a0_4 a0_5 a0_6 a0_7 1048576 t259 _ ?side1 ?side2 A3.out).mono ?_);(case side1 => repeat (first|exact (Kd.C_below HR0_3.out HB.out)|(with_reducible refine cA_ ?_ _)|(with_reducible refine Kd.C_drewN ?_ _)|(with_reducible refine Kd.C_drew ?_)));(case side2 => exact HC0_3.out);rintro e w142 ⟨rfl,hb⟩;refine ⟨_,rfl,?_⟩;have n0_:=mk_ (blk_below (g:=gb257) (o:=.cells #[.int .i64 a0_0,.int .i64 a0_1,.int .i64 a0_2,.slice A0_3 l0_3.length c0_3,.int .i64 a0_4,.int .i64 a0_5,.bool a0_6,.int .i64 a0_7] 26 (0,0)) (by (with_reducible repeat (first|refine kN_ ?_ _|refine kD_ ?_|refine kA_ ?_ _));exact BK257.out) hb);have n1_:=mk_ (blk_below (g:=gb258) (o:=.cells #[.slice A1_0 l1_0.length c1_0,.int .i64 a1_1] 66 (0,0)) (by (with_reducible repeat (first|refine kN_ ?_ _|refine kD_ ?_|refine kA_ ?_ _));exact BK258.out) hb);have n2_:=mk_ (bT_ (by repeat (first|(with_reducible first|exact HB.out|apply bA_|apply bN_|apply bD_|refine bS_ ?_ GE257.out|refine bS_ ?_ GE258.out)|exact HB.out)) hb);clear BK257;clear BK258;clear HB;have BK257:=n0_;have BK258:=n1_;have HB:=n2_;clear n0_ n1_ n2_;(try clear hb);(try clear hb2);(try clear hk);(try clear hi);have hcz143_0 : w142.cell? ⟨gb258,0,none⟩ = some (.slice A1_0 l1_0.length c1_0):=(blk_cell BK258.out 0).trans rfl;have hcz143_1 : w142.cell? ⟨gb258,1,none⟩ = some (.int .i64 a1_1):=(blk_cell BK258.out 1).trans rfl;have hfz143_0:=fZ_ BK258.out 0;have hfz143_1:=fZ_ BK258.out 1)|((with_reducible refine gate_callee (f:=33) rfl ?_);refine goesL_ (some 17) rfl rfl Try.func33 (by kernel_rfl) rfl #[.agg #[.slice A1_0 l1_0.length c1_0,.int .i64 a1_1],.int .i64 t259] rfl (by (try simp only [List.map_toArray,List.map_cons,List.map_nil]);first|done|rfl|(simp only [List.length_drop,List.length_take];rfl)) ?_;(with_reducible refine (laws_szWipe.calls _ _ l1_0 a1_1 t259 t260 _ ?side1 ?side2 A10.out).mono ?_);(case side1 => repeat (first|exact (Kd.C_below HR1_0.out HB.out)|(with_reducible refine cA_ ?_ _)|(with_reducible refine Kd.C_drewN ?_ _)|(with_reducible refine Kd.C_drew ?_)));(case side2 => exact HC1_0.out);rintro e w144 ⟨rfl,hb⟩;refine ⟨_,rfl,?_⟩;have n0_:=mk_ (blk_below (g:=gb257) (o:=.cells #[.int .i64 a0_0,.int .i64 a0_1,.int .i64 a0_2,.slice A0_3 l0_3.length c0_3,.int .i64 a0_4,.int .i64 a0_5,.bool a0_6,.int .i64 a0_7] 26 (0,0)) (by (with_reducible repeat (first|refine kN_ ?_ _|refine kD_ ?_|refine kA_ ?_ _));exact BK257.out) hb);have n1_:=mk_ (blk_below (g:=gb258) (o:=.cells #[.slice A1_0 l1_0.length c1_0,.int .i64 a1_1] 66 (0,0)) (by (with_reducible repeat (first|refine kN_ ?_ _|refine kD_ ?_|refine kA_ ?_ _));exact BK258.out) hb);have n2_:=mk_ (bT_ (by repeat (first|(with_reducible first|exact HB.out|apply bA_|apply bN_|apply bD_|refine bS_ ?_ GE257.out|refine bS_ ?_ GE258.out)|exact HB.out)) hb);clear BK257;clear BK258;clear HB;have BK257:=n0_;have BK258:=n1_;have HB:=n2_;clear n0_ n1_ n2_;(try clear hb);(try clear hb2);(try clear hk);(try clear hi)))
          have n0_ := Aside0.mk (blk_drew BK257.out)
          have n1_ := Aside0.mk (blk_drew BK258.out)
          have n2_ := Aside0.mk (below_drew1 HB.out)
          clear BK257
          clear BK258
          clear HB
          have BK257 := n0_
          have BK258 := n1_
          have HB := n2_
          clear n0_ n1_ n2_
          refine start_ (n:=6) (S:=fun w' => w'.cell? ⟨gb257,0,none⟩ = some (.int .i64 a0_0) ∧ w'.cell? ⟨gb257,1,none⟩ = some (.int .i64 a0_1) ∧ w'.cell? ⟨gb257,2,none⟩ = some (.int .i64 a0_2) ∧ w'.cell? ⟨gb257,3,none⟩ = some (.slice A0_3 l0_3.length c0_3) ∧ w'.cell? ⟨gb257,4,none⟩ = some (.int .i64 a0_4) ∧ w'.cell? ⟨gb257,5,none⟩ = some (.int .i64 a0_5) ∧ w'.cell? ⟨gb257,6,none⟩ = some (.bool a0_6) ∧ w'.cell? ⟨gb257,7,none⟩ = some (.int .i64 a0_7) ∧ w'.cell? ⟨gb258,0,none⟩ = some (.slice A1_0 l1_0.length c1_0) ∧ w'.cell? ⟨gb258,1,none⟩ = some (.int .i64 a1_1)) (ds:=[]) #[false,false,false,false,false,false] (by kernel_rfl) rfl rfl ⟨(blk_cell BK257.out 0).trans rfl,(blk_cell BK257.out 1).trans rfl,(blk_cell BK257.out 2).trans rfl,(blk_cell BK257.out 3).trans rfl,(blk_cell BK257.out 4).trans rfl,(blk_cell BK257.out 5).trans rfl,(blk_cell BK257.out 6).trans rfl,(blk_cell BK257.out 7).trans rfl,(blk_cell BK258.out 0).trans rfl,(blk_cell BK258.out 1).trans rfl⟩ (fun hHeld => ?_)
          generalize w144.drew = w145 at BK257 BK258 HB hHeld ⊢
          refine take_ (i := 0) (N := some 20) (v := ?_) (a' := ?_) #[true, false, false, false, false, false] rfl rfl (by kernel_rfl) (fun _ _ _ h => h) (Or.inl ⟨by rfl, ?_⟩) hHeld ?_ ?_
          rotate_left
          · rintro w' ⟨s0, s1, s2, s3, s4, s5, s6, s7, s8, s9⟩
            go_simp
            with_reducible rfl
          rotate_left
          · simp only [Act.put, List.setIfInBounds_toArray, List.set_cons_zero, List.set_cons_succ, i64_w, i32_w]
            rfl
          refine take_ (i := 2) (N := some 22) (v := ?_) (a' := ?_) #[true, false, true, false, false, false] rfl rfl (by kernel_rfl) (fun _ _ _ h => h) (Or.inl ⟨by rfl, ?_⟩) hHeld ?_ ?_
          rotate_left
          · rintro w' ⟨s0, s1, s2, s3, s4, s5, s6, s7, s8, s9⟩
            go_simp
            with_reducible rfl
          rotate_left
          · simp only [Act.put, List.setIfInBounds_toArray, List.set_cons_zero, List.set_cons_succ, i64_w, i32_w]
            rfl
          refine one_ (i := 1) (N := some 21) #[true, true, true, false, false, false] rfl rfl (by kernel_rfl) (by decide) (fun K hK => ?_)
          refine goes_ Try.func30 (by kernel_rfl) rfl #[.agg #[.int .i64 a0_0,.int .i64 a0_1,.int .i64 a0_2,.slice A0_3 l0_3.length c0_3,.int .i64 a0_4,.int .i64 a0_5,.bool a0_6,.int .i64 a0_7]] (by rfl) rfl rfl (by (try simp only [List.map_toArray,List.map_cons,List.map_nil]);first|done|rfl|(simp only [List.length_drop,List.length_take];rfl)) ?_
          with_reducible refine (laws_toFlash.calls k a0_0 a0_1 a0_2 _ _ l0_3 a0_4 a0_5 a0_6 a0_7 t261 t262 t263 t264 t267 t268 t269 t270 _ ?side1 ?side2 A19.out).mono ?_
          (case side1 => repeat (first|exact (Kd.C_below HR0_3.out HB.out)|(with_reducible refine cA_ ?_ _)|(with_reducible refine Kd.C_drewN ?_ _)|(with_reducible refine Kd.C_drew ?_)))
          (case side2 => exact HC0_3.out)
          rintro e w146 ⟨v265, rfl, ho0, hb⟩
          refine ⟨_, rfl, ?_⟩
          have n0_:=mk_ (Kd.S_lower ho0 (bZ_ (by repeat (first|(with_reducible first|exact HB.out|apply bA_|apply bN_|apply bD_|refine bS_ ?_ GE257.out|refine bS_ ?_ GE258.out)|exact HB.out))))
          have n1_:=mk_ (blk_below (g:=gb257) (o:=.cells #[.int .i64 a0_0,.int .i64 a0_1,.int .i64 a0_2,.slice A0_3 l0_3.length c0_3,.int .i64 a0_4,.int .i64 a0_5,.bool a0_6,.int .i64 a0_7] 26 (0,0)) (by (with_reducible repeat (first|refine kN_ ?_ _|refine kD_ ?_|refine kA_ ?_ _));exact BK257.out) hb)
          have n2_:=mk_ (blk_below (g:=gb258) (o:=.cells #[.slice A1_0 l1_0.length c1_0,.int .i64 a1_1] 66 (0,0)) (by (with_reducible repeat (first|refine kN_ ?_ _|refine kD_ ?_|refine kA_ ?_ _));exact BK258.out) hb)
          have n3_:=mk_ (bT_ (by repeat (first|(with_reducible first|exact HB.out|apply bA_|apply bN_|apply bD_|refine bS_ ?_ GE257.out|refine bS_ ?_ GE258.out)|exact HB.out)) hb)
          clear BK257
          clear BK258
          clear HB
          have HO266 := n0_
          have BK257 := n1_
          have BK258 := n2_
          have HB := n3_
          clear n0_ n1_ n2_ n3_
          (try clear hb)
          (try clear hb2)
          (try clear hk)
          (try clear hi)
          (try clear ho0)
          refine hK.out _ _ ⟨(blk_cell BK257.out 0).trans rfl,(blk_cell BK257.out 1).trans rfl,(blk_cell BK257.out 2).trans rfl,(blk_cell BK257.out 3).trans rfl,(blk_cell BK257.out 4).trans rfl,(blk_cell BK257.out 5).trans rfl,(blk_cell BK257.out 6).trans rfl,(blk_cell BK257.out 7).trans rfl,(blk_cell BK258.out 0).trans rfl,(blk_cell BK258.out 1).trans rfl⟩ (fun hHeld => ?_)
          clear hK K
          refine norm_ (a' := ?_) ?_ ?_
          rotate_left
          · show Act.put _ (some 21) _ = _
            simp only [Act.put, List.setIfInBounds_toArray, List.set_cons_zero, List.set_cons_succ, i64_w, i32_w]
            rfl
          refine one_ (i := 3) (N := some 23) #[true, true, true, true, false, false] rfl rfl (by kernel_rfl) (by decide) (fun K hK => ?_)
          refine goes_ Try.func35 (by kernel_rfl) rfl #[.agg #[.slice A1_0 l1_0.length c1_0,.int .i64 a1_1]] (by rfl) rfl rfl (by (try simp only [List.map_toArray,List.map_cons,List.map_nil]);first|done|rfl|(simp only [List.length_drop,List.length_take];rfl)) ?_
          with_reducible refine (laws_toWipe.calls k _ _ l1_0 a1_1 t271 t274 _ ?side1 ?side2 A20.out).mono ?_
          (case side1 => repeat (first|exact (Kd.C_below HR1_0.out HB.out)|(with_reducible refine cA_ ?_ _)|(with_reducible refine Kd.C_drewN ?_ _)|(with_reducible refine Kd.C_drew ?_)))
          (case side2 => exact HC1_0.out)
          rintro e w147 ⟨v272, rfl, ho0, hb⟩
          refine ⟨_, rfl, ?_⟩
          have n0_ := Aside0.mk (Kd.S_below (by (with_reducible repeat (first | apply Kd.S_alloc | apply Kd.S_drewN | apply Kd.S_drew)); exact HO266.out) hb)
          have n1_:=mk_ (Kd.R_lower ho0 (bZ_ (by repeat (first|(with_reducible first|exact HB.out|apply bA_|apply bN_|apply bD_|refine bS_ ?_ GE257.out|refine bS_ ?_ GE258.out)|exact HB.out))))
          have n2_:=mk_ (blk_below (g:=gb257) (o:=.cells #[.int .i64 a0_0,.int .i64 a0_1,.int .i64 a0_2,.slice A0_3 l0_3.length c0_3,.int .i64 a0_4,.int .i64 a0_5,.bool a0_6,.int .i64 a0_7] 26 (0,0)) (by (with_reducible repeat (first|refine kN_ ?_ _|refine kD_ ?_|refine kA_ ?_ _));exact BK257.out) hb)
          have n3_:=mk_ (blk_below (g:=gb258) (o:=.cells #[.slice A1_0 l1_0.length c1_0,.int .i64 a1_1] 66 (0,0)) (by (with_reducible repeat (first|refine kN_ ?_ _|refine kD_ ?_|refine kA_ ?_ _));exact BK258.out) hb)
          have n4_:=mk_ (bT_ (by repeat (first|(with_reducible first|exact HB.out|apply bA_|apply bN_|apply bD_|refine bS_ ?_ GE257.out|refine bS_ ?_ GE258.out)|exact HB.out)) hb)
          clear HO266
          clear BK257
          clear BK258
          clear HB
          have HO266 := n0_
          have HO273 := n1_
          have BK257 := n2_
          have BK258 := n3_
          have HB := n4_
          clear n0_ n1_ n2_ n3_ n4_
          (try clear hb)
          (try clear hb2)
          (try clear hk)
          (try clear hi)
          (try clear ho0)
          obtain ⟨Ao148, co148, eo148⟩ := Kd.S_slice HO266.out
          (first | subst eo148 | (injection eo148 with f1_ f2_ f3_; have f4_ := f1_.symm; have f5_ := f3_.symm; clear f1_ f2_ f3_; subst f4_; subst f5_))
          obtain ⟨Ao149, co149, eo149⟩ := Kd.R_slice HO273.out
          (first | subst eo149 | (injection eo149 with f1_ f2_ f3_; have f4_ := f1_.symm; have f5_ := f3_.symm; clear f1_ f2_ f3_; subst f4_; subst f5_))
          refine hK.out _ _ ⟨(blk_cell BK257.out 0).trans rfl,(blk_cell BK257.out 1).trans rfl,(blk_cell BK257.out 2).trans rfl,(blk_cell BK257.out 3).trans rfl,(blk_cell BK257.out 4).trans rfl,(blk_cell BK257.out 5).trans rfl,(blk_cell BK257.out 6).trans rfl,(blk_cell BK257.out 7).trans rfl,(blk_cell BK258.out 0).trans rfl,(blk_cell BK258.out 1).trans rfl⟩ (fun hHeld => ?_)
          clear hK K
          refine norm_ (a' := ?_) ?_ ?_
          rotate_left
          · show Act.put _ (some 23) _ = _
            simp only [Act.put, List.setIfInBounds_toArray, List.set_cons_zero, List.set_cons_succ, i64_w, i32_w]
            rfl
          refine one_ (i := 4) (N := some 24) #[true, true, true, true, true, false] rfl rfl (by kernel_rfl) (by decide) (fun K hK => ?_)
          refine goes_ Try.func34 (by kernel_rfl) rfl #[.agg #[.int .i64 t261,.int .i64 t262,.int .i64 t263,.slice Ao148 t264.length co148,.int .i64 t267,.int .i64 t268,.bool t269,.int .i64 t270],.agg #[.slice Ao149 t271.length co149,.int .i64 t274]] (by rfl) rfl rfl (by (try simp only [List.map_toArray,List.map_cons,List.map_nil]);first|done|rfl|(simp only [List.length_drop,List.length_take];rfl)) ?_
          with_reducible refine (spec_ValidWipe.calls k t261 t262 t263 _ _ t264 t267 t268 t269 t270 _ _ t271 t274 t275 _ ?side1 ?side2 ?side3 ?side4 A21.out).mono ?_
          (case side1 => repeat (first | exact (Kd.S_reads' HO266.out).2.2 | (with_reducible refine Kd.C_alloc ?_ _) | (with_reducible refine Kd.C_drewN ?_ _) | (with_reducible refine Kd.C_drew ?_)))
          (case side2 => exact (Kd.S_reads' HO266.out).2.1)
          (case side3 => repeat (first | exact (Kd.R_reads' HO273.out).2.2 | (with_reducible refine Kd.C_alloc ?_ _) | (with_reducible refine Kd.C_drewN ?_ _) | (with_reducible refine Kd.C_drew ?_)))
          (case side4 => exact (Kd.R_reads' HO273.out).2.1)
          rintro e w150 ⟨rfl, hb⟩
          refine ⟨_, rfl, ?_⟩
          have n0_ := Aside0.mk (Kd.S_below (by (with_reducible repeat (first | apply Kd.S_alloc | apply Kd.S_drewN | apply Kd.S_drew)); exact HO266.out) hb)
          have n1_ := Aside0.mk (Kd.R_below (by (with_reducible repeat (first | apply Kd.R_alloc | apply Kd.R_drewN | apply Kd.R_drew)); exact HO273.out) hb)
          have n2_:=mk_ (blk_below (g:=gb257) (o:=.cells #[.int .i64 a0_0,.int .i64 a0_1,.int .i64 a0_2,.slice A0_3 l0_3.length c0_3,.int .i64 a0_4,.int .i64 a0_5,.bool a0_6,.int .i64 a0_7] 26 (0,0)) (by (with_reducible repeat (first|refine kN_ ?_ _|refine kD_ ?_|refine kA_ ?_ _));exact BK257.out) hb)
          have n3_:=mk_ (blk_below (g:=gb258) (o:=.cells #[.slice A1_0 l1_0.length c1_0,.int .i64 a1_1] 66 (0,0)) (by (with_reducible repeat (first|refine kN_ ?_ _|refine kD_ ?_|refine kA_ ?_ _));exact BK258.out) hb)
          have n4_:=mk_ (bT_ (by repeat (first|(with_reducible first|exact HB.out|apply bA_|apply bN_|apply bD_|refine bS_ ?_ GE257.out|refine bS_ ?_ GE258.out)|exact HB.out)) hb)
          clear HO266
          clear HO273
          clear BK257
          clear BK258
          clear HB
          have HO266 := n0_
          have HO273 := n1_
          have BK257 := n2_
          have BK258 := n3_
          have HB := n4_
          clear n0_ n1_ n2_ n3_ n4_
          (try clear hb)
          (try clear hb2)
          (try clear hk)
          (try clear hi)
          refine hK.out _ _ ⟨(blk_cell BK257.out 0).trans rfl,(blk_cell BK257.out 1).trans rfl,(blk_cell BK257.out 2).trans rfl,(blk_cell BK257.out 3).trans rfl,(blk_cell BK257.out 4).trans rfl,(blk_cell BK257.out 5).trans rfl,(blk_cell BK257.out 6).trans rfl,(blk_cell BK257.out 7).trans rfl,(blk_cell BK258.out 0).trans rfl,(blk_cell BK258.out 1).trans rfl⟩ (fun hHeld => ?_)
          clear hK K
          refine norm_ (a' := ?_) ?_ ?_
          rotate_left
          · show Act.put _ (some 24) _ = _
            simp only [Act.put, List.setIfInBounds_toArray, List.set_cons_zero, List.set_cons_succ, i64_w, i32_w]
            rfl
          refine pure_ (i := 5) (N := some 6) (v := ?_) (a' := ?_) #[true, true, true, true, true, true] rfl rfl (by kernel_rfl) (fun _ _ _ h => h) (Or.inl ⟨by rfl, ?_⟩) ?_ ?_
          rotate_left
          · intro w'
            go_simp
            with_reducible rfl
          rotate_left
          · simp only [Act.put, List.setIfInBounds_toArray, List.set_cons_zero, List.set_cons_succ, i64_w, i32_w]
            rfl
          refine done_ (by kernel_rfl) ?_
          have hcz151_0 : w150.cell? ⟨gb257, 0, none⟩ = some (.int .i64 a0_0) := (blk_cell BK257.out 0).trans rfl
          have hcz151_1 : w150.cell? ⟨gb257, 1, none⟩ = some (.int .i64 a0_1) := (blk_cell BK257.out 1).trans rfl
          have hcz151_2 : w150.cell? ⟨gb257, 2, none⟩ = some (.int .i64 a0_2) := (blk_cell BK257.out 2).trans rfl
          have hcz151_3 : w150.cell? ⟨gb257, 3, none⟩ = some (.slice A0_3 l0_3.length c0_3) := (blk_cell BK257.out 3).trans rfl
          have hcz151_4 : w150.cell? ⟨gb257, 4, none⟩ = some (.int .i64 a0_4) := (blk_cell BK257.out 4).trans rfl
          have hcz151_5 : w150.cell? ⟨gb257, 5, none⟩ = some (.int .i64 a0_5) := (blk_cell BK257.out 5).trans rfl
          have hcz151_6 : w150.cell? ⟨gb257, 6, none⟩ = some (.bool a0_6) := (blk_cell BK257.out 6).trans rfl
          have hcz151_7 : w150.cell? ⟨gb257, 7, none⟩ = some (.int .i64 a0_7) := (blk_cell BK257.out 7).trans rfl
          have hfz151_0 := blk_frozen BK257.out 0
          have hfz151_1 := blk_frozen BK257.out 1
          have hfz151_2 := blk_frozen BK257.out 2
          have hfz151_3 := blk_frozen BK257.out 3
          have hfz151_4 := blk_frozen BK257.out 4
          have hfz151_5 := blk_frozen BK257.out 5
          have hfz151_6 := blk_frozen BK257.out 6
          have hfz151_7 := blk_frozen BK257.out 7
          try go_wp2_with (first|((with_reducible refine gate_callee (f:=30) rfl ?_);refine goesL_ (some 26) rfl rfl Try.func30 (by kernel_rfl) rfl #[.agg #[.int .i64 a0_0,.int .i64 a0_1,.int .i64 a0_2,.slice A0_3 l0_3.length c0_3,.int .i64 a0_4,.int .i64 a0_5,.bool a0_6,.int .i64 a0_7]] rfl (by (try simp only [List.map_toArray,List.map_cons,List.map_nil]);first|done|rfl|(simp only [List.length_drop,List.length_take];rfl)) ?_;(with_reducible refine (laws_toFlash.calls k a0_0 a0_1 a0_2 _ _ l0_3 a0_4 a0_5 a0_6 a0_7 t276 t277 t278 t279 t282 t283 t284 t285 _ ?side1 ?side2 A22.out).mono ?_);(case side1 => repeat (first|exact (Kd.C_below HR0_3.out HB.out)|(with_reducible refine cA_ ?_ _)|(with_reducible refine Kd.C_drewN ?_ _)|(with_reducible refine Kd.C_drew ?_)));(case side2 => exact HC0_3.out);rintro e w152 ⟨v280,rfl,ho0,hb⟩;refine ⟨_,rfl,?_⟩;have n0_:=mk_ (Kd.S_elder' (by (with_reducible repeat (first|apply sA_|apply sN_|apply Kd.S_drew));exact HO266.out) (Kd.S_base ho0) hb);have n1_:=mk_ (Kd.R_below (by (with_reducible repeat (first|apply rA_|apply rN_|apply rD_));exact HO273.out) hb);have n2_:=mk_ (Kd.S_lower (Kd.S_new' ho0 (Kd.S_lt (by (with_reducible repeat (first|apply sA_|apply sN_|apply Kd.S_drew));exact HO266.out))) (bZ_ (by repeat (first|(with_reducible first|exact HB.out|apply bA_|apply bN_|apply bD_|refine bS_ ?_ GE257.out|refine bS_ ?_ GE258.out)|exact HB.out))));have n3_:=mk_ (blk_below (g:=gb257) (o:=.cells #[.int .i64 a0_0,.int .i64 a0_1,.int .i64 a0_2,.slice A0_3 l0_3.length c0_3,.int .i64 a0_4,.int .i64 a0_5,.bool a0_6,.int .i64 a0_7] 26 (0,0)) (by (with_reducible repeat (first|refine kN_ ?_ _|refine kD_ ?_|refine kA_ ?_ _));exact BK257.out) hb);have n4_:=mk_ (blk_below (g:=gb258) (o:=.cells #[.slice A1_0 l1_0.length c1_0,.int .i64 a1_1] 66 (0,0)) (by (with_reducible repeat (first|refine kN_ ?_ _|refine kD_ ?_|refine kA_ ?_ _));exact BK258.out) hb);have n5_:=mk_ (bT_ (by repeat (first|(with_reducible first|exact HB.out|apply bA_|apply bN_|apply bD_|refine bS_ ?_ GE257.out|refine bS_ ?_ GE258.out)|exact HB.out)) hb);clear HO266;clear HO273;clear BK257;clear BK258;clear HB;have HO266:=n0_;have HO273:=n1_;have HO281:=n2_;have BK257:=n3_;have BK258:=n4_;have HB:=n5_;clear n0_ n1_ n2_ n3_ n4_ n5_;(try clear hb);(try clear hb2);(try clear hk);(try clear hi);(try clear ho0))|((with_reducible refine gate_dst (N:=7) rfl ?_);refine box_event ?hg (N:=7) ?hd (cs:=#[.int .i64 0,.int .i64 0,.int .i64 0,.slice none 0 0,.int .i64 0,.int .i64 0,.bool false,.int .i64 0]) (t:=40) ?hr ?_;(case hd => rfl);(case hg => rfl);(case hr => first|(go_simp;done)|(go_simp;rfl));intro gb286 hg w153 hbox hb;have n0_:=mk_ (sB_ (by (with_reducible repeat (first|apply sA_|apply sN_|apply Kd.S_drew));exact HO266.out) hb);have n1_:=mk_ (Kd.R_below (by (with_reducible repeat (first|apply rA_|apply rN_|apply rD_));exact HO273.out) hb);have n2_:=mk_ (sB_ (by (with_reducible repeat (first|apply sA_|apply sN_|apply Kd.S_drew));exact HO281.out) hb);have n3_:=mk_ (blk_below (g:=gb257) (o:=.cells #[.int .i64 a0_0,.int .i64 a0_1,.int .i64 a0_2,.slice A0_3 l0_3.length c0_3,.int .i64 a0_4,.int .i64 a0_5,.bool a0_6,.int .i64 a0_7] 26 (0,0)) (by (with_reducible repeat (first|refine kN_ ?_ _|refine kD_ ?_|refine kA_ ?_ _));exact BK257.out) hb);have n4_:=mk_ (blk_below (g:=gb258) (o:=.cells #[.slice A1_0 l1_0.length c1_0,.int .i64 a1_1] 66 (0,0)) (by (with_reducible repeat (first|refine kN_ ?_ _|refine kD_ ?_|refine kA_ ?_ _));exact BK258.out) hb);have n5_:=mk_ (bT_ (by repeat (first|(with_reducible first|exact HB.out|apply bA_|apply bN_|apply bD_|refine bS_ ?_ GE257.out|refine bS_ ?_ GE258.out)|exact HB.out)) hb);have n6_:=mk_ (hbox);have n7_:=mk_ ((by rw [hg];exact (bZ_ (by repeat (first|(with_reducible first|exact HB.out|apply bA_|apply bN_|apply bD_|refine bS_ ?_ GE257.out|refine bS_ ?_ GE258.out)|exact HB.out))) : w.heap.size ≤ gb286));have n8_:=mk_ ((by rw [hg];exact (bZ_ (by repeat (first|(with_reducible first|exact HB.out|apply bA_|apply bN_|apply bD_|refine bS_ ?_ GE257.out|refine bS_ ?_ GE258.out)|exact HB.out))) : w.heap.size ≤ gb286));have n9_:=mk_ ((by rw [hg];exact Nat.ne_of_lt (blk_lt (g:=gb257) (o:=.cells #[.int .i64 a0_0,.int .i64 a0_1,.int .i64 a0_2,.slice A0_3 l0_3.length c0_3,.int .i64 a0_4,.int .i64 a0_5,.bool a0_6,.int .i64 a0_7] 26 (0,0)) (by (with_reducible repeat (first|refine kN_ ?_ _|refine kD_ ?_|refine kA_ ?_ _));exact BK257.out)) : gb257 ≠ gb286));have n10_:=mk_ ((by rw [hg];exact Nat.ne_of_gt (blk_lt (g:=gb257) (o:=.cells #[.int .i64 a0_0,.int .i64 a0_1,.int .i64 a0_2,.slice A0_3 l0_3.length c0_3,.int .i64 a0_4,.int .i64 a0_5,.bool a0_6,.int .i64 a0_7] 26 (0,0)) (by (with_reducible repeat (first|refine kN_ ?_ _|refine kD_ ?_|refine kA_ ?_ _));exact BK257.out)) : gb286 ≠ gb257));have n11_:=mk_ ((by rw [hg];exact Nat.ne_of_lt (blk_lt (g:=gb258) (o:=.cells #[.slice A1_0 l1_0.length c1_0,.int .i64 a1_1] 66 (0,0)) (by (with_reducible repeat (first|refine kN_ ?_ _|refine kD_ ?_|refine kA_ ?_ _));exact BK258.out)) : gb258 ≠ gb286));have n12_:=mk_ ((by rw [hg];exact Nat.ne_of_gt (blk_lt (g:=gb258) (o:=.cells #[.slice A1_0 l1_0.length c1_0,.int .i64 a1_1] 66 (0,0)) (by (with_reducible repeat (first|refine kN_ ?_ _|refine kD_ ?_|refine kA_ ?_ _));exact BK258.out)) : gb286 ≠ gb258));clear HO266;clear HO273;clear HO281;clear BK257;clear BK258;clear HB;have HO266:=n0_;have HO273:=n1_;have HO281:=n2_;have BK257:=n3_;have BK258:=n4_;have HB:=n5_;have BK286:=n6_;have GW286:=n7_;have GE286:=n8_;have NB257_286:=n9_;have NB286_257:=n10_;have NB258_286:=n11_;have NB286_258:=n12_;clear n0_ n1_ n2_ n3_ n4_ n5_ n6_ n7_ n8_ n9_ n10_ n11_ n12_;clear hb hbox hg;have hnb154:=NB286_257.out;have hnc154:=NB257_286.out;have hnb155:=NB286_258.out;have hnc155:=NB258_286.out;have hcz156_0 : w153.cell? ⟨gb286,0,none⟩ = some (.int .i64 0):=(blk_cell BK286.out 0).trans rfl;have hcz156_1 : w153.cell? ⟨gb286,1,none⟩ = some (.int .i64 0):=(blk_cell BK286.out 1).trans rfl;have hcz156_2 : w153.cell? ⟨gb286,2,none⟩ = some (.int .i64 0):=(blk_cell BK286.out 2).trans rfl;have hcz156_3 : w153.cell? ⟨gb286,3,none⟩ = some (.slice none 0 0):=(blk_cell BK286.out 3).trans rfl;have hcz156_4 : w153.cell? ⟨gb286,4,none⟩ = some (.int .i64 0):=(blk_cell BK286.out 4).trans rfl;have hcz156_5 : w153.cell? ⟨gb286,5,none⟩ = some (.int .i64 0):=(blk_cell BK286.out 5).trans rfl;have hcz156_6 : w153.cell? ⟨gb286,6,none⟩ = some (.bool false):=(blk_cell BK286.out 6).trans rfl;have hcz156_7 : w153.cell? ⟨gb286,7,none⟩ = some (.int .i64 0):=(blk_cell BK286.out 7).trans rfl;have hfz156_0:=fZ_ BK286.out 0;have hfz156_1:=fZ_ BK286.out 1;have hfz156_2:=fZ_ BK286.out 2;have hfz156_3:=fZ_ BK286.out 3;have hfz156_4:=fZ_ BK286.out 4;have hfz156_5:=fZ_ BK286.out 5;have hfz156_6:=fZ_ BK286.out 6;have hfz156_7:=fZ_ BK286.out 7;obtain ⟨Ao157,co157,eo157⟩:=Kd.S_slice HO281.out;subst eo157;have hcz158_0 : w153.cell? ⟨gb258,0,none⟩ = some (.slice A1_0 l1_0.length c1_0):=(blk_cell BK258.out 0).trans rfl;have hcz158_1 : w153.cell? ⟨gb258,1,none⟩ = some (.int .i64 a1_1):=(blk_cell BK258.out 1).trans rfl;have hfz158_0:=fZ_ BK258.out 0;have hfz158_1:=fZ_ BK258.out 1)|((with_reducible refine gate_callee (f:=35) rfl ?_);refine goesL_ (some 28) rfl rfl Try.func35 (by kernel_rfl) rfl #[.agg #[.slice A1_0 l1_0.length c1_0,.int .i64 a1_1]] rfl (by (try simp only [List.map_toArray,List.map_cons,List.map_nil]);first|done|rfl|(simp only [List.length_drop,List.length_take];rfl)) ?_;(with_reducible refine (laws_toWipe.calls k _ _ l1_0 a1_1 t287 t290 _ ?side1 ?side2 A23.out).mono ?_);(case side1 => exact Kd.C_below HR1_0.out (by repeat (first|(with_reducible first|exact HB.out|apply bA_|apply bN_|apply bD_|refine bS_ ?_ GE257.out|refine bS_ ?_ GE258.out|refine bS_ ?_ GE286.out)|exact HB.out)));(case side2 => exact HC1_0.out);rintro e w159 ⟨v288,rfl,ho0,hb⟩;refine ⟨_,rfl,?_⟩;have n0_:=mk_ (sB_ (by (with_reducible repeat (first|apply sA_|apply sN_|apply Kd.S_drew));exact (Kd.S_mono (Kd.S_far (p:=⟨gb286,7,none⟩) (Kd.S_far (p:=⟨gb286,6,none⟩) (Kd.S_far (p:=⟨gb286,5,none⟩) (Kd.S_far (p:=⟨gb286,4,none⟩) (Kd.S_far (p:=⟨gb286,3,none⟩) (Kd.S_far (p:=⟨gb286,2,none⟩) (Kd.S_far (p:=⟨gb286,1,none⟩) (Kd.S_far (p:=⟨gb286,0,none⟩) (Kd.S_types HO266.out BK286.out (by decide)) (fun _ hk => hk.2) (.int .i64 t276)) (fun _ hk => hk.2) (.int .i64 t277)) (fun _ hk => hk.2) (.int .i64 t278)) (fun _ hk => hk.2) (.slice Ao157 t279.length co157)) (fun _ hk => hk.2) (.int .i64 t282)) (fun _ hk => hk.2) (.int .i64 t283)) (fun _ hk => hk.2) (.bool t284)) (fun _ hk => hk.2) (.int .i64 t285)) (fun _ h_ => h_.1))) hb);have n1_:=mk_ (Kd.R_elder' (by (with_reducible repeat (first|apply rA_|apply rN_|apply rD_));exact (Kd.R_mono (Kd.R_far (p:=⟨gb286,7,none⟩) (Kd.R_far (p:=⟨gb286,6,none⟩) (Kd.R_far (p:=⟨gb286,5,none⟩) (Kd.R_far (p:=⟨gb286,4,none⟩) (Kd.R_far (p:=⟨gb286,3,none⟩) (Kd.R_far (p:=⟨gb286,2,none⟩) (Kd.R_far (p:=⟨gb286,1,none⟩) (Kd.R_far (p:=⟨gb286,0,none⟩) (Kd.R_types HO273.out BK286.out (by decide)) (fun _ hk => hk.2) (.int .i64 t276)) (fun _ hk => hk.2) (.int .i64 t277)) (fun _ hk => hk.2) (.int .i64 t278)) (fun _ hk => hk.2) (.slice Ao157 t279.length co157)) (fun _ hk => hk.2) (.int .i64 t282)) (fun _ hk => hk.2) (.int .i64 t283)) (fun _ hk => hk.2) (.bool t284)) (fun _ hk => hk.2) (.int .i64 t285)) (fun _ h_ => h_.1))) (Kd.R_base ho0) hb);have n2_:=mk_ (sB_ (by (with_reducible repeat (first|apply sA_|apply sN_|apply Kd.S_drew));exact (Kd.S_mono (Kd.S_far (p:=⟨gb286,7,none⟩) (Kd.S_far (p:=⟨gb286,6,none⟩) (Kd.S_far (p:=⟨gb286,5,none⟩) (Kd.S_far (p:=⟨gb286,4,none⟩) (Kd.S_far (p:=⟨gb286,3,none⟩) (Kd.S_far (p:=⟨gb286,2,none⟩) (Kd.S_far (p:=⟨gb286,1,none⟩) (Kd.S_far (p:=⟨gb286,0,none⟩) (Kd.S_types HO281.out BK286.out (by decide)) (fun _ hk => hk.2) (.int .i64 t276)) (fun _ hk => hk.2) (.int .i64 t277)) (fun _ hk => hk.2) (.int .i64 t278)) (fun _ hk => hk.2) (.slice Ao157 t279.length co157)) (fun _ hk => hk.2) (.int .i64 t282)) (fun _ hk => hk.2) (.int .i64 t283)) (fun _ hk => hk.2) (.bool t284)) (fun _ hk => hk.2) (.int .i64 t285)) (fun _ h_ => h_.1))) hb);have n3_:=mk_ (Kd.R_lower (Kd.R_new' ho0 (Kd.R_lt (by (with_reducible repeat (first|apply rA_|apply rN_|apply rD_));exact (Kd.R_mono (Kd.R_far (p:=⟨gb286,7,none⟩) (Kd.R_far (p:=⟨gb286,6,none⟩) (Kd.R_far (p:=⟨gb286,5,none⟩) (Kd.R_far (p:=⟨gb286,4,none⟩) (Kd.R_far (p:=⟨gb286,3,none⟩) (Kd.R_far (p:=⟨gb286,2,none⟩) (Kd.R_far (p:=⟨gb286,1,none⟩) (Kd.R_far (p:=⟨gb286,0,none⟩) (Kd.R_types HO273.out BK286.out (by decide)) (fun _ hk => hk.2) (.int .i64 t276)) (fun _ hk => hk.2) (.int .i64 t277)) (fun _ hk => hk.2) (.int .i64 t278)) (fun _ hk => hk.2) (.slice Ao157 t279.length co157)) (fun _ hk => hk.2) (.int .i64 t282)) (fun _ hk => hk.2) (.int .i64 t283)) (fun _ hk => hk.2) (.bool t284)) (fun _ hk => hk.2) (.int .i64 t285)) (fun _ h_ => h_.1))))) (bZ_ (by repeat (first|(with_reducible first|exact HB.out|apply bA_|apply bN_|apply bD_|refine bS_ ?_ GE257.out|refine bS_ ?_ GE258.out|refine bS_ ?_ GE286.out)|exact HB.out))));have n4_:=mk_ (blk_below (g:=gb257) (o:=.cells #[.int .i64 a0_0,.int .i64 a0_1,.int .i64 a0_2,.slice A0_3 l0_3.length c0_3,.int .i64 a0_4,.int .i64 a0_5,.bool a0_6,.int .i64 a0_7] 26 (0,0)) (by (with_reducible repeat (first|refine kN_ ?_ _|refine kD_ ?_|refine kA_ ?_ _));refine blk_far ?_ NB257_286.out _;(with_reducible repeat (first|refine kN_ ?_ _|refine kD_ ?_|refine kA_ ?_ _));refine blk_far ?_ NB257_286.out _;(with_reducible repeat (first|refine kN_ ?_ _|refine kD_ ?_|refine kA_ ?_ _));refine blk_far ?_ NB257_286.out _;(with_reducible repeat (first|refine kN_ ?_ _|refine kD_ ?_|refine kA_ ?_ _));refine blk_far ?_ NB257_286.out _;(with_reducible repeat (first|refine kN_ ?_ _|refine kD_ ?_|refine kA_ ?_ _));refine blk_far ?_ NB257_286.out _;(with_reducible repeat (first|refine kN_ ?_ _|refine kD_ ?_|refine kA_ ?_ _));refine blk_far ?_ NB257_286.out _;(with_reducible repeat (first|refine kN_ ?_ _|refine kD_ ?_|refine kA_ ?_ _));refine blk_far ?_ NB257_286.out _;(with_reducible repeat (first|refine kN_ ?_ _|refine kD_ ?_|refine kA_ ?_ _));refine blk_far ?_ NB257_286.out _;(with_reducible repeat (first|refine kN_ ?_ _|refine kD_ ?_|refine kA_ ?_ _));exact BK257.out) hb);have n5_:=mk_ (blk_below (g:=gb258) (o:=.cells #[.slice A1_0 l1_0.length c1_0,.int .i64 a1_1] 66 (0,0)) (by (with_reducible repeat (first|refine kN_ ?_ _|refine kD_ ?_|refine kA_ ?_ _));refine blk_far ?_ NB258_286.out _;(with_reducible repeat (first|refine kN_ ?_ _|refine kD_ ?_|refine kA_ ?_ _));refine blk_far ?_ NB258_286.out _;(with_reducible repeat (first|refine kN_ ?_ _|refine kD_ ?_|refine kA_ ?_ _));refine blk_far ?_ NB258_286.out _;(with_reducible repeat (first|refine kN_ ?_ _|refine kD_ ?_|refine kA_ ?_ _));refine blk_far ?_ NB258_286.out _;(with_reducible repeat (first|refine kN_ ?_ _|refine kD_ ?_|refine kA_ ?_ _));refine blk_far ?_ NB258_286.out _;(with_reducible repeat (first|refine kN_ ?_ _|refine kD_ ?_|refine kA_ ?_ _));refine blk_far ?_ NB258_286.out _;(with_reducible repeat (first|refine kN_ ?_ _|refine kD_ ?_|refine kA_ ?_ _));refine blk_far ?_ NB258_286.out _;(with_reducible repeat (first|refine kN_ ?_ _|refine kD_ ?_|refine kA_ ?_ _));refine blk_far ?_ NB258_286.out _;(with_reducible repeat (first|refine kN_ ?_ _|refine kD_ ?_|refine kA_ ?_ _));exact BK258.out) hb);have n6_:=mk_ (blk_below (g:=gb286) (o:=.cells #[.int .i64 t276,.int .i64 t277,.int .i64 t278,.slice Ao157 t279.length co157,.int .i64 t282,.int .i64 t283,.bool t284,.int .i64 t285] 40 (0,0)) (by (with_reducible repeat (first|refine kN_ ?_ _|refine kD_ ?_|refine kA_ ?_ _));refine blk_put (cs:=#[.int .i64 t276,.int .i64 t277,.int .i64 t278,.slice Ao157 t279.length co157,.int .i64 t282,.int .i64 t283,.bool t284,.int .i64 0]) ?_ 7 _ rfl;(with_reducible repeat (first|refine kN_ ?_ _|refine kD_ ?_|refine kA_ ?_ _));refine blk_put (cs:=#[.int .i64 t276,.int .i64 t277,.int .i64 t278,.slice Ao157 t279.length co157,.int .i64 t282,.int .i64 t283,.bool false,.int .i64 0]) ?_ 6 _ rfl;(with_reducible repeat (first|refine kN_ ?_ _|refine kD_ ?_|refine kA_ ?_ _));refine blk_put (cs:=#[.int .i64 t276,.int .i64 t277,.int .i64 t278,.slice Ao157 t279.length co157,.int .i64 t282,.int .i64 0,.bool false,.int .i64 0]) ?_ 5 _ rfl;(with_reducible repeat (first|refine kN_ ?_ _|refine kD_ ?_|refine kA_ ?_ _));refine blk_put (cs:=#[.int .i64 t276,.int .i64 t277,.int .i64 t278,.slice Ao157 t279.length co157,.int .i64 0,.int .i64 0,.bool false,.int .i64 0]) ?_ 4 _ rfl;(with_reducible repeat (first|refine kN_ ?_ _|refine kD_ ?_|refine kA_ ?_ _));refine blk_put (cs:=#[.int .i64 t276,.int .i64 t277,.int .i64 t278,.slice none 0 0,.int .i64 0,.int .i64 0,.bool false,.int .i64 0]) ?_ 3 _ rfl;(with_reducible repeat (first|refine kN_ ?_ _|refine kD_ ?_|refine kA_ ?_ _));refine blk_put (cs:=#[.int .i64 t276,.int .i64 t277,.int .i64 0,.slice none 0 0,.int .i64 0,.int .i64 0,.bool false,.int .i64 0]) ?_ 2 _ rfl;(with_reducible repeat (first|refine kN_ ?_ _|refine kD_ ?_|refine kA_ ?_ _));refine blk_put (cs:=#[.int .i64 t276,.int .i64 0,.int .i64 0,.slice none 0 0,.int .i64 0,.int .i64 0,.bool false,.int .i64 0]) ?_ 1 _ rfl;(with_reducible repeat (first|refine kN_ ?_ _|refine kD_ ?_|refine kA_ ?_ _));refine blk_put (cs:=#[.int .i64 0,.int .i64 0,.int .i64 0,.slice none 0 0,.int .i64 0,.int .i64 0,.bool false,.int .i64 0]) ?_ 0 _ rfl;(with_reducible repeat (first|refine kN_ ?_ _|refine kD_ ?_|refine kA_ ?_ _));exact BK286.out) hb);have n7_:=mk_ (bT_ (by repeat (first|(with_reducible first|exact HB.out|apply bA_|apply bN_|apply bD_|refine bS_ ?_ GE257.out|refine bS_ ?_ GE258.out|refine bS_ ?_ GE286.out)|exact HB.out)) hb);clear HO266;clear HO273;clear HO281;clear BK257;clear BK258;clear BK286;clear HB;have HO266:=n0_;have HO273:=n1_;have HO281:=n2_;have HO289:=n3_;have BK257:=n4_;have BK258:=n5_;have BK286:=n6_;have HB:=n7_;clear n0_ n1_ n2_ n3_ n4_ n5_ n6_ n7_;(try clear hb);(try clear hb2);(try clear hk);(try clear hi);(try clear ho0))|((with_reducible refine gate_dst (N:=8) rfl ?_);refine box_event ?hg (N:=8) ?hd (cs:=#[.slice none 0 0,.int .i64 0]) (t:=69) ?hr ?_;(case hd => rfl);(case hg => rfl);(case hr => first|(go_simp;done)|(go_simp;rfl));intro gb291 hg w160 hbox hb;have n0_:=mk_ (sB_ (by (with_reducible repeat (first|apply sA_|apply sN_|apply Kd.S_drew));exact HO266.out) hb);have n1_:=mk_ (Kd.R_below (by (with_reducible repeat (first|apply rA_|apply rN_|apply rD_));exact HO273.out) hb);have n2_:=mk_ (sB_ (by (with_reducible repeat (first|apply sA_|apply sN_|apply Kd.S_drew));exact HO281.out) hb);have n3_:=mk_ (Kd.R_below (by (with_reducible repeat (first|apply rA_|apply rN_|apply rD_));exact HO289.out) hb);have n4_:=mk_ (blk_below (g:=gb257) (o:=.cells #[.int .i64 a0_0,.int .i64 a0_1,.int .i64 a0_2,.slice A0_3 l0_3.length c0_3,.int .i64 a0_4,.int .i64 a0_5,.bool a0_6,.int .i64 a0_7] 26 (0,0)) (by (with_reducible repeat (first|refine kN_ ?_ _|refine kD_ ?_|refine kA_ ?_ _));exact BK257.out) hb);have n5_:=mk_ (blk_below (g:=gb258) (o:=.cells #[.slice A1_0 l1_0.length c1_0,.int .i64 a1_1] 66 (0,0)) (by (with_reducible repeat (first|refine kN_ ?_ _|refine kD_ ?_|refine kA_ ?_ _));exact BK258.out) hb);have n6_:=mk_ (blk_below (g:=gb286) (o:=.cells #[.int .i64 t276,.int .i64 t277,.int .i64 t278,.slice Ao157 t279.length co157,.int .i64 t282,.int .i64 t283,.bool t284,.int .i64 t285] 40 (0,0)) (by (with_reducible repeat (first|refine kN_ ?_ _|refine kD_ ?_|refine kA_ ?_ _));exact BK286.out) hb);have n7_:=mk_ (bT_ (by repeat (first|(with_reducible first|exact HB.out|apply bA_|apply bN_|apply bD_|refine bS_ ?_ GE257.out|refine bS_ ?_ GE258.out|refine bS_ ?_ GE286.out)|exact HB.out)) hb);have n8_:=mk_ (hbox);have n9_:=mk_ ((by rw [hg];exact (bZ_ (by repeat (first|(with_reducible first|exact HB.out|apply bA_|apply bN_|apply bD_|refine bS_ ?_ GE257.out|refine bS_ ?_ GE258.out|refine bS_ ?_ GE286.out)|exact HB.out))) : w.heap.size ≤ gb291));have n10_:=mk_ ((by rw [hg];exact (bZ_ (by repeat (first|(with_reducible first|exact HB.out|apply bA_|apply bN_|apply bD_|refine bS_ ?_ GE257.out|refine bS_ ?_ GE258.out|refine bS_ ?_ GE286.out)|exact HB.out))) : w.heap.size ≤ gb291));have n11_:=mk_ ((by rw [hg];exact Nat.ne_of_lt (blk_lt (g:=gb257) (o:=.cells #[.int .i64 a0_0,.int .i64 a0_1,.int .i64 a0_2,.slice A0_3 l0_3.length c0_3,.int .i64 a0_4,.int .i64 a0_5,.bool a0_6,.int .i64 a0_7] 26 (0,0)) (by (with_reducible repeat (first|refine kN_ ?_ _|refine kD_ ?_|refine kA_ ?_ _));exact BK257.out)) : gb257 ≠ gb291));have n12_:=mk_ ((by rw [hg];exact Nat.ne_of_gt (blk_lt (g:=gb257) (o:=.cells #[.int .i64 a0_0,.int .i64 a0_1,.int .i64 a0_2,.slice A0_3 l0_3.length c0_3,.int .i64 a0_4,.int .i64 a0_5,.bool a0_6,.int .i64 a0_7] 26 (0,0)) (by (with_reducible repeat (first|refine kN_ ?_ _|refine kD_ ?_|refine kA_ ?_ _));exact BK257.out)) : gb291 ≠ gb257));have n13_:=mk_ ((by rw [hg];exact Nat.ne_of_lt (blk_lt (g:=gb258) (o:=.cells #[.slice A1_0 l1_0.length c1_0,.int .i64 a1_1] 66 (0,0)) (by (with_reducible repeat (first|refine kN_ ?_ _|refine kD_ ?_|refine kA_ ?_ _));exact BK258.out)) : gb258 ≠ gb291));have n14_:=mk_ ((by rw [hg];exact Nat.ne_of_gt (blk_lt (g:=gb258) (o:=.cells #[.slice A1_0 l1_0.length c1_0,.int .i64 a1_1] 66 (0,0)) (by (with_reducible repeat (first|refine kN_ ?_ _|refine kD_ ?_|refine kA_ ?_ _));exact BK258.out)) : gb291 ≠ gb258));have n15_:=mk_ ((by rw [hg];exact Nat.ne_of_lt (blk_lt (g:=gb286) (o:=.cells #[.int .i64 t276,.int .i64 t277,.int .i64 t278,.slice Ao157 t279.length co157,.int .i64 t282,.int .i64 t283,.bool t284,.int .i64 t285] 40 (0,0)) (by (with_reducible repeat (first|refine kN_ ?_ _|refine kD_ ?_|refine kA_ ?_ _));exact BK286.out)) : gb286 ≠ gb291));have n16_:=mk_ ((by rw [hg];exact Nat.ne_of_gt (blk_lt (g:=gb286) (o:=.cells #[.int .i64 t276,.int .i64 t277,.int .i64 t278,.slice Ao157 t279.length co157,.int .i64 t282,.int .i64 t283,.bool t284,.int .i64 t285] 40 (0,0)) (by (with_reducible repeat (first|refine kN_ ?_ _|refine kD_ ?_|refine kA_ ?_ _));exact BK286.out)) : gb291 ≠ gb286));clear HO266;clear HO273;clear HO281;clear HO289;clear BK257;clear BK258;clear BK286;clear HB;have HO266:=n0_;have HO273:=n1_;have HO281:=n2_;have HO289:=n3_;have BK257:=n4_;have BK258:=n5_;have BK286:=n6_;have HB:=n7_;have BK291:=n8_;have GW291:=n9_;have GE291:=n10_;have NB257_291:=n11_;have NB291_257:=n12_;have NB258_291:=n13_;have NB291_258:=n14_;have NB286_291:=n15_;have NB291_286:=n16_;clear n0_ n1_ n2_ n3_ n4_ n5_ n6_ n7_ n8_ n9_ n10_ n11_ n12_ n13_ n14_ n15_ n16_;clear hb hbox hg;obtain ⟨Ao161,co161,eo161⟩:=Kd.R_slice HO289.out;subst eo161;have hnb162:=NB291_257.out;have hnc162:=NB257_291.out;have hnb163:=NB291_258.out;have hnc163:=NB258_291.out;have hnb164:=NB291_286.out;have hnc164:=NB286_291.out;have hcz165_0 : w160.cell? ⟨gb291,0,none⟩ = some (.slice none 0 0):=(blk_cell BK291.out 0).trans rfl;have hcz165_1 : w160.cell? ⟨gb291,1,none⟩ = some (.int .i64 0):=(blk_cell BK291.out 1).trans rfl;have hfz165_0:=fZ_ BK291.out 0;have hfz165_1:=fZ_ BK291.out 1;have hcz166_0 : w160.cell? ⟨gb286,0,none⟩ = some (.int .i64 t276):=(blk_cell BK286.out 0).trans rfl;have hcz166_1 : w160.cell? ⟨gb286,1,none⟩ = some (.int .i64 t277):=(blk_cell BK286.out 1).trans rfl;have hcz166_2 : w160.cell? ⟨gb286,2,none⟩ = some (.int .i64 t278):=(blk_cell BK286.out 2).trans rfl;have hcz166_3 : w160.cell? ⟨gb286,3,none⟩ = some (.slice Ao157 t279.length co157):=(blk_cell BK286.out 3).trans rfl;have hcz166_4 : w160.cell? ⟨gb286,4,none⟩ = some (.int .i64 t282):=(blk_cell BK286.out 4).trans rfl;have hcz166_5 : w160.cell? ⟨gb286,5,none⟩ = some (.int .i64 t283):=(blk_cell BK286.out 5).trans rfl;have hcz166_6 : w160.cell? ⟨gb286,6,none⟩ = some (.bool t284):=(blk_cell BK286.out 6).trans rfl;have hcz166_7 : w160.cell? ⟨gb286,7,none⟩ = some (.int .i64 t285):=(blk_cell BK286.out 7).trans rfl;have hfz166_0:=fZ_ BK286.out 0;have hfz166_1:=fZ_ BK286.out 1;have hfz166_2:=fZ_ BK286.out 2;have hfz166_3:=fZ_ BK286.out 3;have hfz166_4:=fZ_ BK286.out 4;have hfz166_5:=fZ_ BK286.out 5;have hfz166_6:=fZ_ BK286.out 6;have hfz166_7:=fZ_ BK286.out 7)|((with_reducible refine gate_callee (f:=36) rfl ?_);refine goesL_ (some 31) rfl rfl Try.func36 (by kernel_rfl) rfl #[.agg #[.int .i64 t276,.int .i64 t277,.int .i64 t278,.slice Ao157 t279.length co157,.int .i64 t282,.int .i64 t283,.bool t284,.int .i64 t285],.agg #[.slice Ao161 t287.length co161,.int .i64 t290]] rfl (by (try simp only [List.map_toArray,List.map_cons,List.map_nil]);first|done|rfl|(simp only [List.length_drop,List.length_take];rfl)) ?_;(with_reducible refine (impl_ValidWipe.calls k t276 t277 t278 _ _ t279 t282 t283 t284 t285 _ _ t287 t290 t292 _ ?side1 ?side2 ?side3 ?side4 A24.out).mono ?_);(case side1 => refine (Kd.S_reads' (e:=120) (base:=w.heap.size) (ok:=fun k_ => (True ∧ some k_ ≠ (.slice Ao148 t264.length co148 : Value).ownBlock)) (n:=t279.length) (c:=co157) ?_).2.2;exact (by (with_reducible repeat (first|apply sA_|apply sN_|apply Kd.S_drew));exact (Kd.S_mono (Kd.S_far (p:=⟨gb291,1,none⟩) (Kd.S_far (p:=⟨gb291,0,none⟩) (Kd.S_types HO281.out BK291.out (by decide)) (fun _ hk => hk.2) (.slice Ao161 t287.length co161)) (fun _ hk => hk.2) (.int .i64 t290)) (fun _ h_ => h_.1))));(case side2 => exact (Kd.S_reads' HO281.out).2.1);(case side3 => refine (Kd.R_reads' (e:=2) (base:=w.heap.size) (ok:=fun k_ => (True ∧ some k_ ≠ (.slice Ao149 t271.length co149 : Value).ownBlock)) (n:=t287.length) (c:=co161) ?_).2.2;exact (by (with_reducible repeat (first|apply rA_|apply rN_|apply rD_));exact (Kd.R_mono (Kd.R_far (p:=⟨gb291,1,none⟩) (Kd.R_far (p:=⟨gb291,0,none⟩) (Kd.R_types HO289.out BK291.out (by decide)) (fun _ hk => hk.2) (.slice Ao161 t287.length co161)) (fun _ hk => hk.2) (.int .i64 t290)) (fun _ h_ => h_.1))));(case side4 => exact (Kd.R_reads' HO289.out).2.1);rintro e w167 ⟨rfl,hb⟩;refine ⟨_,rfl,?_⟩;have n0_:=mk_ (sB_ (by (with_reducible repeat (first|apply sA_|apply sN_|apply Kd.S_drew));exact (Kd.S_mono (Kd.S_far (p:=⟨gb291,1,none⟩) (Kd.S_far (p:=⟨gb291,0,none⟩) (Kd.S_types HO266.out BK291.out (by decide)) (fun _ hk => hk.2) (.slice Ao161 t287.length co161)) (fun _ hk => hk.2) (.int .i64 t290)) (fun _ h_ => h_.1))) hb);have n1_:=mk_ (Kd.R_below (by (with_reducible repeat (first|apply rA_|apply rN_|apply rD_));exact (Kd.R_mono (Kd.R_far (p:=⟨gb291,1,none⟩) (Kd.R_far (p:=⟨gb291,0,none⟩) (Kd.R_types HO273.out BK291.out (by decide)) (fun _ hk => hk.2) (.slice Ao161 t287.length co161)) (fun _ hk => hk.2) (.int .i64 t290)) (fun _ h_ => h_.1))) hb);have n2_:=mk_ (sB_ (by (with_reducible repeat (first|apply sA_|apply sN_|apply Kd.S_drew));exact (Kd.S_mono (Kd.S_far (p:=⟨gb291,1,none⟩) (Kd.S_far (p:=⟨gb291,0,none⟩) (Kd.S_types HO281.out BK291.out (by decide)) (fun _ hk => hk.2) (.slice Ao161 t287.length co161)) (fun _ hk => hk.2) (.int .i64 t290)) (fun _ h_ => h_.1))) hb);have n3_:=mk_ (Kd.R_below (by (with_reducible repeat (first|apply rA_|apply rN_|apply rD_));exact (Kd.R_mono (Kd.R_far (p:=⟨gb291,1,none⟩) (Kd.R_far (p:=⟨gb291,0,none⟩) (Kd.R_types HO289.out BK291.out (by decide)) (fun _ hk => hk.2) (.slice Ao161 t287.length co161)) (fun _ hk => hk.2) (.int .i64 t290)) (fun _ h_ => h_.1))) hb);have n4_:=mk_ (blk_below (g:=gb257) (o:=.cells #[.int .i64 a0_0,.int .i64 a0_1,.int .i64 a0_2,.slice A0_3 l0_3.length c0_3,.int .i64 a0_4,.int .i64 a0_5,.bool a0_6,.int .i64 a0_7] 26 (0,0)) (by (with_reducible repeat (first|refine kN_ ?_ _|refine kD_ ?_|refine kA_ ?_ _));refine blk_far ?_ NB257_291.out _;(with_reducible repeat (first|refine kN_ ?_ _|refine kD_ ?_|refine kA_ ?_ _));refine blk_far ?_ NB257_291.out _;(with_reducible repeat (first|refine kN_ ?_ _|refine kD_ ?_|refine kA_ ?_ _));exact BK257.out) hb);have n5_:=mk_ (blk_below (g:=gb258) (o:=.cells #[.slice A1_0 l1_0.length c1_0,.int .i64 a1_1] 66 (0,0)) (by (with_reducible repeat (first|refine kN_ ?_ _|refine kD_ ?_|refine kA_ ?_ _));refine blk_far ?_ NB258_291.out _;(with_reducible repeat (first|refine kN_ ?_ _|refine kD_ ?_|refine kA_ ?_ _));refine blk_far ?_ NB258_291.out _;(with_reducible repeat (first|refine kN_ ?_ _|refine kD_ ?_|refine kA_ ?_ _));exact BK258.out) hb);have n6_:=mk_ (blk_below (g:=gb286) (o:=.cells #[.int .i64 t276,.int .i64 t277,.int .i64 t278,.slice Ao157 t279.length co157,.int .i64 t282,.int .i64 t283,.bool t284,.int .i64 t285] 40 (0,0)) (by (with_reducible repeat (first|refine kN_ ?_ _|refine kD_ ?_|refine kA_ ?_ _));refine blk_far ?_ NB286_291.out _;(with_reducible repeat (first|refine kN_ ?_ _|refine kD_ ?_|refine kA_ ?_ _));refine blk_far ?_ NB286_291.out _;(with_reducible repeat (first|refine kN_ ?_ _|refine kD_ ?_|refine kA_ ?_ _));exact BK286.out) hb);have n7_:=mk_ (blk_below (g:=gb291) (o:=.cells #[.slice Ao161 t287.length co161,.int .i64 t290] 69 (0,0)) (by (with_reducible repeat (first|refine kN_ ?_ _|refine kD_ ?_|refine kA_ ?_ _));refine blk_put (cs:=#[.slice Ao161 t287.length co161,.int .i64 0]) ?_ 1 _ rfl;(with_reducible repeat (first|refine kN_ ?_ _|refine kD_ ?_|refine kA_ ?_ _));refine blk_put (cs:=#[.slice none 0 0,.int .i64 0]) ?_ 0 _ rfl;(with_reducible repeat (first|refine kN_ ?_ _|refine kD_ ?_|refine kA_ ?_ _));exact BK291.out) hb);have n8_:=mk_ (bT_ (by repeat (first|(with_reducible first|exact HB.out|apply bA_|apply bN_|apply bD_|refine bS_ ?_ GE257.out|refine bS_ ?_ GE258.out|refine bS_ ?_ GE286.out|refine bS_ ?_ GE291.out)|exact HB.out)) hb);clear HO266;clear HO273;clear HO281;clear HO289;clear BK257;clear BK258;clear BK286;clear BK291;clear HB;have HO266:=n0_;have HO273:=n1_;have HO281:=n2_;have HO289:=n3_;have BK257:=n4_;have BK258:=n5_;have BK286:=n6_;have BK291:=n7_;have HB:=n8_;clear n0_ n1_ n2_ n3_ n4_ n5_ n6_ n7_ n8_;(try clear hb);(try clear hb2);(try clear hk);(try clear hi)))
          have n0_ := Aside0.mk (Kd.S_drew HO266.out)
          have n1_ := Aside0.mk (Kd.R_drew HO273.out)
          have n2_ := Aside0.mk (Kd.S_drew HO281.out)
          have n3_ := Aside0.mk (Kd.R_drew HO289.out)
          have n4_ := Aside0.mk (blk_drew BK257.out)
          have n5_ := Aside0.mk (blk_drew BK258.out)
          have n6_ := Aside0.mk (blk_drew BK286.out)
          have n7_ := Aside0.mk (blk_drew BK291.out)
          have n8_ := Aside0.mk (below_drew1 HB.out)
          clear HO266
          clear HO273
          clear HO281
          clear HO289
          clear BK257
          clear BK258
          clear BK286
          clear BK291
          clear HB
          have HO266 := n0_
          have HO273 := n1_
          have HO281 := n2_
          have HO289 := n3_
          have BK257 := n4_
          have BK258 := n5_
          have BK286 := n6_
          have BK291 := n7_
          have HB := n8_
          clear n0_ n1_ n2_ n3_ n4_ n5_ n6_ n7_ n8_
          refine start_ (n:=5) (S:=fun w' => w'.cell? ⟨gb286,0,none⟩ = some (.int .i64 t276) ∧ w'.cell? ⟨gb286,1,none⟩ = some (.int .i64 t277) ∧ w'.cell? ⟨gb286,2,none⟩ = some (.int .i64 t278) ∧ w'.cell? ⟨gb286,3,none⟩ = some (.slice Ao157 t279.length co157) ∧ w'.cell? ⟨gb286,4,none⟩ = some (.int .i64 t282) ∧ w'.cell? ⟨gb286,5,none⟩ = some (.int .i64 t283) ∧ w'.cell? ⟨gb286,6,none⟩ = some (.bool t284) ∧ w'.cell? ⟨gb286,7,none⟩ = some (.int .i64 t285) ∧ w'.cell? ⟨gb257,0,none⟩ = some (.int .i64 a0_0) ∧ w'.cell? ⟨gb257,1,none⟩ = some (.int .i64 a0_1) ∧ w'.cell? ⟨gb257,2,none⟩ = some (.int .i64 a0_2) ∧ w'.cell? ⟨gb257,3,none⟩ = some (.slice A0_3 l0_3.length c0_3) ∧ w'.cell? ⟨gb257,4,none⟩ = some (.int .i64 a0_4) ∧ w'.cell? ⟨gb257,5,none⟩ = some (.int .i64 a0_5) ∧ w'.cell? ⟨gb257,6,none⟩ = some (.bool a0_6) ∧ w'.cell? ⟨gb257,7,none⟩ = some (.int .i64 a0_7)) (ds:=[]) #[false,false,false,false,false] (by kernel_rfl) rfl rfl ⟨(blk_cell BK286.out 0).trans rfl,(blk_cell BK286.out 1).trans rfl,(blk_cell BK286.out 2).trans rfl,(blk_cell BK286.out 3).trans rfl,(blk_cell BK286.out 4).trans rfl,(blk_cell BK286.out 5).trans rfl,(blk_cell BK286.out 6).trans rfl,(blk_cell BK286.out 7).trans rfl,(blk_cell BK257.out 0).trans rfl,(blk_cell BK257.out 1).trans rfl,(blk_cell BK257.out 2).trans rfl,(blk_cell BK257.out 3).trans rfl,(blk_cell BK257.out 4).trans rfl,(blk_cell BK257.out 5).trans rfl,(blk_cell BK257.out 6).trans rfl,(blk_cell BK257.out 7).trans rfl⟩ (fun hHeld => ?_)
          generalize w167.drew = w168 at HO266 HO273 HO281 HO289 BK257 BK258 BK286 BK291 HB hHeld ⊢
          refine take_ (i := 0) (N := some 35) (v := ?_) (a' := ?_) #[true, false, false, false, false] rfl rfl (by kernel_rfl) (fun _ _ _ h => h) (Or.inl ⟨by rfl, ?_⟩) hHeld ?_ ?_
          rotate_left
          · rintro w' ⟨s0, s1, s2, s3, s4, s5, s6, s7, s8, s9, s10, s11, s12, s13, s14, s15⟩
            go_simp
            with_reducible rfl
          rotate_left
          · simp only [Act.put, List.setIfInBounds_toArray, List.set_cons_zero, List.set_cons_succ, i64_w, i32_w]
            rfl
          refine take_ (i := 1) (N := some 36) (v := ?_) (a' := ?_) #[true, true, false, false, false] rfl rfl (by kernel_rfl) (fun _ _ _ h => h) (Or.inl ⟨by rfl, ?_⟩) hHeld ?_ ?_
          rotate_left
          · rintro w' ⟨s0, s1, s2, s3, s4, s5, s6, s7, s8, s9, s10, s11, s12, s13, s14, s15⟩
            go_simp
            with_reducible rfl
          rotate_left
          · simp only [Act.put, List.setIfInBounds_toArray, List.set_cons_zero, List.set_cons_succ, i64_w, i32_w]
            rfl
          refine one_ (i := 2) (N := some 37) #[true, true, true, false, false] rfl rfl (by kernel_rfl) (by decide) (fun K hK => ?_)
          refine goes_ Try.func30 (by kernel_rfl) rfl #[.agg #[.int .i64 a0_0,.int .i64 a0_1,.int .i64 a0_2,.slice A0_3 l0_3.length c0_3,.int .i64 a0_4,.int .i64 a0_5,.bool a0_6,.int .i64 a0_7]] (by rfl) rfl rfl (by (try simp only [List.map_toArray,List.map_cons,List.map_nil]);first|done|rfl|(simp only [List.length_drop,List.length_take];rfl)) ?_
          with_reducible refine (laws_toFlash.calls k a0_0 a0_1 a0_2 _ _ l0_3 a0_4 a0_5 a0_6 a0_7 t293 t294 t295 t296 t299 t300 t301 t302 _ ?side1 ?side2 A56.out).mono ?_
          (case side1 => repeat (first|exact (Kd.C_below HR0_3.out HB.out)|(with_reducible refine cA_ ?_ _)|(with_reducible refine Kd.C_drewN ?_ _)|(with_reducible refine Kd.C_drew ?_)))
          (case side2 => exact HC0_3.out)
          rintro e w169 ⟨v297, rfl, ho0, hb⟩
          refine ⟨_, rfl, ?_⟩
          have n0_ := Aside0.mk (Kd.S_elder' (by (with_reducible repeat (first | apply Kd.S_alloc | apply Kd.S_drewN | apply Kd.S_drew)); exact HO266.out) (Kd.S_base ho0) hb)
          have n1_ := Aside0.mk (Kd.R_below (by (with_reducible repeat (first | apply Kd.R_alloc | apply Kd.R_drewN | apply Kd.R_drew)); exact HO273.out) hb)
          have n2_ := Aside0.mk (Kd.S_elder' (by (with_reducible repeat (first | apply Kd.S_alloc | apply Kd.S_drewN | apply Kd.S_drew)); exact HO281.out) (Kd.S_base ho0) hb)
          have n3_ := Aside0.mk (Kd.R_below (by (with_reducible repeat (first | apply Kd.R_alloc | apply Kd.R_drewN | apply Kd.R_drew)); exact HO289.out) hb)
          have n4_:=mk_ (Kd.S_lower (Kd.S_new' (Kd.S_new' ho0 (Kd.S_lt (by (with_reducible repeat (first|apply sA_|apply sN_|apply Kd.S_drew));exact HO266.out))) (Kd.S_lt (by (with_reducible repeat (first|apply sA_|apply sN_|apply Kd.S_drew));exact HO281.out))) (bZ_ (by repeat (first|(with_reducible first|exact HB.out|apply bA_|apply bN_|apply bD_|refine bS_ ?_ GE257.out|refine bS_ ?_ GE258.out|refine bS_ ?_ GE286.out|refine bS_ ?_ GE291.out)|exact HB.out))))
          have n5_:=mk_ (blk_below (g:=gb257) (o:=.cells #[.int .i64 a0_0,.int .i64 a0_1,.int .i64 a0_2,.slice A0_3 l0_3.length c0_3,.int .i64 a0_4,.int .i64 a0_5,.bool a0_6,.int .i64 a0_7] 26 (0,0)) (by (with_reducible repeat (first|refine kN_ ?_ _|refine kD_ ?_|refine kA_ ?_ _));exact BK257.out) hb)
          have n6_:=mk_ (blk_below (g:=gb258) (o:=.cells #[.slice A1_0 l1_0.length c1_0,.int .i64 a1_1] 66 (0,0)) (by (with_reducible repeat (first|refine kN_ ?_ _|refine kD_ ?_|refine kA_ ?_ _));exact BK258.out) hb)
          have n7_:=mk_ (blk_below (g:=gb286) (o:=.cells #[.int .i64 t276,.int .i64 t277,.int .i64 t278,.slice Ao157 t279.length co157,.int .i64 t282,.int .i64 t283,.bool t284,.int .i64 t285] 40 (0,0)) (by (with_reducible repeat (first|refine kN_ ?_ _|refine kD_ ?_|refine kA_ ?_ _));exact BK286.out) hb)
          have n8_:=mk_ (blk_below (g:=gb291) (o:=.cells #[.slice Ao161 t287.length co161,.int .i64 t290] 69 (0,0)) (by (with_reducible repeat (first|refine kN_ ?_ _|refine kD_ ?_|refine kA_ ?_ _));exact BK291.out) hb)
          have n9_:=mk_ (bT_ (by repeat (first|(with_reducible first|exact HB.out|apply bA_|apply bN_|apply bD_|refine bS_ ?_ GE257.out|refine bS_ ?_ GE258.out|refine bS_ ?_ GE286.out|refine bS_ ?_ GE291.out)|exact HB.out)) hb)
          clear HO266
          clear HO273
          clear HO281
          clear HO289
          clear BK257
          clear BK258
          clear BK286
          clear BK291
          clear HB
          have HO266 := n0_
          have HO273 := n1_
          have HO281 := n2_
          have HO289 := n3_
          have HO298 := n4_
          have BK257 := n5_
          have BK258 := n6_
          have BK286 := n7_
          have BK291 := n8_
          have HB := n9_
          clear n0_ n1_ n2_ n3_ n4_ n5_ n6_ n7_ n8_ n9_
          (try clear hb)
          (try clear hb2)
          (try clear hk)
          (try clear hi)
          (try clear ho0)
          obtain ⟨Ao170, co170, eo170⟩ := Kd.S_slice HO298.out
          (first | subst eo170 | (injection eo170 with f1_ f2_ f3_; have f4_ := f1_.symm; have f5_ := f3_.symm; clear f1_ f2_ f3_; subst f4_; subst f5_))
          refine hK.out _ _ ⟨(blk_cell BK286.out 0).trans rfl,(blk_cell BK286.out 1).trans rfl,(blk_cell BK286.out 2).trans rfl,(blk_cell BK286.out 3).trans rfl,(blk_cell BK286.out 4).trans rfl,(blk_cell BK286.out 5).trans rfl,(blk_cell BK286.out 6).trans rfl,(blk_cell BK286.out 7).trans rfl,(blk_cell BK257.out 0).trans rfl,(blk_cell BK257.out 1).trans rfl,(blk_cell BK257.out 2).trans rfl,(blk_cell BK257.out 3).trans rfl,(blk_cell BK257.out 4).trans rfl,(blk_cell BK257.out 5).trans rfl,(blk_cell BK257.out 6).trans rfl,(blk_cell BK257.out 7).trans rfl⟩ (fun hHeld => ?_)
          clear hK K
          refine norm_ (a' := ?_) ?_ ?_
          rotate_left
          · show Act.put _ (some 37) _ = _
            simp only [Act.put, List.setIfInBounds_toArray, List.set_cons_zero, List.set_cons_succ, i64_w, i32_w]
            rfl
          refine one_ (i := 3) (N := some 38) #[true, true, true, true, false] rfl rfl (by kernel_rfl) (by decide) (fun K hK => ?_)
          refine goes_ Try.func32 (by kernel_rfl) rfl #[.agg #[.int .i64 t276,.int .i64 t277,.int .i64 t278,.slice Ao157 t279.length co157,.int .i64 t282,.int .i64 t283,.bool t284,.int .i64 t285],.agg #[.int .i64 t293,.int .i64 t294,.int .i64 t295,.slice Ao170 t296.length co170,.int .i64 t299,.int .i64 t300,.bool t301,.int .i64 t302]] (by rfl) rfl rfl (by (try simp only [List.map_toArray,List.map_cons,List.map_nil]);first|done|rfl|(simp only [List.length_drop,List.length_take];rfl)) ?_
          with_reducible refine (laws_eqFlash.calls k t276 t277 t278 _ _ t279 t282 t283 t284 t285 t293 t294 t295 _ _ t296 t299 t300 t301 t302 false _ ?side1 ?side2 ?side3 ?side4 A57.out).mono ?_
          (case side1 => repeat (first | exact (Kd.S_reads' HO281.out).2.2 | (with_reducible refine Kd.C_alloc ?_ _) | (with_reducible refine Kd.C_drewN ?_ _) | (with_reducible refine Kd.C_drew ?_)))
          (case side2 => exact (Kd.S_reads' HO281.out).2.1)
          (case side3 => repeat (first | exact (Kd.S_reads' HO298.out).2.2 | (with_reducible refine Kd.C_alloc ?_ _) | (with_reducible refine Kd.C_drewN ?_ _) | (with_reducible refine Kd.C_drew ?_)))
          (case side4 => exact (Kd.S_reads' HO298.out).2.1)
          rintro e w171 ⟨rfl, hb⟩
          refine ⟨_, rfl, ?_⟩
          have n0_ := Aside0.mk (Kd.S_below (by (with_reducible repeat (first | apply Kd.S_alloc | apply Kd.S_drewN | apply Kd.S_drew)); exact HO266.out) hb)
          have n1_ := Aside0.mk (Kd.R_below (by (with_reducible repeat (first | apply Kd.R_alloc | apply Kd.R_drewN | apply Kd.R_drew)); exact HO273.out) hb)
          have n2_ := Aside0.mk (Kd.S_below (by (with_reducible repeat (first | apply Kd.S_alloc | apply Kd.S_drewN | apply Kd.S_drew)); exact HO281.out) hb)
          have n3_ := Aside0.mk (Kd.R_below (by (with_reducible repeat (first | apply Kd.R_alloc | apply Kd.R_drewN | apply Kd.R_drew)); exact HO289.out) hb)
          have n4_ := Aside0.mk (Kd.S_below (by (with_reducible repeat (first | apply Kd.S_alloc | apply Kd.S_drewN | apply Kd.S_drew)); exact HO298.out) hb)
          have n5_:=mk_ (blk_below (g:=gb257) (o:=.cells #[.int .i64 a0_0,.int .i64 a0_1,.int .i64 a0_2,.slice A0_3 l0_3.length c0_3,.int .i64 a0_4,.int .i64 a0_5,.bool a0_6,.int .i64 a0_7] 26 (0,0)) (by (with_reducible repeat (first|refine kN_ ?_ _|refine kD_ ?_|refine kA_ ?_ _));exact BK257.out) hb)
          have n6_:=mk_ (blk_below (g:=gb258) (o:=.cells #[.slice A1_0 l1_0.length c1_0,.int .i64 a1_1] 66 (0,0)) (by (with_reducible repeat (first|refine kN_ ?_ _|refine kD_ ?_|refine kA_ ?_ _));exact BK258.out) hb)
          have n7_:=mk_ (blk_below (g:=gb286) (o:=.cells #[.int .i64 t276,.int .i64 t277,.int .i64 t278,.slice Ao157 t279.length co157,.int .i64 t282,.int .i64 t283,.bool t284,.int .i64 t285] 40 (0,0)) (by (with_reducible repeat (first|refine kN_ ?_ _|refine kD_ ?_|refine kA_ ?_ _));exact BK286.out) hb)
          have n8_:=mk_ (blk_below (g:=gb291) (o:=.cells #[.slice Ao161 t287.length co161,.int .i64 t290] 69 (0,0)) (by (with_reducible repeat (first|refine kN_ ?_ _|refine kD_ ?_|refine kA_ ?_ _));exact BK291.out) hb)
          have n9_:=mk_ (bT_ (by repeat (first|(with_reducible first|exact HB.out|apply bA_|apply bN_|apply bD_|refine bS_ ?_ GE257.out|refine bS_ ?_ GE258.out|refine bS_ ?_ GE286.out|refine bS_ ?_ GE291.out)|exact HB.out)) hb)
          clear HO266
          clear HO273
          clear HO281
          clear HO289
          clear HO298
          clear BK257
          clear BK258
          clear BK286
          clear BK291
          clear HB
          have HO266 := n0_
          have HO273 := n1_
          have HO281 := n2_
          have HO289 := n3_
          have HO298 := n4_
          have BK257 := n5_
          have BK258 := n6_
          have BK286 := n7_
          have BK291 := n8_
          have HB := n9_
          clear n0_ n1_ n2_ n3_ n4_ n5_ n6_ n7_ n8_ n9_
          (try clear hb)
          (try clear hb2)
          (try clear hk)
          (try clear hi)
          refine hK.out _ _ ⟨(blk_cell BK286.out 0).trans rfl,(blk_cell BK286.out 1).trans rfl,(blk_cell BK286.out 2).trans rfl,(blk_cell BK286.out 3).trans rfl,(blk_cell BK286.out 4).trans rfl,(blk_cell BK286.out 5).trans rfl,(blk_cell BK286.out 6).trans rfl,(blk_cell BK286.out 7).trans rfl,(blk_cell BK257.out 0).trans rfl,(blk_cell BK257.out 1).trans rfl,(blk_cell BK257.out 2).trans rfl,(blk_cell BK257.out 3).trans rfl,(blk_cell BK257.out 4).trans rfl,(blk_cell BK257.out 5).trans rfl,(blk_cell BK257.out 6).trans rfl,(blk_cell BK257.out 7).trans rfl⟩ (fun hHeld => ?_)
          clear hK K
          refine norm_ (a' := ?_) ?_ ?_
          rotate_left
          · show Act.put _ (some 38) _ = _
            simp only [Act.put, List.setIfInBounds_toArray, List.set_cons_zero, List.set_cons_succ, i64_w, i32_w]
            rfl
          refine pure_ (i := 4) (N := some 39) (v := ?_) (a' := ?_) #[true, true, true, true, true] rfl rfl (by kernel_rfl) (fun _ _ _ h => h) (Or.inl ⟨by rfl, ?_⟩) ?_ ?_
          rotate_left
          · intro w'
            go_simp
            with_reducible rfl
          rotate_left
          · simp only [Act.put, List.setIfInBounds_toArray, List.set_cons_zero, List.set_cons_succ, i64_w, i32_w]
            rfl
          refine done_ (by kernel_rfl) ?_
          try go_wp2
          go_ret
          exact ⟨by first|rfl|(simp [errW_none,errW_some] <;> rfl)|(simp [*,errW_none,errW_some] <;> rfl),by repeat (first|(with_reducible first|exact HB.out|apply bA_|apply bN_|apply bD_|refine bS_ ?_ GE257.out|refine bS_ ?_ GE258.out|refine bS_ ?_ GE286.out|refine bS_ ?_ GE291.out)|exact HB.out)⟩

end Go.Proofs.Ytaecdlhomihejaa.Q
