/- The program's functions as Lean functions,and for each the proof that the machine's call comes to what its function says. Conditions: those that stand before each theorem. -/
import Derived.Test.YtajocpalpnpmdaaQ0
import Derived.Test.YtajocpalpnpmdaaQ1
namespace Go.Proofs.Ytajocpalpnpmdaa.Q
open Go.RowKit Go.Proofs.YtajocpalpnpmdaaW.PrintWords Go.Proofs.YtajocpalpnpmdaaW.PrintLast Go.Proofs.YtajocpalpnpmdaaW.PrintMore
abbrev kN4_ := @blk_drewN
abbrev kD4_ := @blk_drew
abbrev kA4_ := @blk_alloc
abbrev bA4_ := @below_alloc
abbrev bN4_ := @pw_below_drewN
abbrev bD4_ := @below_drew1
abbrev bS4_ := @below_set
abbrev mk4_ := @Aside0.mk
abbrev fZ4_ := @blk_frozen
abbrev sA4_ := @Kd.S_alloc
abbrev bT4_ := @below_step
abbrev bZ4_ := @below_size
abbrev mA4_ := @List.map_toArray
abbrev mC4_ := @List.map_cons
abbrev mN4_ := @List.map_nil
set_option linter.unusedVariables false
set_option linter.unusedSimpArgs false

def spec_l09Size.f (a0:Int) (a1:Int) (a2:Int):Option (Bool):=(spec_l00In.f a0 1 48).bind fun t132=>(if t132=true then ((spec_l00In.f a1 1 640).bind fun t133=>(if t133=true then ((spec_l00In.f a2 1 640).bind fun t134=>(if t134=true then (some (decide ((wrap64 (a1 * a2))≤640))) else (some false))) else (some false))) else (some false))
set_option maxHeartbeats 8000000 in
set_option maxRecDepth 100000 in
theorem spec_l09Size.calls (a0:Int) (a1:Int) (a2:Int) (r:Bool) (w:World) (h:spec_l09Size.f a0 a1 a2=some r) :
  Calls Try.prog 70 #[.int .i64 a0,.int .i64 a1,.int .i64 a2] w fun e w'=>e=.returned (.bool r)∧Drawn0 w w':=by
 have H:((spec_l00In.f a0 1 48).bind fun t132=>(if t132=true then ((spec_l00In.f a1 1 640).bind fun t133=>(if t133=true then ((spec_l00In.f a2 1 640).bind fun t134=>(if t134=true then (some (decide ((wrap64 (a1 * a2))≤640))) else (some false))) else (some false))) else (some false)))=some r:=h
 clear h
 replace H := Option.bind_eq_some_iff.mp H
 obtain ⟨t132, A40, H⟩ := H
 replace H:(if t132=true then ((spec_l00In.f a1 1 640).bind fun t133=>(if t133=true then ((spec_l00In.f a2 1 640).bind fun t134=>(if t134=true then (some (decide ((wrap64 (a1 * a2))≤640))) else (some false))) else (some false))) else (some false))=some r:=H
 have A4 := Aside0.mk A40
 clear A40
 by_cases c5 : t132 = true
 ·subst c5
  have H1:((spec_l00In.f a1 1 640).bind fun t133=>(if t133=true then ((spec_l00In.f a2 1 640).bind fun t134=>(if t134=true then (some (decide ((wrap64 (a1 * a2))≤640))) else (some false))) else (some false)))=some r:=by rw [if_pos rfl] at H;exact H
  clear H
  have H := H1
  clear H1
  replace H := Option.bind_eq_some_iff.mp H
  obtain ⟨t133, A60, H⟩ := H
  replace H:(if t133=true then ((spec_l00In.f a2 1 640).bind fun t134=>(if t134=true then (some (decide ((wrap64 (a1 * a2))≤640))) else (some false))) else (some false))=some r:=H
  have A6 := Aside0.mk A60
  clear A60
  by_cases c7 : t133 = true
  ·subst c7
   have H1:((spec_l00In.f a2 1 640).bind fun t134=>(if t134=true then (some (decide ((wrap64 (a1 * a2))≤640))) else (some false)))=some r:=by rw [if_pos rfl] at H;exact H
   clear H
   have H := H1
   clear H1
   replace H := Option.bind_eq_some_iff.mp H
   obtain ⟨t134, A80, H⟩ := H
   replace H:(if t134=true then (some (decide ((wrap64 (a1 * a2))≤640))) else (some false))=some r:=H
   have A8 := Aside0.mk A80
   clear A80
   by_cases c9 : t134 = true
   ·subst c9
    have H1:(some (decide ((wrap64 (a1 * a2))≤640)))=some r:=by rw [if_pos rfl] at H;exact H
    clear H
    have H := H1
    clear H1
    obtain rfl := Option.some.inj H
    go_enter Try.func70, Try.ntmps70
    go_wp2_with (first|((with_reducible refine gate_callee (f:=47) rfl ?_);refine goesL_ (some 8) rfl rfl Try.func47 (by kernel_rfl) rfl #[.int .i64 a0,.int .i64 1,.int .i64 48] rfl (by (try simp only [mA4_,mC4_,mN4_]);first|done|rfl|(simp only [List.length_drop,List.length_take];rfl)) ?_;(with_reducible refine (spec_l00In.calls a0 1 48 true _ A4.out).mono ?_);rintro e w' ⟨rfl,⟨nd,rfl⟩⟩;refine ⟨_,rfl,?_⟩)|(go_at_call 47;(with_reducible refine (spec_l00In.calls a1 1 640 true _ A6.out).mono ?_);rintro e w' ⟨rfl,⟨nd,rfl⟩⟩)|(go_at_call 47;(with_reducible refine (spec_l00In.calls a2 1 640 true _ A8.out).mono ?_);rintro e w' ⟨rfl,⟨nd,rfl⟩⟩))
    go_ret
    exact ⟨by first|rfl|(simp;done)|(simp [*];done),by repeat (first|exact Drawn0.refl _|apply Drawn0.step)⟩
   ·replace c9 := Bool.eq_false_iff.mpr c9
    subst c9
    have H1:(some false)=some r:=by rw [if_neg (show ¬ (false=true) by decide)] at H;exact H
    clear H
    have H := H1
    clear H1
    obtain rfl := Option.some.inj H
    go_enter Try.func70, Try.ntmps70
    go_wp2_with (first|((with_reducible refine gate_callee (f:=47) rfl ?_);refine goesL_ (some 8) rfl rfl Try.func47 (by kernel_rfl) rfl #[.int .i64 a0,.int .i64 1,.int .i64 48] rfl (by (try simp only [mA4_,mC4_,mN4_]);first|done|rfl|(simp only [List.length_drop,List.length_take];rfl)) ?_;(with_reducible refine (spec_l00In.calls a0 1 48 true _ A4.out).mono ?_);rintro e w' ⟨rfl,⟨nd,rfl⟩⟩;refine ⟨_,rfl,?_⟩)|(go_at_call 47;(with_reducible refine (spec_l00In.calls a1 1 640 true _ A6.out).mono ?_);rintro e w' ⟨rfl,⟨nd,rfl⟩⟩)|(go_at_call 47;(with_reducible refine (spec_l00In.calls a2 1 640 false _ A8.out).mono ?_);rintro e w' ⟨rfl,⟨nd,rfl⟩⟩))
    go_ret
    exact ⟨by first|rfl|(simp;done)|(simp [*];done),by repeat (first|exact Drawn0.refl _|apply Drawn0.step)⟩
  ·replace c7 := Bool.eq_false_iff.mpr c7
   subst c7
   have H1:(some false)=some r:=by rw [if_neg (show ¬ (false=true) by decide)] at H;exact H
   clear H
   have H := H1
   clear H1
   obtain rfl := Option.some.inj H
   go_enter Try.func70, Try.ntmps70
   go_wp2_with (first|((with_reducible refine gate_callee (f:=47) rfl ?_);refine goesL_ (some 8) rfl rfl Try.func47 (by kernel_rfl) rfl #[.int .i64 a0,.int .i64 1,.int .i64 48] rfl (by (try simp only [mA4_,mC4_,mN4_]);first|done|rfl|(simp only [List.length_drop,List.length_take];rfl)) ?_;(with_reducible refine (spec_l00In.calls a0 1 48 true _ A4.out).mono ?_);rintro e w' ⟨rfl,⟨nd,rfl⟩⟩;refine ⟨_,rfl,?_⟩)|(go_at_call 47;(with_reducible refine (spec_l00In.calls a1 1 640 false _ A6.out).mono ?_);rintro e w' ⟨rfl,⟨nd,rfl⟩⟩))
   go_ret
   exact ⟨by first|rfl|(simp;done)|(simp [*];done),by repeat (first|exact Drawn0.refl _|apply Drawn0.step)⟩
 ·replace c5 := Bool.eq_false_iff.mpr c5
  subst c5
  have H1:(some false)=some r:=by rw [if_neg (show ¬ (false=true) by decide)] at H;exact H
  clear H
  have H := H1
  clear H1
  obtain rfl := Option.some.inj H
  go_enter Try.func70, Try.ntmps70
  go_wp2_with (first|((with_reducible refine gate_callee (f:=47) rfl ?_);refine goesL_ (some 8) rfl rfl Try.func47 (by kernel_rfl) rfl #[.int .i64 a0,.int .i64 1,.int .i64 48] rfl (by (try simp only [mA4_,mC4_,mN4_]);first|done|rfl|(simp only [List.length_drop,List.length_take];rfl)) ?_;(with_reducible refine (spec_l00In.calls a0 1 48 false _ A4.out).mono ?_);rintro e w' ⟨rfl,⟨nd,rfl⟩⟩;refine ⟨_,rfl,?_⟩))
  go_ret
  exact ⟨by first|rfl|(simp;done)|(simp [*];done),by repeat (first|exact Drawn0.refl _|apply Drawn0.step)⟩

-- NOT PRINTED: function 45 (spec_l09Ok)

def IsS42 (w0 W:World) (g:Nat) (f0:List Int) (f1:Int):Prop:=∃ A0 c0,W.heap[g]?=some (.cells #[.slice A0 f0.length c0,.int .i64 f1] 42 (0,0))∧w0.heap.size≤g∧Kd.C (Kd.int .i64) w0 A0 f0.length f0
theorem IsS42.grown {w0 W:World} {g:Nat} {f0:List Int} {f1:Int} {W1:World} {row:Option Nat} (h:IsS42 w0 W g f0 f1) (hw:W.grownBy W1 row) (hne:some g≠row):IsS42 w0 W1 g f0 f1:=by
 obtain ⟨A0, c0, hb, hg, hr0⟩ := h
 exact ⟨A0, c0, blk_grown hb hw hne, hg, hr0⟩
theorem IsS42.kept {w0 W:World} {g:Nat} {f0:List Int} {f1:Int} {W1:World} {S:Nat→Prop} (h:IsS42 w0 W g f0 f1) (hk:Kept W W1 S) (hne:¬ S g):IsS42 w0 W1 g f0 f1:=by
 obtain ⟨A0, c0, hb, hg, hr0⟩ := h
 exact ⟨A0, c0, blk_kept hb hk hne, hg, hr0⟩
theorem IsS42.below {w0 W:World} {g:Nat} {f0:List Int} {f1:Int} {W1:World} (h:IsS42 w0 W g f0 f1) (hw:Below W.heap.size W W1):IsS42 w0 W1 g f0 f1:=h.grown (grown_of_below hw none) (by simp)
theorem IsS42.alloc {w0 W:World} {g:Nat} {f0:List Int} {f1:Int} (h:IsS42 w0 W g f0 f1) (o:Obj):IsS42 w0 (W.alloc o) g f0 f1:=h.below (bA4_ (Below.refl _ _) o)
theorem IsS42.drew {w0 W:World} {g:Nat} {f0:List Int} {f1:Int} (h:IsS42 w0 W g f0 f1):IsS42 w0 W.drew g f0 f1:=h
theorem IsS42.apart {w0 W:World} {g:Nat} {f0:List Int} {f1:Int} {α:Type} {d:Kd α} {e:Nat} {base:Nat} {ok:Nat→Prop} {v:Value} {xs:List α} (h:IsS42 w0 W g f0 f1) (ho:d.R e W base ok v xs) (ht:∀ q,q ∈ e::d.E→q≠42):d.R e W base (fun k=>ok k∧k≠g) v xs:=by
 obtain ⟨A0, c0, hb, hg, hr0⟩ := h
 exact Kd.R_types ho hb ht

mutual
def spec_l13Ok.j0 : Nat → Bool → List Int → Int → Option (Bool × Int)
 | 0, _, _, _ => none
 | k+1,x25,x1000,x1001=>if x25=true then (some (false,x1001)) else (spec_l13Ok.l0 k 0 x1000 x1001)
def spec_l13Ok.l0 : Nat → Int → List Int → Int → Option (Bool × Int)
 | 0, _, _, _ => none
 | k+1,x3,x1000,x1001=>if x3 < (x1000.length:Int) then (if 0≤x3 then ((spec_l00In.f (rd x1000 x3) 0 1000000).bind fun t145=>(if t145=true then (spec_l13Ok.l0 k (wrap64 (x3+1)) x1000 x1001) else (some (false,x1001)))) else (none)) else (some (true,x1001))
end
def spec_l13Ok.f (k:Nat) (s0_0:List Int) (s0_1:Int):Option (Bool × Int):=if (s0_0.length:Int) < 1 then (spec_l13Ok.j0 k true s0_0 s0_1) else (if (s0_0.length:Int) > 48 then (spec_l13Ok.j0 k true s0_0 s0_1) else ((spec_l00In.f s0_1 0 15).bind fun t143=>(spec_l13Ok.j0 k (!t143) s0_0 s0_1)))

-- NOT PRINTED: function 20 (spec_l14Ok)

def laws_toGeometry.f (a0_0:Int) (a0_1:Int) (a0_2:Int):Option (Int × Int × Int):=some (a0_0,a0_1,a0_2)
set_option maxHeartbeats 8000000 in
set_option maxRecDepth 100000 in
theorem laws_toGeometry.calls (a0_0:Int) (a0_1:Int) (a0_2:Int) (r1:Int) (r2:Int) (r3:Int) (w:World) (h:laws_toGeometry.f a0_0 a0_1 a0_2=some (r1,r2,r3)) :
  Calls Try.prog 48 #[.agg #[.int .i64 a0_0,.int .i64 a0_1,.int .i64 a0_2]] w fun e w'=>e=.returned (.agg #[.int .i64 r1,.int .i64 r2,.int .i64 r3])∧Below w.heap.size w w':=by
 have hu23 := Try.underlying23
 have hu37 := Try.underlying37
 have HB := Aside0.mk (Below.refl w.heap.size w)
 have H : (some (a0_0, a0_1, a0_2)) = some (r1, r2, r3) := h
 clear h
 simp only [Option.some.injEq, Prod.mk.injEq] at H
 obtain ⟨rfl, rfl, rfl⟩ := H
 go_enter Try.func48, Try.ntmps48
 go_wp2_with (first|((with_reducible refine gate_dst (N:=1) rfl ?_);refine box_event ?hg (N:=1) ?hd (cs:=#[.int .i64 a0_0,.int .i64 a0_1,.int .i64 a0_2]) (t:=23) ?hr ?_;(case hd=>rfl);(case hg=>rfl);(case hr=>first|(go_simp;done)|(go_simp;rfl));intro gb146 hg w2 hbox hb;have n0_:=mk4_ (bT4_ (by repeat (first|(with_reducible first|exact HB.out|apply bA4_|apply bN4_|apply bD4_)|exact HB.out)) hb);have n1_:=mk4_ (hbox);have n2_:=mk4_ ((by rw [hg];exact (bZ4_ (by repeat (first|(with_reducible first|exact HB.out|apply bA4_|apply bN4_|apply bD4_)|exact HB.out))):w.heap.size≤gb146));have n3_:=mk4_ ((by rw [hg];exact (bZ4_ (by repeat (first|(with_reducible first|exact HB.out|apply bA4_|apply bN4_|apply bD4_)|exact HB.out))):w.heap.size≤gb146));clear HB;have HB:=n0_;have BK146:=n1_;have GW146:=n2_;have GE146:=n3_;clear n0_ n1_ n2_ n3_;clear hb hbox hg)|((with_reducible refine gate_dst (N:=2) rfl ?_);refine box_event ?hg (N:=2) ?hd (cs:=#[.int .i64 0,.int .i64 0,.int .i64 0]) (t:=37) ?hr ?_;(case hd=>rfl);(case hg=>rfl);(case hr=>first|(go_simp;done)|(go_simp;rfl));intro gb147 hg w3 hbox hb;have n0_:=mk4_ (blk_below (g:=gb146) (o:=.cells #[.int .i64 a0_0,.int .i64 a0_1,.int .i64 a0_2] 23 (0,0)) (by (with_reducible repeat (first|refine kN4_ ?_ _|refine kD4_ ?_|refine kA4_ ?_ _));exact BK146.out) hb);have n1_:=mk4_ (bT4_ (by repeat (first|(with_reducible first|exact HB.out|apply bA4_|apply bN4_|apply bD4_|refine bS4_ ?_ GE146.out)|exact HB.out)) hb);have n2_:=mk4_ (hbox);have n3_:=mk4_ ((by rw [hg];exact (bZ4_ (by repeat (first|(with_reducible first|exact HB.out|apply bA4_|apply bN4_|apply bD4_|refine bS4_ ?_ GE146.out)|exact HB.out))):w.heap.size≤gb147));have n4_:=mk4_ ((by rw [hg];exact (bZ4_ (by repeat (first|(with_reducible first|exact HB.out|apply bA4_|apply bN4_|apply bD4_|refine bS4_ ?_ GE146.out)|exact HB.out))):w.heap.size≤gb147));have n5_:=mk4_ ((by rw [hg];exact Nat.ne_of_lt (blk_lt (g:=gb146) (o:=.cells #[.int .i64 a0_0,.int .i64 a0_1,.int .i64 a0_2] 23 (0,0)) (by (with_reducible repeat (first|refine kN4_ ?_ _|refine kD4_ ?_|refine kA4_ ?_ _));exact BK146.out)):gb146≠gb147));have n6_:=mk4_ ((by rw [hg];exact Nat.ne_of_gt (blk_lt (g:=gb146) (o:=.cells #[.int .i64 a0_0,.int .i64 a0_1,.int .i64 a0_2] 23 (0,0)) (by (with_reducible repeat (first|refine kN4_ ?_ _|refine kD4_ ?_|refine kA4_ ?_ _));exact BK146.out)):gb147≠gb146));clear BK146;clear HB;have BK146:=n0_;have HB:=n1_;have BK147:=n2_;have GW147:=n3_;have GE147:=n4_;have NB146_147:=n5_;have NB147_146:=n6_;clear n0_ n1_ n2_ n3_ n4_ n5_ n6_;clear hb hbox hg)|((with_reducible refine gate_dst (N:=3) rfl ?_);refine box_event ?hg (N:=3) ?hd (cs:=#[.int .i64 0,.int .i64 0,.int .i64 0]) (t:=37) ?hr ?_;(case hd=>rfl);(case hg=>rfl);(case hr=>first|(go_simp;done)|(go_simp;rfl));intro gb148 hg w4 hbox hb;have n0_:=mk4_ (blk_below (g:=gb146) (o:=.cells #[.int .i64 a0_0,.int .i64 a0_1,.int .i64 a0_2] 23 (0,0)) (by (with_reducible repeat (first|refine kN4_ ?_ _|refine kD4_ ?_|refine kA4_ ?_ _));exact BK146.out) hb);have n1_:=mk4_ (blk_below (g:=gb147) (o:=.cells #[.int .i64 0,.int .i64 0,.int .i64 0] 37 (0,0)) (by (with_reducible repeat (first|refine kN4_ ?_ _|refine kD4_ ?_|refine kA4_ ?_ _));exact BK147.out) hb);have n2_:=mk4_ (bT4_ (by repeat (first|(with_reducible first|exact HB.out|apply bA4_|apply bN4_|apply bD4_|refine bS4_ ?_ GE146.out|refine bS4_ ?_ GE147.out)|exact HB.out)) hb);have n3_:=mk4_ (hbox);have n4_:=mk4_ ((by rw [hg];exact (bZ4_ (by repeat (first|(with_reducible first|exact HB.out|apply bA4_|apply bN4_|apply bD4_|refine bS4_ ?_ GE146.out|refine bS4_ ?_ GE147.out)|exact HB.out))):w.heap.size≤gb148));have n5_:=mk4_ ((by rw [hg];exact (bZ4_ (by repeat (first|(with_reducible first|exact HB.out|apply bA4_|apply bN4_|apply bD4_|refine bS4_ ?_ GE146.out|refine bS4_ ?_ GE147.out)|exact HB.out))):w.heap.size≤gb148));have n6_:=mk4_ ((by rw [hg];exact Nat.ne_of_lt (blk_lt (g:=gb146) (o:=.cells #[.int .i64 a0_0,.int .i64 a0_1,.int .i64 a0_2] 23 (0,0)) (by (with_reducible repeat (first|refine kN4_ ?_ _|refine kD4_ ?_|refine kA4_ ?_ _));exact BK146.out)):gb146≠gb148));have n7_:=mk4_ ((by rw [hg];exact Nat.ne_of_gt (blk_lt (g:=gb146) (o:=.cells #[.int .i64 a0_0,.int .i64 a0_1,.int .i64 a0_2] 23 (0,0)) (by (with_reducible repeat (first|refine kN4_ ?_ _|refine kD4_ ?_|refine kA4_ ?_ _));exact BK146.out)):gb148≠gb146));have n8_:=mk4_ ((by rw [hg];exact Nat.ne_of_lt (blk_lt (g:=gb147) (o:=.cells #[.int .i64 0,.int .i64 0,.int .i64 0] 37 (0,0)) (by (with_reducible repeat (first|refine kN4_ ?_ _|refine kD4_ ?_|refine kA4_ ?_ _));exact BK147.out)):gb147≠gb148));have n9_:=mk4_ ((by rw [hg];exact Nat.ne_of_gt (blk_lt (g:=gb147) (o:=.cells #[.int .i64 0,.int .i64 0,.int .i64 0] 37 (0,0)) (by (with_reducible repeat (first|refine kN4_ ?_ _|refine kD4_ ?_|refine kA4_ ?_ _));exact BK147.out)):gb148≠gb147));clear BK146;clear BK147;clear HB;have BK146:=n0_;have BK147:=n1_;have HB:=n2_;have BK148:=n3_;have GW148:=n4_;have GE148:=n5_;have NB146_148:=n6_;have NB148_146:=n7_;have NB147_148:=n8_;have NB148_147:=n9_;clear n0_ n1_ n2_ n3_ n4_ n5_ n6_ n7_ n8_ n9_;clear hb hbox hg;have hnb5:=NB146_147.out;have hnc5:=NB147_146.out;have hnb6:=NB146_148.out;have hnc6:=NB148_146.out;have hcz7_0:w4.cell? ⟨gb146,0,none⟩=some (.int .i64 a0_0):=(blk_cell BK146.out 0).trans rfl;have hcz7_1:w4.cell? ⟨gb146,1,none⟩=some (.int .i64 a0_1):=(blk_cell BK146.out 1).trans rfl;have hcz7_2:w4.cell? ⟨gb146,2,none⟩=some (.int .i64 a0_2):=(blk_cell BK146.out 2).trans rfl;have hfz7_0:=fZ4_ BK146.out 0;have hfz7_1:=fZ4_ BK146.out 1;have hfz7_2:=fZ4_ BK146.out 2;have hnb8:=NB148_147.out;have hnc8:=NB147_148.out;have hcz9_0:w4.cell? ⟨gb148,0,none⟩=some (.int .i64 0):=(blk_cell BK148.out 0).trans rfl;have hcz9_1:w4.cell? ⟨gb148,1,none⟩=some (.int .i64 0):=(blk_cell BK148.out 1).trans rfl;have hcz9_2:w4.cell? ⟨gb148,2,none⟩=some (.int .i64 0):=(blk_cell BK148.out 2).trans rfl;have hfz9_0:=fZ4_ BK148.out 0;have hfz9_1:=fZ4_ BK148.out 1;have hfz9_2:=fZ4_ BK148.out 2;have hcz10_0:w4.cell? ⟨gb147,0,none⟩=some (.int .i64 0):=(blk_cell BK147.out 0).trans rfl;have hcz10_1:w4.cell? ⟨gb147,1,none⟩=some (.int .i64 0):=(blk_cell BK147.out 1).trans rfl;have hcz10_2:w4.cell? ⟨gb147,2,none⟩=some (.int .i64 0):=(blk_cell BK147.out 2).trans rfl;have hfz10_0:=fZ4_ BK147.out 0;have hfz10_1:=fZ4_ BK147.out 1;have hfz10_2:=fZ4_ BK147.out 2))
 refine bodyPost_ret (results_cell_row rfl _ _ gb147 37 #[.int .i64 a0_0,.int .i64 a0_1,.int .i64 a0_2] (0,0) _ rfl (by (with_reducible repeat (first|refine kN4_ ?_ _|refine kD4_ ?_|refine kA4_ ?_ _));refine blk_put (cs:=#[.int .i64 a0_0,.int .i64 a0_1,.int .i64 0]) ?_ 2 _ rfl;(with_reducible repeat (first|refine kN4_ ?_ _|refine kD4_ ?_|refine kA4_ ?_ _));refine blk_put (cs:=#[.int .i64 a0_0,.int .i64 0,.int .i64 0]) ?_ 1 _ rfl;(with_reducible repeat (first|refine kN4_ ?_ _|refine kD4_ ?_|refine kA4_ ?_ _));refine blk_put (cs:=#[.int .i64 0,.int .i64 0,.int .i64 0]) ?_ 0 _ rfl;(with_reducible repeat (first|refine kN4_ ?_ _|refine kD4_ ?_|refine kA4_ ?_ _));refine blk_far ?_ NB147_148.out _;(with_reducible repeat (first|refine kN4_ ?_ _|refine kD4_ ?_|refine kA4_ ?_ _));refine blk_far ?_ NB147_148.out _;(with_reducible repeat (first|refine kN4_ ?_ _|refine kD4_ ?_|refine kA4_ ?_ _));refine blk_far ?_ NB147_148.out _;(with_reducible repeat (first|refine kN4_ ?_ _|refine kD4_ ?_|refine kA4_ ?_ _));exact BK147.out) Try.underlying37 rfl (by kernel_rfl)) rfl ?_
 exact ⟨by first|rfl|(simp [errW_none,errW_some] <;> rfl)|(simp [*,errW_none,errW_some] <;> rfl),by repeat (first|(with_reducible first|exact HB.out|apply bA4_|apply bN4_|apply bD4_|refine bS4_ ?_ GE146.out|refine bS4_ ?_ GE147.out|refine bS4_ ?_ GE148.out)|exact HB.out)⟩

def laws_toStringS.l0:Nat→List ByteArray→List ByteArray→Int→Option (List ByteArray)
 | 0, _, _, _ => none
 | k+1,x0,x3,x4=>if x4 < (x0.length:Int) then (if 0≤x4 then (if x4 < (x3.length:Int) then (laws_toStringS.l0 k x0 (x3.set (x4:Int).toNat (rdOf ByteArray.empty x0 x4)) (wrap64 (x4+1))) else (none)) else (none)) else (some x3)
def laws_toStringS.f (k:Nat) (l0:List ByteArray):Option (List ByteArray):=if 0≤(l0.length:Int) then (if ((l0.length:Int):Int).toNat≤17592186044416 then (laws_toStringS.l0 k l0 (List.replicate ((l0.length:Int):Int).toNat (⟨#[]⟩:ByteArray)) 0) else (none)) else (none)
set_option maxHeartbeats 8000000 in
set_option maxRecDepth 100000 in
theorem laws_toStringS.calls (k:Nat) (A0:Option Addr) (c0:Nat) (l0:List ByteArray) (r:List ByteArray) (w:World) (hr0:Kd.C Kd.string w A0 l0.length l0) (hc0:l0.length≤c0) (h:laws_toStringS.f k l0=some r) :
  Calls Try.prog 79 #[.slice A0 l0.length c0] w fun e w'=>∃ v0_:Value,e=.returned (v0_)∧Kd.R Kd.string 9 w' w.heap.size (fun _=>True) v0_ r∧Below w.heap.size w w':=by
 have HR0 := Aside0.mk hr0
 have HC0 := Aside0.mk hc0
 clear hr0 hc0
 have HB := Aside0.mk (Below.refl w.heap.size w)
 have H:(if 0≤(l0.length:Int) then (if ((l0.length:Int):Int).toNat≤17592186044416 then (laws_toStringS.l0 k l0 (List.replicate ((l0.length:Int):Int).toNat (⟨#[]⟩:ByteArray)) 0) else (none)) else (none))=some r:=h
 clear h
 by_cases c2 : 0 ≤ (l0.length : Int)
 ·rw [if_pos c2] at H
  have c2b0 := eq_true c2
  have c2b1:decide (0≤(l0.length:Int))=true:=decide_eq_true c2
  clear c2
  by_cases c3 : ((l0.length : Int) : Int).toNat ≤ 17592186044416
  ·rw [if_pos c3] at H
   have c3b0 := eq_true c3
   have c3b1:decide (((l0.length:Int):Int).toNat≤17592186044416)=true:=decide_eq_true c3
   clear c3
   obtain ⟨y149,hy149⟩:∃ y_:List ByteArray,y_=(List.replicate ((l0.length:Int):Int).toNat (⟨#[]⟩:ByteArray)):=⟨_,rfl⟩
   replace H:(laws_toStringS.l0 k l0 y149 0)=some r:=by first|(rw [hy149];with_reducible exact H)|(have H2_:=(Option.bind_some _ _).symm.trans H;rw [hy149];with_reducible exact H2_)|(have H2_:=(Option.bind_some _ _).symm.trans H;with_reducible exact H2_)|with_reducible exact H|(rw [hy149];exact H)|exact H
   have Ny149 := Aside0.mk hy149
   clear hy149
   have H' := Aside0.mk H
   clear H
   go_enter Try.func79, Try.ntmps79
   go_wp2_with (first|((with_reducible refine gate_dst (N:=7) rfl ?_);refine Kd.R_make Kd.string _ 9 rfl (N:=7) rfl 90 _ _ rfl (l0.length:Int) rfl rfl Try.underlying90 (.string ⟨#[]⟩) 16 info9 rfl (by decide) (by omega) (⟨#[]⟩:ByteArray) (ok:=fun _=>True) (okp:=fun _=>True) rfl (fun _ hk=>hk) trivial (of_decide_eq_true (by first|(with_reducible assumption)|assumption)) (Nat.le_trans (Nat.mul_le_mul_right _ (of_decide_eq_true (by first|(with_reducible assumption)|assumption):(l0.length:Int).toNat≤17592186044416)) (by omega)) (Below.refl _ _) (Nat.le_refl _) ?_;intro v150 w4 ho5 hb hg_ hnew_;clear hg_ hnew_;(first|rw [← Ny149.out] at ho5|(simp only [Int.reduceToNat] at ho5;rw [← Ny149.out] at ho5));have n0_:=mk4_ (Kd.R_lower ho5 (bZ4_ (by repeat (first|(with_reducible first|exact HB.out|apply bA4_|apply bN4_|apply bD4_)|exact HB.out))));have n1_:=mk4_ (bT4_ (by repeat (first|(with_reducible first|exact HB.out|apply bA4_|apply bN4_|apply bD4_)|exact HB.out)) hb);clear HB;have HO151:=n0_;have HB:=n1_;clear n0_ n1_;clear hb ho5))
   go_loopg [4] k (fun kq v4 w'=>∃ (x3_1:List ByteArray) (x4_1:Int),v4=.int .i64 x4_1∧Aside0 (laws_toStringS.l0 kq l0 x3_1 x4_1=some r)∧Aside0 (kq≤k)∧Aside0 (Kd.R Kd.string 9 w' w.heap.size (fun _=>True) v150 x3_1)∧Aside0 (Below w.heap.size w w'))
   case atStart=>exact ⟨(y149),(0),(by first|rfl|(simp;done)|(simp [*];done)),H',⟨Nat.le_refl _⟩,⟨by (with_reducible repeat (first|apply Kd.R_alloc|apply Kd.R_drewN|apply Kd.R_drew));exact HO151.out⟩,⟨by repeat (first|(with_reducible first|exact HB.out|apply bA4_|apply bN4_|apply bD4_)|exact HB.out)⟩⟩
   case round =>
    clear H'
    try clear c2
    try clear c2b0
    try clear c2b1
    try clear p2
    try clear c3
    try clear c3b0
    try clear c3b1
    obtain ⟨x3_1, x4_1, rfl, HA, HK1, HO_3, HB⟩ := hrel
    cases gk with
    | zero => exact absurd HA.out (by simp [laws_toStringS.l0])
    | succ k1 =>
     have H := HA.out
     clear HA
     simp only [laws_toStringS.l0] at H
     by_cases c6 : x4_1 < (l0.length : Int)
     ·rw [if_pos c6] at H
      have c6b0:decide (x4_1 < (l0.length:Int))=true:=decide_eq_true c6
      clear c6
      by_cases c7 : 0 ≤ x4_1
      ·rw [if_pos c7] at H
       have c7b0:decide (0≤x4_1)=true:=decide_eq_true c7
       clear c7
       by_cases c8 : x4_1 < (x3_1.length : Int)
       ·rw [if_pos c8] at H
        have c8b0:decide (x4_1 < (x3_1.length:Int))=true:=decide_eq_true c8
        clear c8
        obtain ⟨y153,hy153⟩:∃ y_:List ByteArray,y_=(x3_1.set (x4_1:Int).toNat (rdOf ByteArray.empty l0 x4_1)):=⟨_,rfl⟩
        replace H:(laws_toStringS.l0 k1 l0 y153 (wrap64 (x4_1+1)))=some r:=by first|(rw [hy153];with_reducible exact H)|(have H2_:=(Option.bind_some _ _).symm.trans H;rw [hy153];with_reducible exact H2_)|(have H2_:=(Option.bind_some _ _).symm.trans H;with_reducible exact H2_)|with_reducible exact H|(rw [hy153];exact H)|exact H
        have Ny153 := Aside0.mk hy153
        clear hy153
        have H' := Aside0.mk H
        clear H
        have p152:0≤(x4_1:Int):=of_decide_eq_true (by first|(with_reducible assumption)|assumption)
        have q152:x4_1 < (l0.length:Int):=of_decide_eq_true (by first|(with_reducible assumption)|assumption)
        obtain ⟨ad152,e152,hx152_0⟩:=Kd.at_string HR0.out x4_1 p152 q152
        cases e152
        replace hx152_0:=(HB.out.cell (World.block_lt_of_cell? w _ hx152_0)).trans hx152_0
        replace p152 := eq_true p152
        replace q152 := eq_true q152
        have p9:0≤(x4_1:Int):=of_decide_eq_true (by first|(with_reducible assumption)|assumption)
        have q9:(x4_1:Int) < ((x3_1.length:Int):Int):=of_decide_eq_true (by first|(with_reducible assumption)|assumption)
        obtain ⟨go9,co9,eo9,gb9,gl9,cl9,HG9⟩:=Kd.R_form HO_3.out (by omega)
        (first|cases eo9|(injection eo9 with ea_ en_ ec_;(first|subst ea_|(injection ea_ with ea_;subst ea_));subst ec_;clear en_))
        have GB9 := Aside0.mk gb9
        have GG9 := Aside0.mk HG9
        clear gb9 gl9 HG9
        obtain ⟨hx9_0,hf9_0⟩:=Kd.R_celln (⟨#[]⟩:ByteArray) HO_3.out (x4_1:Int) p9 q9
        replace p9 := eq_true p9
        replace q9 := eq_true q9
        have HP10:=Kd.R_putg HO_3.out (x4_1:Int) (rdOf ByteArray.empty l0 x4_1)
        go_wp2_with (first|((with_reducible refine gate_store (t:=9) (p:=20) rfl ?_);refine store_event (t:=9) (p:=20) (v:=?vo_w11) (w1:=(wr.setCell ⟨go9,(x4_1:Int).toNat,none⟩ (.string (rdOf ByteArray.empty l0 x4_1)))) ?hg ?ho ?hn ?hr ?_;(case ho=>rfl);(case hg=>rfl);(case hn=>rfl);(case hr=>first|(go_simp;done)|(go_simp;rfl));intro w11 hw;have hg:wr.grownBy w11 (some go9):=(by rw [hw];exact HP10.2);have hp_:Kd.R Kd.string 9 w11 w.heap.size (fun _=>True) (.slice (some ⟨go9,0,none⟩) x3_1.length co9) y153:=(by rw [hw,Ny153.out];exact HP10.1);clear HP10;have n0_:=mk4_ (hp_);have n1_:=mk4_ ((by rw [hw];exact bS4_ (HB.out) GB9.out:Below w.heap.size w w11));clear HO_3;clear HB;have HO_3:=n0_;have HB:=n1_;clear n0_ n1_;clear hg hw hp_))
        go_roundg k1
        case measure => have := HK1.out; omega
        case rel=>exact ⟨(y153),(wrap64 (x4_1+1)),(by first|rfl|(simp;done)|(simp [*];done)),H',⟨by have:=HK1.out;omega⟩,⟨by (with_reducible repeat (first|apply Kd.R_alloc|apply Kd.R_drewN|apply Kd.R_drew));exact HO_3.out⟩,⟨by repeat (first|(with_reducible first|exact HB.out|apply bA4_|apply bN4_|apply bD4_)|exact HB.out)⟩⟩
       ·rw [if_neg c8] at H
        exact absurd H (by simp)
      ·rw [if_neg c7] at H
       exact absurd H (by simp)
     ·rw [if_neg c6] at H
      have c6b0:decide (x4_1 < (l0.length:Int))=false:=decide_eq_false c6
      clear c6
      obtain rfl := Option.some.inj H
      go_wp2
      go_ret
      exact ⟨_,by first|rfl|(simp [errW_none,errW_some] <;> rfl)|(simp [*,errW_none,errW_some] <;> rfl),by (with_reducible repeat (first|apply Kd.R_alloc|apply Kd.R_drewN|apply Kd.R_drew));exact HO_3.out,by repeat (first|(with_reducible first|exact HB.out|apply bA4_|apply bN4_|apply bD4_)|exact HB.out)⟩
  ·rw [if_neg c3] at H
   exact absurd H (by simp)
 ·rw [if_neg c2] at H
  exact absurd H (by simp)

def laws_toBlock.f (k:Nat) (a0_0:Int) (a0_1:Int) (a0_2:Bool) (l0_3:List ByteArray):Option (Int × Int × Bool × List ByteArray):=(laws_toStringS.f k l0_3).bind fun t157=>(some (a0_0,a0_1,a0_2,t157))
set_option maxHeartbeats 8000000 in
set_option maxRecDepth 100000 in
theorem laws_toBlock.calls (k:Nat) (a0_0:Int) (a0_1:Int) (a0_2:Bool) (A0_3:Option Addr) (c0_3:Nat) (l0_3:List ByteArray) (r1:Int) (r2:Int) (r3:Bool) (r4:List ByteArray) (w:World) (hr0_3:Kd.C Kd.string w A0_3 l0_3.length l0_3) (hc0_3:l0_3.length≤c0_3) (h:laws_toBlock.f k a0_0 a0_1 a0_2 l0_3=some (r1,r2,r3,r4)) :
  Calls Try.prog 71 #[.agg #[.int .i64 a0_0,.int .i64 a0_1,.bool a0_2,.slice A0_3 l0_3.length c0_3]] w fun e w'=>∃ v3_:Value,e=.returned (.agg #[.int .i64 r1,.int .i64 r2,.bool r3,v3_])∧Kd.R Kd.string 9 w' w.heap.size (fun _=>True) v3_ r4∧Below w.heap.size w w':=by
 have hu103 := Try.underlying103
 have hu92 := Try.underlying92
 have HR0_3 := Aside0.mk hr0_3
 have HC0_3 := Aside0.mk hc0_3
 clear hr0_3 hc0_3
 have HB := Aside0.mk (Below.refl w.heap.size w)
 have H:((laws_toStringS.f k l0_3).bind fun t157=>(some (a0_0,a0_1,a0_2,t157)))=some (r1,r2,r3,r4):=h
 clear h
 replace H := Option.bind_eq_some_iff.mp H
 obtain ⟨t157, A20, H⟩ := H
 replace H:(some (a0_0,a0_1,a0_2,t157))=some (r1,r2,r3,r4):=H
 have A2 := Aside0.mk A20
 clear A20
 simp only [Option.some.injEq, Prod.mk.injEq] at H
 obtain ⟨rfl, rfl, rfl, rfl⟩ := H
 go_enter Try.func71, Try.ntmps71
 go_wp2_with (first|((with_reducible refine gate_dst (N:=1) rfl ?_);refine box_event ?hg (N:=1) ?hd (cs:=#[.int .i64 a0_0,.int .i64 a0_1,.bool a0_2,.slice A0_3 l0_3.length c0_3]) (t:=103) ?hr ?_;(case hd=>rfl);(case hg=>rfl);(case hr=>first|(go_simp;done)|(go_simp;rfl));intro gb154 hg w3 hbox hb;have n0_:=mk4_ (bT4_ (by repeat (first|(with_reducible first|exact HB.out|apply bA4_|apply bN4_|apply bD4_)|exact HB.out)) hb);have n1_:=mk4_ (hbox);have n2_:=mk4_ ((by rw [hg];exact (bZ4_ (by repeat (first|(with_reducible first|exact HB.out|apply bA4_|apply bN4_|apply bD4_)|exact HB.out))):w.heap.size≤gb154));have n3_:=mk4_ ((by rw [hg];exact (bZ4_ (by repeat (first|(with_reducible first|exact HB.out|apply bA4_|apply bN4_|apply bD4_)|exact HB.out))):w.heap.size≤gb154));clear HB;have HB:=n0_;have BK154:=n1_;have GW154:=n2_;have GE154:=n3_;clear n0_ n1_ n2_ n3_;clear hb hbox hg)|((with_reducible refine gate_dst (N:=2) rfl ?_);refine box_event ?hg (N:=2) ?hd (cs:=#[.int .i64 0,.int .i64 0,.bool false,.slice none 0 0]) (t:=92) ?hr ?_;(case hd=>rfl);(case hg=>rfl);(case hr=>first|(go_simp;done)|(go_simp;rfl));intro gb155 hg w4 hbox hb;have n0_:=mk4_ (blk_below (g:=gb154) (o:=.cells #[.int .i64 a0_0,.int .i64 a0_1,.bool a0_2,.slice A0_3 l0_3.length c0_3] 103 (0,0)) (by (with_reducible repeat (first|refine kN4_ ?_ _|refine kD4_ ?_|refine kA4_ ?_ _));exact BK154.out) hb);have n1_:=mk4_ (bT4_ (by repeat (first|(with_reducible first|exact HB.out|apply bA4_|apply bN4_|apply bD4_|refine bS4_ ?_ GE154.out)|exact HB.out)) hb);have n2_:=mk4_ (hbox);have n3_:=mk4_ ((by rw [hg];exact (bZ4_ (by repeat (first|(with_reducible first|exact HB.out|apply bA4_|apply bN4_|apply bD4_|refine bS4_ ?_ GE154.out)|exact HB.out))):w.heap.size≤gb155));have n4_:=mk4_ ((by rw [hg];exact (bZ4_ (by repeat (first|(with_reducible first|exact HB.out|apply bA4_|apply bN4_|apply bD4_|refine bS4_ ?_ GE154.out)|exact HB.out))):w.heap.size≤gb155));have n5_:=mk4_ ((by rw [hg];exact Nat.ne_of_lt (blk_lt (g:=gb154) (o:=.cells #[.int .i64 a0_0,.int .i64 a0_1,.bool a0_2,.slice A0_3 l0_3.length c0_3] 103 (0,0)) (by (with_reducible repeat (first|refine kN4_ ?_ _|refine kD4_ ?_|refine kA4_ ?_ _));exact BK154.out)):gb154≠gb155));have n6_:=mk4_ ((by rw [hg];exact Nat.ne_of_gt (blk_lt (g:=gb154) (o:=.cells #[.int .i64 a0_0,.int .i64 a0_1,.bool a0_2,.slice A0_3 l0_3.length c0_3] 103 (0,0)) (by (with_reducible repeat (first|refine kN4_ ?_ _|refine kD4_ ?_|refine kA4_ ?_ _));exact BK154.out)):gb155≠gb154));clear BK154;clear HB;have BK154:=n0_;have HB:=n1_;have BK155:=n2_;have GW155:=n3_;have GE155:=n4_;have NB154_155:=n5_;have NB155_154:=n6_;clear n0_ n1_ n2_ n3_ n4_ n5_ n6_;clear hb hbox hg)|((with_reducible refine gate_dst (N:=3) rfl ?_);refine box_event ?hg (N:=3) ?hd (cs:=#[.int .i64 0,.int .i64 0,.bool false,.slice none 0 0]) (t:=92) ?hr ?_;(case hd=>rfl);(case hg=>rfl);(case hr=>first|(go_simp;done)|(go_simp;rfl));intro gb156 hg w5 hbox hb;have n0_:=mk4_ (blk_below (g:=gb154) (o:=.cells #[.int .i64 a0_0,.int .i64 a0_1,.bool a0_2,.slice A0_3 l0_3.length c0_3] 103 (0,0)) (by (with_reducible repeat (first|refine kN4_ ?_ _|refine kD4_ ?_|refine kA4_ ?_ _));exact BK154.out) hb);have n1_:=mk4_ (blk_below (g:=gb155) (o:=.cells #[.int .i64 0,.int .i64 0,.bool false,.slice none 0 0] 92 (0,0)) (by (with_reducible repeat (first|refine kN4_ ?_ _|refine kD4_ ?_|refine kA4_ ?_ _));exact BK155.out) hb);have n2_:=mk4_ (bT4_ (by repeat (first|(with_reducible first|exact HB.out|apply bA4_|apply bN4_|apply bD4_|refine bS4_ ?_ GE154.out|refine bS4_ ?_ GE155.out)|exact HB.out)) hb);have n3_:=mk4_ (hbox);have n4_:=mk4_ ((by rw [hg];exact (bZ4_ (by repeat (first|(with_reducible first|exact HB.out|apply bA4_|apply bN4_|apply bD4_|refine bS4_ ?_ GE154.out|refine bS4_ ?_ GE155.out)|exact HB.out))):w.heap.size≤gb156));have n5_:=mk4_ ((by rw [hg];exact (bZ4_ (by repeat (first|(with_reducible first|exact HB.out|apply bA4_|apply bN4_|apply bD4_|refine bS4_ ?_ GE154.out|refine bS4_ ?_ GE155.out)|exact HB.out))):w.heap.size≤gb156));have n6_:=mk4_ ((by rw [hg];exact Nat.ne_of_lt (blk_lt (g:=gb154) (o:=.cells #[.int .i64 a0_0,.int .i64 a0_1,.bool a0_2,.slice A0_3 l0_3.length c0_3] 103 (0,0)) (by (with_reducible repeat (first|refine kN4_ ?_ _|refine kD4_ ?_|refine kA4_ ?_ _));exact BK154.out)):gb154≠gb156));have n7_:=mk4_ ((by rw [hg];exact Nat.ne_of_gt (blk_lt (g:=gb154) (o:=.cells #[.int .i64 a0_0,.int .i64 a0_1,.bool a0_2,.slice A0_3 l0_3.length c0_3] 103 (0,0)) (by (with_reducible repeat (first|refine kN4_ ?_ _|refine kD4_ ?_|refine kA4_ ?_ _));exact BK154.out)):gb156≠gb154));have n8_:=mk4_ ((by rw [hg];exact Nat.ne_of_lt (blk_lt (g:=gb155) (o:=.cells #[.int .i64 0,.int .i64 0,.bool false,.slice none 0 0] 92 (0,0)) (by (with_reducible repeat (first|refine kN4_ ?_ _|refine kD4_ ?_|refine kA4_ ?_ _));exact BK155.out)):gb155≠gb156));have n9_:=mk4_ ((by rw [hg];exact Nat.ne_of_gt (blk_lt (g:=gb155) (o:=.cells #[.int .i64 0,.int .i64 0,.bool false,.slice none 0 0] 92 (0,0)) (by (with_reducible repeat (first|refine kN4_ ?_ _|refine kD4_ ?_|refine kA4_ ?_ _));exact BK155.out)):gb156≠gb155));clear BK154;clear BK155;clear HB;have BK154:=n0_;have BK155:=n1_;have HB:=n2_;have BK156:=n3_;have GW156:=n4_;have GE156:=n5_;have NB154_156:=n6_;have NB156_154:=n7_;have NB155_156:=n8_;have NB156_155:=n9_;clear n0_ n1_ n2_ n3_ n4_ n5_ n6_ n7_ n8_ n9_;clear hb hbox hg;have hnb6:=NB154_155.out;have hnc6:=NB155_154.out;have hnb7:=NB154_156.out;have hnc7:=NB156_154.out;have hcz8_0:w5.cell? ⟨gb154,0,none⟩=some (.int .i64 a0_0):=(blk_cell BK154.out 0).trans rfl;have hcz8_1:w5.cell? ⟨gb154,1,none⟩=some (.int .i64 a0_1):=(blk_cell BK154.out 1).trans rfl;have hcz8_2:w5.cell? ⟨gb154,2,none⟩=some (.bool a0_2):=(blk_cell BK154.out 2).trans rfl;have hcz8_3:w5.cell? ⟨gb154,3,none⟩=some (.slice A0_3 l0_3.length c0_3):=(blk_cell BK154.out 3).trans rfl;have hfz8_0:=fZ4_ BK154.out 0;have hfz8_1:=fZ4_ BK154.out 1;have hfz8_2:=fZ4_ BK154.out 2;have hfz8_3:=fZ4_ BK154.out 3;have hnb9:=NB156_155.out;have hnc9:=NB155_156.out;have hcz10_0:w5.cell? ⟨gb156,0,none⟩=some (.int .i64 0):=(blk_cell BK156.out 0).trans rfl;have hcz10_1:w5.cell? ⟨gb156,1,none⟩=some (.int .i64 0):=(blk_cell BK156.out 1).trans rfl;have hcz10_2:w5.cell? ⟨gb156,2,none⟩=some (.bool false):=(blk_cell BK156.out 2).trans rfl;have hcz10_3:w5.cell? ⟨gb156,3,none⟩=some (.slice none 0 0):=(blk_cell BK156.out 3).trans rfl;have hfz10_0:=fZ4_ BK156.out 0;have hfz10_1:=fZ4_ BK156.out 1;have hfz10_2:=fZ4_ BK156.out 2;have hfz10_3:=fZ4_ BK156.out 3)|((with_reducible refine gate_callee (f:=79) rfl ?_);refine goesL_ (some 15) rfl rfl Try.func79 (by kernel_rfl) rfl #[.slice A0_3 l0_3.length c0_3] rfl (by (try simp only [mA4_,mC4_,mN4_]);first|done|rfl|(simp only [List.length_drop,List.length_take];rfl)) ?_;(with_reducible refine (laws_toStringS.calls k _ _ l0_3 t157 _ ?side1 ?side2 A2.out).mono ?_);(case side1=>exact Kd.C_below HR0_3.out (by repeat (first|(with_reducible first|exact HB.out|apply bA4_|apply bN4_|apply bD4_|refine bS4_ ?_ GE154.out|refine bS4_ ?_ GE155.out|refine bS4_ ?_ GE156.out)|exact HB.out)));(case side2=>exact HC0_3.out);rintro e w11 ⟨v158,rfl,ho0,hb⟩;refine ⟨_,rfl,?_⟩;have n0_:=mk4_ (Kd.R_lower ho0 (bZ4_ (by repeat (first|(with_reducible first|exact HB.out|apply bA4_|apply bN4_|apply bD4_|refine bS4_ ?_ GE154.out|refine bS4_ ?_ GE155.out|refine bS4_ ?_ GE156.out)|exact HB.out))));have n1_:=mk4_ (blk_below (g:=gb154) (o:=.cells #[.int .i64 a0_0,.int .i64 a0_1,.bool a0_2,.slice A0_3 l0_3.length c0_3] 103 (0,0)) (by (with_reducible repeat (first|refine kN4_ ?_ _|refine kD4_ ?_|refine kA4_ ?_ _));refine blk_far ?_ NB154_156.out _;(with_reducible repeat (first|refine kN4_ ?_ _|refine kD4_ ?_|refine kA4_ ?_ _));refine blk_far ?_ NB154_156.out _;(with_reducible repeat (first|refine kN4_ ?_ _|refine kD4_ ?_|refine kA4_ ?_ _));refine blk_far ?_ NB154_156.out _;(with_reducible repeat (first|refine kN4_ ?_ _|refine kD4_ ?_|refine kA4_ ?_ _));exact BK154.out) hb);have n2_:=mk4_ (blk_below (g:=gb155) (o:=.cells #[.int .i64 0,.int .i64 0,.bool false,.slice none 0 0] 92 (0,0)) (by (with_reducible repeat (first|refine kN4_ ?_ _|refine kD4_ ?_|refine kA4_ ?_ _));refine blk_far ?_ NB155_156.out _;(with_reducible repeat (first|refine kN4_ ?_ _|refine kD4_ ?_|refine kA4_ ?_ _));refine blk_far ?_ NB155_156.out _;(with_reducible repeat (first|refine kN4_ ?_ _|refine kD4_ ?_|refine kA4_ ?_ _));refine blk_far ?_ NB155_156.out _;(with_reducible repeat (first|refine kN4_ ?_ _|refine kD4_ ?_|refine kA4_ ?_ _));exact BK155.out) hb);have n3_:=mk4_ (blk_below (g:=gb156) (o:=.cells #[.int .i64 a0_0,.int .i64 a0_1,.bool a0_2,.slice none 0 0] 92 (0,0)) (by (with_reducible repeat (first|refine kN4_ ?_ _|refine kD4_ ?_|refine kA4_ ?_ _));refine blk_put (cs:=#[.int .i64 a0_0,.int .i64 a0_1,.bool false,.slice none 0 0]) ?_ 2 _ rfl;(with_reducible repeat (first|refine kN4_ ?_ _|refine kD4_ ?_|refine kA4_ ?_ _));refine blk_put (cs:=#[.int .i64 a0_0,.int .i64 0,.bool false,.slice none 0 0]) ?_ 1 _ rfl;(with_reducible repeat (first|refine kN4_ ?_ _|refine kD4_ ?_|refine kA4_ ?_ _));refine blk_put (cs:=#[.int .i64 0,.int .i64 0,.bool false,.slice none 0 0]) ?_ 0 _ rfl;(with_reducible repeat (first|refine kN4_ ?_ _|refine kD4_ ?_|refine kA4_ ?_ _));exact BK156.out) hb);have n4_:=mk4_ (bT4_ (by repeat (first|(with_reducible first|exact HB.out|apply bA4_|apply bN4_|apply bD4_|refine bS4_ ?_ GE154.out|refine bS4_ ?_ GE155.out|refine bS4_ ?_ GE156.out)|exact HB.out)) hb);clear BK154;clear BK155;clear BK156;clear HB;have HO159:=n0_;have BK154:=n1_;have BK155:=n2_;have BK156:=n3_;have HB:=n4_;clear n0_ n1_ n2_ n3_ n4_;(try clear hb);(try clear hb2);(try clear hk);(try clear hi);(try clear ho0);obtain ⟨Ao12,co12,eo12⟩:=Kd.R_slice HO159.out;subst eo12;have hcz13_0:w11.cell? ⟨gb156,0,none⟩=some (.int .i64 a0_0):=(blk_cell BK156.out 0).trans rfl;have hcz13_1:w11.cell? ⟨gb156,1,none⟩=some (.int .i64 a0_1):=(blk_cell BK156.out 1).trans rfl;have hcz13_2:w11.cell? ⟨gb156,2,none⟩=some (.bool a0_2):=(blk_cell BK156.out 2).trans rfl;have hcz13_3:w11.cell? ⟨gb156,3,none⟩=some (.slice none 0 0):=(blk_cell BK156.out 3).trans rfl;have hfz13_0:=fZ4_ BK156.out 0;have hfz13_1:=fZ4_ BK156.out 1;have hfz13_2:=fZ4_ BK156.out 2;have hfz13_3:=fZ4_ BK156.out 3;have hcz14_0:w11.cell? ⟨gb155,0,none⟩=some (.int .i64 0):=(blk_cell BK155.out 0).trans rfl;have hcz14_1:w11.cell? ⟨gb155,1,none⟩=some (.int .i64 0):=(blk_cell BK155.out 1).trans rfl;have hcz14_2:w11.cell? ⟨gb155,2,none⟩=some (.bool false):=(blk_cell BK155.out 2).trans rfl;have hcz14_3:w11.cell? ⟨gb155,3,none⟩=some (.slice none 0 0):=(blk_cell BK155.out 3).trans rfl;have hfz14_0:=fZ4_ BK155.out 0;have hfz14_1:=fZ4_ BK155.out 1;have hfz14_2:=fZ4_ BK155.out 2;have hfz14_3:=fZ4_ BK155.out 3))
 refine bodyPost_ret (results_cell_row rfl _ _ gb155 92 #[.int .i64 a0_0,.int .i64 a0_1,.bool a0_2,.slice Ao12 t157.length co12] (0,0) _ rfl (by (with_reducible repeat (first|refine kN4_ ?_ _|refine kD4_ ?_|refine kA4_ ?_ _));refine blk_put (cs:=#[.int .i64 a0_0,.int .i64 a0_1,.bool a0_2,.slice none 0 0]) ?_ 3 _ rfl;(with_reducible repeat (first|refine kN4_ ?_ _|refine kD4_ ?_|refine kA4_ ?_ _));refine blk_put (cs:=#[.int .i64 a0_0,.int .i64 a0_1,.bool false,.slice none 0 0]) ?_ 2 _ rfl;(with_reducible repeat (first|refine kN4_ ?_ _|refine kD4_ ?_|refine kA4_ ?_ _));refine blk_put (cs:=#[.int .i64 a0_0,.int .i64 0,.bool false,.slice none 0 0]) ?_ 1 _ rfl;(with_reducible repeat (first|refine kN4_ ?_ _|refine kD4_ ?_|refine kA4_ ?_ _));refine blk_put (cs:=#[.int .i64 0,.int .i64 0,.bool false,.slice none 0 0]) ?_ 0 _ rfl;(with_reducible repeat (first|refine kN4_ ?_ _|refine kD4_ ?_|refine kA4_ ?_ _));refine blk_far ?_ NB155_156.out _;(with_reducible repeat (first|refine kN4_ ?_ _|refine kD4_ ?_|refine kA4_ ?_ _));exact BK155.out) Try.underlying92 rfl (by kernel_rfl)) rfl ?_
 exact ⟨_,by first|rfl|(simp [errW_none,errW_some] <;> rfl)|(simp [*,errW_none,errW_some] <;> rfl),by (with_reducible repeat (first|apply Kd.R_alloc|apply Kd.R_drewN|apply Kd.R_drew));exact Kd.R_mono (Kd.R_far (p:=⟨gb155,3,none⟩) (Kd.R_far (p:=⟨gb155,2,none⟩) (Kd.R_far (p:=⟨gb155,1,none⟩) (Kd.R_far (p:=⟨gb155,0,none⟩) (Kd.R_far (p:=⟨gb156,3,none⟩) (Kd.R_types (Kd.R_types HO159.out BK156.out (by decide)) BK155.out (by decide)) (fun _ hk=>hk.1.2) (.slice Ao12 t157.length co12)) (fun _ hk=>hk.2) (.int .i64 a0_0)) (fun _ hk=>hk.2) (.int .i64 a0_1)) (fun _ hk=>hk.2) (.bool a0_2)) (fun _ hk=>hk.2) (.slice Ao12 t157.length co12)) (fun _ hk=>trivial),by repeat (first|(with_reducible first|exact HB.out|apply bA4_|apply bN4_|apply bD4_|refine bS4_ ?_ GE154.out|refine bS4_ ?_ GE155.out|refine bS4_ ?_ GE156.out)|exact HB.out)⟩

def laws_toBlockS.l0:Nat→List (S103)→List (S92)→Int→Option ((List (S92)))
 | 0, _, _, _ => none
 | k+1,x0,x3,x4=>if x4 < (x0.length:Int) then (if 0≤x4 then ((laws_toBlock.f k ((rd_T103 x0 x4).f0) ((rd_T103 x0 x4).f1) ((rd_T103 x0 x4).f2) ((rd_T103 x0 x4).f3)).bind fun bt164=>(if x4 < (x3.length:Int) then (laws_toBlockS.l0 k x0 (x3.set (x4:Int).toNat (⟨bt164.1,bt164.2.1,bt164.2.2.1,bt164.2.2.2⟩:S92)) (wrap64 (x4+1))) else (none))) else (none)) else (some x3)
def laws_toBlockS.f (k:Nat) (l0:List (S103)):Option ((List (S92))):=if 0≤(l0.length:Int) then (if ((l0.length:Int):Int).toNat≤5864062014805 then (laws_toBlockS.l0 k l0 (List.replicate ((l0.length:Int):Int).toNat z92) 0) else (none)) else (none)
set_option maxHeartbeats 8000000 in
set_option maxRecDepth 100000 in
theorem laws_toBlockS.calls (k:Nat) (A0:Option Addr) (c0:Nat) (l0:List (S103)) (r:List (S92)) (w:World) (hr0:Kd.C k103 w A0 l0.length l0) (hc0:l0.length≤c0) (h:laws_toBlockS.f k l0=some r) :
  Calls Try.prog 49 #[.slice A0 l0.length c0] w fun e w'=>∃ v0_:Value,e=.returned (v0_)∧Kd.S k92 92 w' w.heap.size (fun _=>True) v0_ r∧Below w.heap.size w w':=by
 have hu103 := Try.underlying103
 have hu92 := Try.underlying92
 have HR0 := Aside0.mk hr0
 have HC0 := Aside0.mk hc0
 clear hr0 hc0
 have HB := Aside0.mk (Below.refl w.heap.size w)
 have H:(if 0≤(l0.length:Int) then (if ((l0.length:Int):Int).toNat≤5864062014805 then (laws_toBlockS.l0 k l0 (List.replicate ((l0.length:Int):Int).toNat z92) 0) else (none)) else (none))=some r:=h
 clear h
 by_cases c2 : 0 ≤ (l0.length : Int)
 ·rw [if_pos c2] at H
  have c2b0 := eq_true c2
  have c2b1:decide (0≤(l0.length:Int))=true:=decide_eq_true c2
  clear c2
  by_cases c3 : ((l0.length : Int) : Int).toNat ≤ 5864062014805
  ·rw [if_pos c3] at H
   have c3b0 := eq_true c3
   have c3b1:decide (((l0.length:Int):Int).toNat≤5864062014805)=true:=decide_eq_true c3
   clear c3
   obtain ⟨y160,hy160⟩:∃ y_:List (S92),y_=(List.replicate ((l0.length:Int):Int).toNat z92):=⟨_,rfl⟩
   replace H:(laws_toBlockS.l0 k l0 y160 0)=some r:=by first|(rw [hy160];with_reducible exact H)|(have H2_:=(Option.bind_some _ _).symm.trans H;rw [hy160];with_reducible exact H2_)|(have H2_:=(Option.bind_some _ _).symm.trans H;with_reducible exact H2_)|with_reducible exact H|(rw [hy160];exact H)|exact H
   have Ny160 := Aside0.mk hy160
   clear hy160
   have H' := Aside0.mk H
   clear H
   go_enter Try.func49, Try.ntmps49
   go_wp2_with (first|((with_reducible refine gate_dst (N:=7) rfl ?_);refine Kd.S_make k92 _ 92 rfl (N:=7) rfl 38 _ _ rfl (l0.length:Int) rfl rfl Try.underlying38 (.agg #[(.int .i64 0),(.int .i64 0),(.bool false),(.slice none 0 0)]) 48 info92 rfl (by decide) (by omega) z92 (ok:=fun _=>True) (okp:=fun _=>True) (k92_mkM _ _ _ z92 (Kd.R_nil _ _ _ _ _)) (fun _ hk=>hk) trivial (of_decide_eq_true (by first|(with_reducible assumption)|assumption)) (Nat.le_trans (Nat.mul_le_mul_right _ (of_decide_eq_true (by first|(with_reducible assumption)|assumption):(l0.length:Int).toNat≤5864062014805)) (by omega)) (Below.refl _ _) (Nat.le_refl _) ?_;intro v161 w4 ho5 hb hg_ hnew_;clear hg_ hnew_;(first|rw [← Ny160.out] at ho5|(simp only [Int.reduceToNat] at ho5;rw [← Ny160.out] at ho5));have n0_:=mk4_ (Kd.S_lower ho5 (bZ4_ (by repeat (first|(with_reducible first|exact HB.out|apply bA4_|apply bN4_|apply bD4_)|exact HB.out))));have n1_:=mk4_ (bT4_ (by repeat (first|(with_reducible first|exact HB.out|apply bA4_|apply bN4_|apply bD4_)|exact HB.out)) hb);clear HB;have HO162:=n0_;have HB:=n1_;clear n0_ n1_;clear hb ho5))
   go_loopg [4] k (fun kq v4 w'=>∃ (x3_1:List (S92)) (x4_1:Int),v4=.int .i64 x4_1∧Aside0 (laws_toBlockS.l0 kq l0 x3_1 x4_1=some r)∧Aside0 (kq≤k)∧Aside0 (Kd.S k92 92 w' w.heap.size (fun _=>True) v161 x3_1)∧Aside0 (Below w.heap.size w w'))
   case atStart=>exact ⟨(y160),(0),(by first|rfl|(simp;done)|(simp [*];done)),H',⟨Nat.le_refl _⟩,⟨by (with_reducible repeat (first|apply sA4_|apply Kd.S_drewN|apply Kd.S_drew));exact HO162.out⟩,⟨by repeat (first|(with_reducible first|exact HB.out|apply bA4_|apply bN4_|apply bD4_)|exact HB.out)⟩⟩
   case round =>
    clear H'
    try clear c2
    try clear c2b0
    try clear c2b1
    try clear p2
    try clear c3
    try clear c3b0
    try clear c3b1
    try clear c4
    obtain ⟨x3_1, x4_1, rfl, HA, HK1, HO_3, HB⟩ := hrel
    cases gk with
    | zero => exact absurd HA.out (by simp [laws_toBlockS.l0])
    | succ k1 =>
     have H := HA.out
     clear HA
     simp only [laws_toBlockS.l0] at H
     by_cases c6 : x4_1 < (l0.length : Int)
     ·rw [if_pos c6] at H
      have c6b0:decide (x4_1 < (l0.length:Int))=true:=decide_eq_true c6
      clear c6
      by_cases c7 : 0 ≤ x4_1
      ·rw [if_pos c7] at H
       have c7b0:decide (0≤x4_1)=true:=decide_eq_true c7
       clear c7
       replace H := Option.bind_eq_some_iff.mp H
       obtain ⟨⟨t164, t165, t166, t167⟩, A80, H⟩ := H
       replace H:(if x4_1 < (x3_1.length:Int) then (laws_toBlockS.l0 k1 l0 (x3_1.set (x4_1:Int).toNat (⟨t164,t165,t166,t167⟩:S92)) (wrap64 (x4_1+1))) else (none))=some r:=H
       have A8 := Aside0.mk A80
       clear A80
       by_cases c9 : x4_1 < (x3_1.length : Int)
       ·rw [if_pos c9] at H
        have c9b0:decide (x4_1 < (x3_1.length:Int))=true:=decide_eq_true c9
        clear c9
        obtain ⟨y170,hy170⟩:∃ y_:List (S92),y_=(x3_1.set (x4_1:Int).toNat (⟨t164,t165,t166,t167⟩:S92)):=⟨_,rfl⟩
        replace H:(laws_toBlockS.l0 k1 l0 y170 (wrap64 (x4_1+1)))=some r:=by first|(rw [hy170];with_reducible exact H)|(have H2_:=(Option.bind_some _ _).symm.trans H;rw [hy170];with_reducible exact H2_)|(have H2_:=(Option.bind_some _ _).symm.trans H;with_reducible exact H2_)|with_reducible exact H|(rw [hy170];exact H)|exact H
        have Ny170 := Aside0.mk hy170
        clear hy170
        have H' := Aside0.mk H
        clear H
        have p163:0≤(x4_1:Int):=of_decide_eq_true (by first|(with_reducible assumption)|assumption)
        have q163:x4_1 < (l0.length:Int):=of_decide_eq_true (by first|(with_reducible assumption)|assumption)
        obtain ⟨ad163,A163_3,c163_3,e163,hx163_0,hx163_1,hx163_2,hx163_3,hl163_3,hi163_3⟩:=at_T103 HR0.out x4_1 p163 q163
        cases e163
        replace hx163_0:=(HB.out.cell (World.block_lt_of_cell? w _ hx163_0)).trans hx163_0
        replace hx163_1:=(HB.out.cell (World.block_lt_of_cell? w _ hx163_1)).trans hx163_1
        replace hx163_2:=(HB.out.cell (World.block_lt_of_cell? w _ hx163_2)).trans hx163_2
        replace hx163_3:=(HB.out.cell (World.block_lt_of_cell? w _ hx163_3)).trans hx163_3
        have HR163_3 := Aside0.mk hi163_3
        have HC163_3 := Aside0.mk hl163_3
        clear hi163_3 hl163_3
        replace p163 := eq_true p163
        replace q163 := eq_true q163
        go_wp2_with (first|((with_reducible refine gate_callee (f:=71) rfl ?_);refine goesL_ (some 20) rfl rfl Try.func71 (by kernel_rfl) rfl #[.agg #[.int .i64 ((rd_T103 l0 x4_1).f0),.int .i64 ((rd_T103 l0 x4_1).f1),.bool ((rd_T103 l0 x4_1).f2),.slice A163_3 ((rd_T103 l0 x4_1).f3).length c163_3]] rfl (by (try simp only [mA4_,mC4_,mN4_]);first|done|rfl|(simp only [List.length_drop,List.length_take];rfl)) ?_;(with_reducible refine (laws_toBlock.calls k1 ((rd_T103 l0 x4_1).f0) ((rd_T103 l0 x4_1).f1) ((rd_T103 l0 x4_1).f2) _ _ ((rd_T103 l0 x4_1).f3) t164 t165 t166 t167 _ ?side1 ?side2 A8.out).mono ?_);(case side1=>repeat (first|exact (Kd.C_below HR163_3.out HB.out)|(with_reducible refine Kd.C_alloc ?_ _)|(with_reducible refine Kd.C_drewN ?_ _)|(with_reducible refine Kd.C_drew ?_)));(case side2=>exact HC163_3.out);rintro e w11 ⟨v168,rfl,ho0,hb⟩;refine ⟨_,rfl,?_⟩;have n0_:=mk4_ (Kd.S_elder' (by (with_reducible repeat (first|apply sA4_|apply Kd.S_drewN|apply Kd.S_drew));exact HO_3.out) (Kd.R_base ho0) hb);have n1_:=mk4_ (Kd.R_lower ho0 (bZ4_ (by repeat (first|(with_reducible first|exact HB.out|apply bA4_|apply bN4_|apply bD4_)|exact HB.out))));have n2_:=mk4_ (bT4_ (by repeat (first|(with_reducible first|exact HB.out|apply bA4_|apply bN4_|apply bD4_)|exact HB.out)) hb);clear HO_3;clear HB;have HO_3:=n0_;have HO169:=n1_;have HB:=n2_;clear n0_ n1_ n2_;(try clear hb);(try clear hb2);(try clear hk);(try clear hi);(try clear ho0);have p10:0≤(x4_1:Int):=of_decide_eq_true (by first|(with_reducible assumption)|assumption);have q10:(x4_1:Int) < ((x3_1.length:Int):Int):=of_decide_eq_true (by first|(with_reducible assumption)|assumption);obtain ⟨go10,co10,eo10,gb10,gl10,cl10,HG10⟩:=Kd.S_form HO_3.out (by omega);(first|cases eo10|(injection eo10 with ea_ en_ ec_;(first|subst ea_|(injection ea_ with ea_;subst ea_));subst ec_;clear en_));have GB10:=mk4_ gb10;have GG10:=mk4_ HG10;clear gb10 gl10 HG10;obtain ⟨_,ce10,hcl10,hM10,hcc10,hfr10,_,_⟩:=Kd.S_elem HO_3.out z92 (x4_1:Int) p10 q10;obtain ⟨ve10_3,rfl,ge10_3⟩:=k92_openM hM10;have hx10_0:w11.cell? ⟨go10,(x4_1:Int).toNat * 4,none⟩=some (.int .i64 ((rd_T92 x3_1 x4_1).f0)):=hcc10 0 _ rfl;have hx10_1:w11.cell? ⟨go10,(x4_1:Int).toNat * 4+1,none⟩=some (.int .i64 ((rd_T92 x3_1 x4_1).f1)):=hcc10 1 _ rfl;have hx10_2:w11.cell? ⟨go10,(x4_1:Int).toNat * 4+2,none⟩=some (.bool ((rd_T92 x3_1 x4_1).f2)):=hcc10 2 _ rfl;have hx10_3:w11.cell? ⟨go10,(x4_1:Int).toNat * 4+3,none⟩=some (ve10_3):=hcc10 3 _ rfl;have hf10_0:w11.frozen? ⟨go10,(x4_1:Int).toNat * 4,none⟩=false:=hfr10 0;have hf10_1:w11.frozen? ⟨go10,(x4_1:Int).toNat * 4+1,none⟩=false:=hfr10 1;have hf10_2:w11.frozen? ⟨go10,(x4_1:Int).toNat * 4+2,none⟩=false:=hfr10 2;have hf10_3:w11.frozen? ⟨go10,(x4_1:Int).toNat * 4+3,none⟩=false:=hfr10 3;clear hcl10 hcc10 hfr10 hM10;replace p10:=eq_true p10;replace q10:=eq_true q10;have n_:=mk4_ (Kd.S_mono (ok':=(fun k_=>some k_≠(v168:Value).ownBlock)) HO_3.out (fun k_ hk=>hk.2));clear HO_3;have HO_3:=n_;clear n_;have HX12:=mk4_ (show Kd.S k92 92 w11 w.heap.size (fun k_=>((fun _=>True)) k_∧¬ ((fun k_=>some k_=(v168:Value).ownBlock)) k_) (.slice (some ⟨go10,0,none⟩) x3_1.length co10) x3_1 from (by (with_reducible repeat (first|apply sA4_|apply Kd.S_drewN|apply Kd.S_drew));exact Kd.S_mono HO_3.out (fun k_ hk=>⟨trivial,fun e_=>hk e_⟩)));obtain ⟨oki12,ce12,hcl12,hM12,hcc12,hfr12,hoki12,hH12⟩:=Kd.S_elem HX12.out z92 (x4_1:Int) (of_decide_eq_true (by first|(with_reducible assumption)|assumption)) (by have h_:(x4_1:Int) < ((x3_1.length:Int):Int):=of_decide_eq_true (by first|(with_reducible assumption)|assumption);first|exact h_|(have e_:=(Kd.S_reads' HO_3.out).1;omega)|simpa using h_);obtain ⟨ve12_3,rfl,ge12_3⟩:=k92_openM hM12;have HP12:=Kd.S_seg hH12 (of_decide_eq_true (by first|(with_reducible assumption)|assumption)) (by have h_:(x4_1:Int) < ((x3_1.length:Int):Int):=of_decide_eq_true (by first|(with_reducible assumption)|assumption);first|exact h_|(have e_:=(Kd.S_reads' HO_3.out).1;omega)|simpa using h_) (seg:=[.int .i64 t164,.int .i64 t165,.bool t166,v168]) (j:=0) (show 4≤4 from by decide) (x':=(⟨t164,t165,t166,t167⟩:S92)) (k92_mkM _ _ _ (⟨t164,t165,t166,t167⟩:S92) (Kd.R_mono (Kd.R_tight rfl (Kd.R_mono (ok':=fun k_=>((fun _=>True)) k_∧k_≠go10) (Kd.R_apart' (HO169.out) (Kd.S_typed HO_3.out) (by decide)) (fun k_ hk=>⟨trivial,fun e_=>(hk.2) (by rw [e_];rfl)⟩))) (fun _ h_=>Or.inr (h_)))) (fun _ hk=>hk) (fun k_ hk_=>((Kd.R_mono (ok':=fun k_=>((fun _=>True)) k_∧k_≠go10) (Kd.R_apart' (HO169.out) (Kd.S_typed HO_3.out) (by decide)) (fun k_ hk=>⟨trivial,fun e_=>(hk.2) (by rw [e_];rfl)⟩))).1 k_ hk_.symm);have hx12_0:=hcc12 0 _ rfl;(try simp only [show (k92).sz=4 from rfl,Nat.mul_one,Nat.add_zero] at hx12_0);have hf12_0:=hfr12 0;(try simp only [show (k92).sz=4 from rfl,Nat.mul_one,Nat.add_zero] at hf12_0);have hx12_1:=hcc12 1 _ rfl;(try simp only [show (k92).sz=4 from rfl,Nat.mul_one,Nat.add_zero] at hx12_1);have hf12_1:=hfr12 1;(try simp only [show (k92).sz=4 from rfl,Nat.mul_one,Nat.add_zero] at hf12_1);have hx12_2:=hcc12 2 _ rfl;(try simp only [show (k92).sz=4 from rfl,Nat.mul_one,Nat.add_zero] at hx12_2);have hf12_2:=hfr12 2;(try simp only [show (k92).sz=4 from rfl,Nat.mul_one,Nat.add_zero] at hf12_2);have hx12_3:=hcc12 3 _ rfl;(try simp only [show (k92).sz=4 from rfl,Nat.mul_one,Nat.add_zero] at hx12_3);have hf12_3:=hfr12 3;(try simp only [show (k92).sz=4 from rfl,Nat.mul_one,Nat.add_zero] at hf12_3);clear hcl12 hcc12 hfr12 hM12 hoki12 hH12)|((with_reducible refine gate_store (t:=92) (p:=21) rfl ?_);refine store_event (t:=92) (p:=21) (v:=?vo_w13) (w1:=((((w11.setCell ⟨go10,(x4_1:Int).toNat * 4,none⟩ (.int .i64 t164)).setCell ⟨go10,(x4_1:Int).toNat * 4+1,none⟩ (.int .i64 t165)).setCell ⟨go10,(x4_1:Int).toNat * 4+2,none⟩ (.bool t166)).setCell ⟨go10,(x4_1:Int).toNat * 4+3,none⟩ (v168))) ?hg ?ho ?hn ?hr ?_;(case ho=>rfl);(case hg=>rfl);(case hn=>rfl);(case hr=>(try (obtain ⟨Aq168_,cq168_,eq168_⟩:=Kd.R_slice HO169.out;subst eq168_));first|(go_simp;done)|(go_simp;rfl));intro w13 hw;have hg:w11.grownBy w13 (some go10):=(by rw [hw];exact HP12.2);have hp_:Kd.S k92 92 w13 w.heap.size (fun _=>True) (.slice (some ⟨go10,0,none⟩) x3_1.length co10) y170:=(by rw [hw,Ny170.out];exact HP12.1);clear HP12;have n0_:=mk4_ (hp_);have n1_:=mk4_ ((by rw [hw];exact bS4_ (bS4_ (bS4_ (bS4_ (HB.out) GB10.out) GB10.out) GB10.out) GB10.out:Below w.heap.size w w13));clear HO_3;clear HB;clear HO169;have HO_3:=n0_;have HB:=n1_;clear n0_ n1_;clear hg hw hp_))
        go_roundg k1
        case measure => have := HK1.out; omega
        case rel=>exact ⟨(y170),(wrap64 (x4_1+1)),(by first|rfl|(simp;done)|(simp [*];done)),H',⟨by have:=HK1.out;omega⟩,⟨by (with_reducible repeat (first|apply sA4_|apply Kd.S_drewN|apply Kd.S_drew));exact HO_3.out⟩,⟨by repeat (first|(with_reducible first|exact HB.out|apply bA4_|apply bN4_|apply bD4_)|exact HB.out)⟩⟩
       ·rw [if_neg c9] at H
        exact absurd H (by simp)
      ·rw [if_neg c7] at H
       exact absurd H (by simp)
     ·rw [if_neg c6] at H
      have c6b0:decide (x4_1 < (l0.length:Int))=false:=decide_eq_false c6
      clear c6
      obtain rfl := Option.some.inj H
      go_wp2
      go_ret
      exact ⟨_,by first|rfl|(simp [errW_none,errW_some] <;> rfl)|(simp [*,errW_none,errW_some] <;> rfl),by (with_reducible repeat (first|apply sA4_|apply Kd.S_drewN|apply Kd.S_drew));exact HO_3.out,by repeat (first|(with_reducible first|exact HB.out|apply bA4_|apply bN4_|apply bD4_)|exact HB.out)⟩
  ·rw [if_neg c3] at H
   exact absurd H (by simp)
 ·rw [if_neg c2] at H
  exact absurd H (by simp)

def laws_toFlash.f (k:Nat) (a0_0:Int) (a0_1:Int) (a0_2:Int) (l0_3:List (S103)) (a0_4:Int) (a0_5:Int) (a0_6:Bool) (a0_7:Int):Option (Int × Int × Int × (List (S92)) × Int × Int × Bool × Int):=(laws_toGeometry.f a0_0 a0_1 a0_2).bind fun bt174=>((laws_toBlockS.f k l0_3).bind fun t177=>(some (bt174.1,bt174.2.1,bt174.2.2,t177,a0_4,a0_5,a0_6,a0_7)))
set_option maxHeartbeats 8000000 in
set_option maxRecDepth 100000 in
theorem laws_toFlash.calls (k:Nat) (a0_0:Int) (a0_1:Int) (a0_2:Int) (A0_3:Option Addr) (c0_3:Nat) (l0_3:List (S103)) (a0_4:Int) (a0_5:Int) (a0_6:Bool) (a0_7:Int) (r1:Int) (r2:Int) (r3:Int) (r4:List (S92)) (r5:Int) (r6:Int) (r7:Bool) (r8:Int) (w:World) (hr0_3:Kd.C k103 w A0_3 l0_3.length l0_3) (hc0_3:l0_3.length≤c0_3) (h:laws_toFlash.f k a0_0 a0_1 a0_2 l0_3 a0_4 a0_5 a0_6 a0_7=some (r1,r2,r3,r4,r5,r6,r7,r8)) :
  Calls Try.prog 21 #[.agg #[.int .i64 a0_0,.int .i64 a0_1,.int .i64 a0_2,.slice A0_3 l0_3.length c0_3,.int .i64 a0_4,.int .i64 a0_5,.bool a0_6,.int .i64 a0_7]] w fun e w'=>∃ v3_:Value,e=.returned (.agg #[.int .i64 r1,.int .i64 r2,.int .i64 r3,v3_,.int .i64 r5,.int .i64 r6,.bool r7,.int .i64 r8])∧Kd.S k92 92 w' w.heap.size (fun _=>True) v3_ r4∧Below w.heap.size w w':=by
 have hu26 := Try.underlying26
 have hu40 := Try.underlying40
 have hu23 := Try.underlying23
 have hu37 := Try.underlying37
 have HR0_3 := Aside0.mk hr0_3
 have HC0_3 := Aside0.mk hc0_3
 clear hr0_3 hc0_3
 have HB := Aside0.mk (Below.refl w.heap.size w)
 have H:((laws_toGeometry.f a0_0 a0_1 a0_2).bind fun bt174=>((laws_toBlockS.f k l0_3).bind fun t177=>(some (bt174.1,bt174.2.1,bt174.2.2,t177,a0_4,a0_5,a0_6,a0_7))))=some (r1,r2,r3,r4,r5,r6,r7,r8):=h
 clear h
 replace H := Option.bind_eq_some_iff.mp H
 obtain ⟨⟨t174, t175, t176⟩, A20, H⟩ := H
 replace H:((laws_toBlockS.f k l0_3).bind fun t177=>(some (t174,t175,t176,t177,a0_4,a0_5,a0_6,a0_7)))=some (r1,r2,r3,r4,r5,r6,r7,r8):=H
 have A2 := Aside0.mk A20
 clear A20
 replace H := Option.bind_eq_some_iff.mp H
 obtain ⟨t177, A30, H⟩ := H
 replace H:(some (t174,t175,t176,t177,a0_4,a0_5,a0_6,a0_7))=some (r1,r2,r3,r4,r5,r6,r7,r8):=H
 have A3 := Aside0.mk A30
 clear A30
 simp only [Option.some.injEq, Prod.mk.injEq] at H
 obtain ⟨rfl, rfl, rfl, rfl, rfl, rfl, rfl, rfl⟩ := H
 go_enter Try.func21, Try.ntmps21
 go_wp2_with (first|((with_reducible refine gate_dst (N:=1) rfl ?_);refine box_event ?hg (N:=1) ?hd (cs:=#[.int .i64 a0_0,.int .i64 a0_1,.int .i64 a0_2,.slice A0_3 l0_3.length c0_3,.int .i64 a0_4,.int .i64 a0_5,.bool a0_6,.int .i64 a0_7]) (t:=26) ?hr ?_;(case hd=>rfl);(case hg=>rfl);(case hr=>first|(go_simp;done)|(go_simp;rfl));intro gb171 hg w4 hbox hb;have n0_:=mk4_ (bT4_ (by repeat (first|(with_reducible first|exact HB.out|apply bA4_|apply bN4_|apply bD4_)|exact HB.out)) hb);have n1_:=mk4_ (hbox);have n2_:=mk4_ ((by rw [hg];exact (bZ4_ (by repeat (first|(with_reducible first|exact HB.out|apply bA4_|apply bN4_|apply bD4_)|exact HB.out))):w.heap.size≤gb171));have n3_:=mk4_ ((by rw [hg];exact (bZ4_ (by repeat (first|(with_reducible first|exact HB.out|apply bA4_|apply bN4_|apply bD4_)|exact HB.out))):w.heap.size≤gb171));clear HB;have HB:=n0_;have BK171:=n1_;have GW171:=n2_;have GE171:=n3_;clear n0_ n1_ n2_ n3_;clear hb hbox hg)|((with_reducible refine gate_dst (N:=2) rfl ?_);refine box_event ?hg (N:=2) ?hd (cs:=#[.int .i64 0,.int .i64 0,.int .i64 0,.slice none 0 0,.int .i64 0,.int .i64 0,.bool false,.int .i64 0]) (t:=40) ?hr ?_;(case hd=>rfl);(case hg=>rfl);(case hr=>first|(go_simp;done)|(go_simp;rfl));intro gb172 hg w5 hbox hb;have n0_:=mk4_ (blk_below (g:=gb171) (o:=.cells #[.int .i64 a0_0,.int .i64 a0_1,.int .i64 a0_2,.slice A0_3 l0_3.length c0_3,.int .i64 a0_4,.int .i64 a0_5,.bool a0_6,.int .i64 a0_7] 26 (0,0)) (by (with_reducible repeat (first|refine kN4_ ?_ _|refine kD4_ ?_|refine kA4_ ?_ _));exact BK171.out) hb);have n1_:=mk4_ (bT4_ (by repeat (first|(with_reducible first|exact HB.out|apply bA4_|apply bN4_|apply bD4_|refine bS4_ ?_ GE171.out)|exact HB.out)) hb);have n2_:=mk4_ (hbox);have n3_:=mk4_ ((by rw [hg];exact (bZ4_ (by repeat (first|(with_reducible first|exact HB.out|apply bA4_|apply bN4_|apply bD4_|refine bS4_ ?_ GE171.out)|exact HB.out))):w.heap.size≤gb172));have n4_:=mk4_ ((by rw [hg];exact (bZ4_ (by repeat (first|(with_reducible first|exact HB.out|apply bA4_|apply bN4_|apply bD4_|refine bS4_ ?_ GE171.out)|exact HB.out))):w.heap.size≤gb172));have n5_:=mk4_ ((by rw [hg];exact Nat.ne_of_lt (blk_lt (g:=gb171) (o:=.cells #[.int .i64 a0_0,.int .i64 a0_1,.int .i64 a0_2,.slice A0_3 l0_3.length c0_3,.int .i64 a0_4,.int .i64 a0_5,.bool a0_6,.int .i64 a0_7] 26 (0,0)) (by (with_reducible repeat (first|refine kN4_ ?_ _|refine kD4_ ?_|refine kA4_ ?_ _));exact BK171.out)):gb171≠gb172));have n6_:=mk4_ ((by rw [hg];exact Nat.ne_of_gt (blk_lt (g:=gb171) (o:=.cells #[.int .i64 a0_0,.int .i64 a0_1,.int .i64 a0_2,.slice A0_3 l0_3.length c0_3,.int .i64 a0_4,.int .i64 a0_5,.bool a0_6,.int .i64 a0_7] 26 (0,0)) (by (with_reducible repeat (first|refine kN4_ ?_ _|refine kD4_ ?_|refine kA4_ ?_ _));exact BK171.out)):gb172≠gb171));clear BK171;clear HB;have BK171:=n0_;have HB:=n1_;have BK172:=n2_;have GW172:=n3_;have GE172:=n4_;have NB171_172:=n5_;have NB172_171:=n6_;clear n0_ n1_ n2_ n3_ n4_ n5_ n6_;clear hb hbox hg)|((with_reducible refine gate_dst (N:=3) rfl ?_);refine box_event ?hg (N:=3) ?hd (cs:=#[.int .i64 0,.int .i64 0,.int .i64 0,.slice none 0 0,.int .i64 0,.int .i64 0,.bool false,.int .i64 0]) (t:=40) ?hr ?_;(case hd=>rfl);(case hg=>rfl);(case hr=>first|(go_simp;done)|(go_simp;rfl));intro gb173 hg w6 hbox hb;have n0_:=mk4_ (blk_below (g:=gb171) (o:=.cells #[.int .i64 a0_0,.int .i64 a0_1,.int .i64 a0_2,.slice A0_3 l0_3.length c0_3,.int .i64 a0_4,.int .i64 a0_5,.bool a0_6,.int .i64 a0_7] 26 (0,0)) (by (with_reducible repeat (first|refine kN4_ ?_ _|refine kD4_ ?_|refine kA4_ ?_ _));exact BK171.out) hb);have n1_:=mk4_ (blk_below (g:=gb172) (o:=.cells #[.int .i64 0,.int .i64 0,.int .i64 0,.slice none 0 0,.int .i64 0,.int .i64 0,.bool false,.int .i64 0] 40 (0,0)) (by (with_reducible repeat (first|refine kN4_ ?_ _|refine kD4_ ?_|refine kA4_ ?_ _));exact BK172.out) hb);have n2_:=mk4_ (bT4_ (by repeat (first|(with_reducible first|exact HB.out|apply bA4_|apply bN4_|apply bD4_|refine bS4_ ?_ GE171.out|refine bS4_ ?_ GE172.out)|exact HB.out)) hb);have n3_:=mk4_ (hbox);have n4_:=mk4_ ((by rw [hg];exact (bZ4_ (by repeat (first|(with_reducible first|exact HB.out|apply bA4_|apply bN4_|apply bD4_|refine bS4_ ?_ GE171.out|refine bS4_ ?_ GE172.out)|exact HB.out))):w.heap.size≤gb173));have n5_:=mk4_ ((by rw [hg];exact (bZ4_ (by repeat (first|(with_reducible first|exact HB.out|apply bA4_|apply bN4_|apply bD4_|refine bS4_ ?_ GE171.out|refine bS4_ ?_ GE172.out)|exact HB.out))):w.heap.size≤gb173));have n6_:=mk4_ ((by rw [hg];exact Nat.ne_of_lt (blk_lt (g:=gb171) (o:=.cells #[.int .i64 a0_0,.int .i64 a0_1,.int .i64 a0_2,.slice A0_3 l0_3.length c0_3,.int .i64 a0_4,.int .i64 a0_5,.bool a0_6,.int .i64 a0_7] 26 (0,0)) (by (with_reducible repeat (first|refine kN4_ ?_ _|refine kD4_ ?_|refine kA4_ ?_ _));exact BK171.out)):gb171≠gb173));have n7_:=mk4_ ((by rw [hg];exact Nat.ne_of_gt (blk_lt (g:=gb171) (o:=.cells #[.int .i64 a0_0,.int .i64 a0_1,.int .i64 a0_2,.slice A0_3 l0_3.length c0_3,.int .i64 a0_4,.int .i64 a0_5,.bool a0_6,.int .i64 a0_7] 26 (0,0)) (by (with_reducible repeat (first|refine kN4_ ?_ _|refine kD4_ ?_|refine kA4_ ?_ _));exact BK171.out)):gb173≠gb171));have n8_:=mk4_ ((by rw [hg];exact Nat.ne_of_lt (blk_lt (g:=gb172) (o:=.cells #[.int .i64 0,.int .i64 0,.int .i64 0,.slice none 0 0,.int .i64 0,.int .i64 0,.bool false,.int .i64 0] 40 (0,0)) (by (with_reducible repeat (first|refine kN4_ ?_ _|refine kD4_ ?_|refine kA4_ ?_ _));exact BK172.out)):gb172≠gb173));have n9_:=mk4_ ((by rw [hg];exact Nat.ne_of_gt (blk_lt (g:=gb172) (o:=.cells #[.int .i64 0,.int .i64 0,.int .i64 0,.slice none 0 0,.int .i64 0,.int .i64 0,.bool false,.int .i64 0] 40 (0,0)) (by (with_reducible repeat (first|refine kN4_ ?_ _|refine kD4_ ?_|refine kA4_ ?_ _));exact BK172.out)):gb173≠gb172));clear BK171;clear BK172;clear HB;have BK171:=n0_;have BK172:=n1_;have HB:=n2_;have BK173:=n3_;have GW173:=n4_;have GE173:=n5_;have NB171_173:=n6_;have NB173_171:=n7_;have NB172_173:=n8_;have NB173_172:=n9_;clear n0_ n1_ n2_ n3_ n4_ n5_ n6_ n7_ n8_ n9_;clear hb hbox hg;have hnb7:=NB171_172.out;have hnc7:=NB172_171.out;have hnb8:=NB171_173.out;have hnc8:=NB173_171.out;have hcz9_0:w6.cell? ⟨gb171,0,none⟩=some (.int .i64 a0_0):=(blk_cell BK171.out 0).trans rfl;have hcz9_1:w6.cell? ⟨gb171,1,none⟩=some (.int .i64 a0_1):=(blk_cell BK171.out 1).trans rfl;have hcz9_2:w6.cell? ⟨gb171,2,none⟩=some (.int .i64 a0_2):=(blk_cell BK171.out 2).trans rfl;have hcz9_3:w6.cell? ⟨gb171,3,none⟩=some (.slice A0_3 l0_3.length c0_3):=(blk_cell BK171.out 3).trans rfl;have hcz9_4:w6.cell? ⟨gb171,4,none⟩=some (.int .i64 a0_4):=(blk_cell BK171.out 4).trans rfl;have hcz9_5:w6.cell? ⟨gb171,5,none⟩=some (.int .i64 a0_5):=(blk_cell BK171.out 5).trans rfl;have hcz9_6:w6.cell? ⟨gb171,6,none⟩=some (.bool a0_6):=(blk_cell BK171.out 6).trans rfl;have hcz9_7:w6.cell? ⟨gb171,7,none⟩=some (.int .i64 a0_7):=(blk_cell BK171.out 7).trans rfl;have hfz9_0:=fZ4_ BK171.out 0;have hfz9_1:=fZ4_ BK171.out 1;have hfz9_2:=fZ4_ BK171.out 2;have hfz9_3:=fZ4_ BK171.out 3;have hfz9_4:=fZ4_ BK171.out 4;have hfz9_5:=fZ4_ BK171.out 5;have hfz9_6:=fZ4_ BK171.out 6;have hfz9_7:=fZ4_ BK171.out 7)|((with_reducible refine gate_callee (f:=48) rfl ?_);refine goesL_ (some 6) rfl rfl Try.func48 (by kernel_rfl) rfl #[.agg #[.int .i64 a0_0,.int .i64 a0_1,.int .i64 a0_2]] rfl (by (try simp only [mA4_,mC4_,mN4_]);first|done|rfl|(simp only [List.length_drop,List.length_take];rfl)) ?_;(with_reducible refine (laws_toGeometry.calls a0_0 a0_1 a0_2 t174 t175 t176 _ A2.out).mono ?_);rintro e w10 ⟨rfl,hb⟩;refine ⟨_,rfl,?_⟩;have n0_:=mk4_ (blk_below (g:=gb171) (o:=.cells #[.int .i64 a0_0,.int .i64 a0_1,.int .i64 a0_2,.slice A0_3 l0_3.length c0_3,.int .i64 a0_4,.int .i64 a0_5,.bool a0_6,.int .i64 a0_7] 26 (0,0)) (by (with_reducible repeat (first|refine kN4_ ?_ _|refine kD4_ ?_|refine kA4_ ?_ _));exact BK171.out) hb);have n1_:=mk4_ (blk_below (g:=gb172) (o:=.cells #[.int .i64 0,.int .i64 0,.int .i64 0,.slice none 0 0,.int .i64 0,.int .i64 0,.bool false,.int .i64 0] 40 (0,0)) (by (with_reducible repeat (first|refine kN4_ ?_ _|refine kD4_ ?_|refine kA4_ ?_ _));exact BK172.out) hb);have n2_:=mk4_ (blk_below (g:=gb173) (o:=.cells #[.int .i64 0,.int .i64 0,.int .i64 0,.slice none 0 0,.int .i64 0,.int .i64 0,.bool false,.int .i64 0] 40 (0,0)) (by (with_reducible repeat (first|refine kN4_ ?_ _|refine kD4_ ?_|refine kA4_ ?_ _));exact BK173.out) hb);have n3_:=mk4_ (bT4_ (by repeat (first|(with_reducible first|exact HB.out|apply bA4_|apply bN4_|apply bD4_|refine bS4_ ?_ GE171.out|refine bS4_ ?_ GE172.out|refine bS4_ ?_ GE173.out)|exact HB.out)) hb);clear BK171;clear BK172;clear BK173;clear HB;have BK171:=n0_;have BK172:=n1_;have BK173:=n2_;have HB:=n3_;clear n0_ n1_ n2_ n3_;(try clear hb);(try clear hb2);(try clear hk);(try clear hi);have hnb11:=NB173_172.out;have hnc11:=NB172_173.out;have hcz12_0:w10.cell? ⟨gb173,0,none⟩=some (.int .i64 0):=(blk_cell BK173.out 0).trans rfl;have hcz12_1:w10.cell? ⟨gb173,1,none⟩=some (.int .i64 0):=(blk_cell BK173.out 1).trans rfl;have hcz12_2:w10.cell? ⟨gb173,2,none⟩=some (.int .i64 0):=(blk_cell BK173.out 2).trans rfl;have hcz12_3:w10.cell? ⟨gb173,3,none⟩=some (.slice none 0 0):=(blk_cell BK173.out 3).trans rfl;have hcz12_4:w10.cell? ⟨gb173,4,none⟩=some (.int .i64 0):=(blk_cell BK173.out 4).trans rfl;have hcz12_5:w10.cell? ⟨gb173,5,none⟩=some (.int .i64 0):=(blk_cell BK173.out 5).trans rfl;have hcz12_6:w10.cell? ⟨gb173,6,none⟩=some (.bool false):=(blk_cell BK173.out 6).trans rfl;have hcz12_7:w10.cell? ⟨gb173,7,none⟩=some (.int .i64 0):=(blk_cell BK173.out 7).trans rfl;have hfz12_0:=fZ4_ BK173.out 0;have hfz12_1:=fZ4_ BK173.out 1;have hfz12_2:=fZ4_ BK173.out 2;have hfz12_3:=fZ4_ BK173.out 3;have hfz12_4:=fZ4_ BK173.out 4;have hfz12_5:=fZ4_ BK173.out 5;have hfz12_6:=fZ4_ BK173.out 6;have hfz12_7:=fZ4_ BK173.out 7;have hcz13_0:w10.cell? ⟨gb171,0,none⟩=some (.int .i64 a0_0):=(blk_cell BK171.out 0).trans rfl;have hcz13_1:w10.cell? ⟨gb171,1,none⟩=some (.int .i64 a0_1):=(blk_cell BK171.out 1).trans rfl;have hcz13_2:w10.cell? ⟨gb171,2,none⟩=some (.int .i64 a0_2):=(blk_cell BK171.out 2).trans rfl;have hcz13_3:w10.cell? ⟨gb171,3,none⟩=some (.slice A0_3 l0_3.length c0_3):=(blk_cell BK171.out 3).trans rfl;have hcz13_4:w10.cell? ⟨gb171,4,none⟩=some (.int .i64 a0_4):=(blk_cell BK171.out 4).trans rfl;have hcz13_5:w10.cell? ⟨gb171,5,none⟩=some (.int .i64 a0_5):=(blk_cell BK171.out 5).trans rfl;have hcz13_6:w10.cell? ⟨gb171,6,none⟩=some (.bool a0_6):=(blk_cell BK171.out 6).trans rfl;have hcz13_7:w10.cell? ⟨gb171,7,none⟩=some (.int .i64 a0_7):=(blk_cell BK171.out 7).trans rfl;have hfz13_0:=fZ4_ BK171.out 0;have hfz13_1:=fZ4_ BK171.out 1;have hfz13_2:=fZ4_ BK171.out 2;have hfz13_3:=fZ4_ BK171.out 3;have hfz13_4:=fZ4_ BK171.out 4;have hfz13_5:=fZ4_ BK171.out 5;have hfz13_6:=fZ4_ BK171.out 6;have hfz13_7:=fZ4_ BK171.out 7)|((with_reducible refine gate_callee (f:=49) rfl ?_);refine goesL_ (some 10) rfl rfl Try.func49 (by kernel_rfl) rfl #[.slice A0_3 l0_3.length c0_3] rfl (by (try simp only [mA4_,mC4_,mN4_]);first|done|rfl|(simp only [List.length_drop,List.length_take];rfl)) ?_;(with_reducible refine (laws_toBlockS.calls k _ _ l0_3 t177 _ ?side1 ?side2 A3.out).mono ?_);(case side1=>exact Kd.C_below HR0_3.out (by repeat (first|(with_reducible first|exact HB.out|apply bA4_|apply bN4_|apply bD4_|refine bS4_ ?_ GE171.out|refine bS4_ ?_ GE172.out|refine bS4_ ?_ GE173.out)|exact HB.out)));(case side2=>exact HC0_3.out);rintro e w14 ⟨v178,rfl,ho0,hb⟩;refine ⟨_,rfl,?_⟩;have n0_:=mk4_ (Kd.S_lower ho0 (bZ4_ (by repeat (first|(with_reducible first|exact HB.out|apply bA4_|apply bN4_|apply bD4_|refine bS4_ ?_ GE171.out|refine bS4_ ?_ GE172.out|refine bS4_ ?_ GE173.out)|exact HB.out))));have n1_:=mk4_ (blk_below (g:=gb171) (o:=.cells #[.int .i64 a0_0,.int .i64 a0_1,.int .i64 a0_2,.slice A0_3 l0_3.length c0_3,.int .i64 a0_4,.int .i64 a0_5,.bool a0_6,.int .i64 a0_7] 26 (0,0)) (by (with_reducible repeat (first|refine kN4_ ?_ _|refine kD4_ ?_|refine kA4_ ?_ _));refine blk_far ?_ NB171_173.out _;(with_reducible repeat (first|refine kN4_ ?_ _|refine kD4_ ?_|refine kA4_ ?_ _));refine blk_far ?_ NB171_173.out _;(with_reducible repeat (first|refine kN4_ ?_ _|refine kD4_ ?_|refine kA4_ ?_ _));refine blk_far ?_ NB171_173.out _;(with_reducible repeat (first|refine kN4_ ?_ _|refine kD4_ ?_|refine kA4_ ?_ _));exact BK171.out) hb);have n2_:=mk4_ (blk_below (g:=gb172) (o:=.cells #[.int .i64 0,.int .i64 0,.int .i64 0,.slice none 0 0,.int .i64 0,.int .i64 0,.bool false,.int .i64 0] 40 (0,0)) (by (with_reducible repeat (first|refine kN4_ ?_ _|refine kD4_ ?_|refine kA4_ ?_ _));refine blk_far ?_ NB172_173.out _;(with_reducible repeat (first|refine kN4_ ?_ _|refine kD4_ ?_|refine kA4_ ?_ _));refine blk_far ?_ NB172_173.out _;(with_reducible repeat (first|refine kN4_ ?_ _|refine kD4_ ?_|refine kA4_ ?_ _));refine blk_far ?_ NB172_173.out _;(with_reducible repeat (first|refine kN4_ ?_ _|refine kD4_ ?_|refine kA4_ ?_ _));exact BK172.out) hb);have n3_:=mk4_ (blk_below (g:=gb173) (o:=.cells #[.int .i64 t174,.int .i64 t175,.int .i64 t176,.slice none 0 0,.int .i64 0,.int .i64 0,.bool false,.int .i64 0] 40 (0,0)) (by (with_reducible repeat (first|refine kN4_ ?_ _|refine kD4_ ?_|refine kA4_ ?_ _));refine blk_put (cs:=#[.int .i64 t174,.int .i64 t175,.int .i64 0,.slice none 0 0,.int .i64 0,.int .i64 0,.bool false,.int .i64 0]) ?_ 2 _ rfl;(with_reducible repeat (first|refine kN4_ ?_ _|refine kD4_ ?_|refine kA4_ ?_ _));refine blk_put (cs:=#[.int .i64 t174,.int .i64 0,.int .i64 0,.slice none 0 0,.int .i64 0,.int .i64 0,.bool false,.int .i64 0]) ?_ 1 _ rfl;(with_reducible repeat (first|refine kN4_ ?_ _|refine kD4_ ?_|refine kA4_ ?_ _));refine blk_put (cs:=#[.int .i64 0,.int .i64 0,.int .i64 0,.slice none 0 0,.int .i64 0,.int .i64 0,.bool false,.int .i64 0]) ?_ 0 _ rfl;(with_reducible repeat (first|refine kN4_ ?_ _|refine kD4_ ?_|refine kA4_ ?_ _));exact BK173.out) hb);have n4_:=mk4_ (bT4_ (by repeat (first|(with_reducible first|exact HB.out|apply bA4_|apply bN4_|apply bD4_|refine bS4_ ?_ GE171.out|refine bS4_ ?_ GE172.out|refine bS4_ ?_ GE173.out)|exact HB.out)) hb);clear BK171;clear BK172;clear BK173;clear HB;have HO179:=n0_;have BK171:=n1_;have BK172:=n2_;have BK173:=n3_;have HB:=n4_;clear n0_ n1_ n2_ n3_ n4_;(try clear hb);(try clear hb2);(try clear hk);(try clear hi);(try clear ho0);obtain ⟨Ao15,co15,eo15⟩:=Kd.S_slice HO179.out;subst eo15;have hcz16_0:w14.cell? ⟨gb173,0,none⟩=some (.int .i64 t174):=(blk_cell BK173.out 0).trans rfl;have hcz16_1:w14.cell? ⟨gb173,1,none⟩=some (.int .i64 t175):=(blk_cell BK173.out 1).trans rfl;have hcz16_2:w14.cell? ⟨gb173,2,none⟩=some (.int .i64 t176):=(blk_cell BK173.out 2).trans rfl;have hcz16_3:w14.cell? ⟨gb173,3,none⟩=some (.slice none 0 0):=(blk_cell BK173.out 3).trans rfl;have hcz16_4:w14.cell? ⟨gb173,4,none⟩=some (.int .i64 0):=(blk_cell BK173.out 4).trans rfl;have hcz16_5:w14.cell? ⟨gb173,5,none⟩=some (.int .i64 0):=(blk_cell BK173.out 5).trans rfl;have hcz16_6:w14.cell? ⟨gb173,6,none⟩=some (.bool false):=(blk_cell BK173.out 6).trans rfl;have hcz16_7:w14.cell? ⟨gb173,7,none⟩=some (.int .i64 0):=(blk_cell BK173.out 7).trans rfl;have hfz16_0:=fZ4_ BK173.out 0;have hfz16_1:=fZ4_ BK173.out 1;have hfz16_2:=fZ4_ BK173.out 2;have hfz16_3:=fZ4_ BK173.out 3;have hfz16_4:=fZ4_ BK173.out 4;have hfz16_5:=fZ4_ BK173.out 5;have hfz16_6:=fZ4_ BK173.out 6;have hfz16_7:=fZ4_ BK173.out 7;have hcz17_0:w14.cell? ⟨gb171,0,none⟩=some (.int .i64 a0_0):=(blk_cell BK171.out 0).trans rfl;have hcz17_1:w14.cell? ⟨gb171,1,none⟩=some (.int .i64 a0_1):=(blk_cell BK171.out 1).trans rfl;have hcz17_2:w14.cell? ⟨gb171,2,none⟩=some (.int .i64 a0_2):=(blk_cell BK171.out 2).trans rfl;have hcz17_3:w14.cell? ⟨gb171,3,none⟩=some (.slice A0_3 l0_3.length c0_3):=(blk_cell BK171.out 3).trans rfl;have hcz17_4:w14.cell? ⟨gb171,4,none⟩=some (.int .i64 a0_4):=(blk_cell BK171.out 4).trans rfl;have hcz17_5:w14.cell? ⟨gb171,5,none⟩=some (.int .i64 a0_5):=(blk_cell BK171.out 5).trans rfl;have hcz17_6:w14.cell? ⟨gb171,6,none⟩=some (.bool a0_6):=(blk_cell BK171.out 6).trans rfl;have hcz17_7:w14.cell? ⟨gb171,7,none⟩=some (.int .i64 a0_7):=(blk_cell BK171.out 7).trans rfl;have hfz17_0:=fZ4_ BK171.out 0;have hfz17_1:=fZ4_ BK171.out 1;have hfz17_2:=fZ4_ BK171.out 2;have hfz17_3:=fZ4_ BK171.out 3;have hfz17_4:=fZ4_ BK171.out 4;have hfz17_5:=fZ4_ BK171.out 5;have hfz17_6:=fZ4_ BK171.out 6;have hfz17_7:=fZ4_ BK171.out 7;have hcz18_0:w14.cell? ⟨gb172,0,none⟩=some (.int .i64 0):=(blk_cell BK172.out 0).trans rfl;have hcz18_1:w14.cell? ⟨gb172,1,none⟩=some (.int .i64 0):=(blk_cell BK172.out 1).trans rfl;have hcz18_2:w14.cell? ⟨gb172,2,none⟩=some (.int .i64 0):=(blk_cell BK172.out 2).trans rfl;have hcz18_3:w14.cell? ⟨gb172,3,none⟩=some (.slice none 0 0):=(blk_cell BK172.out 3).trans rfl;have hcz18_4:w14.cell? ⟨gb172,4,none⟩=some (.int .i64 0):=(blk_cell BK172.out 4).trans rfl;have hcz18_5:w14.cell? ⟨gb172,5,none⟩=some (.int .i64 0):=(blk_cell BK172.out 5).trans rfl;have hcz18_6:w14.cell? ⟨gb172,6,none⟩=some (.bool false):=(blk_cell BK172.out 6).trans rfl;have hcz18_7:w14.cell? ⟨gb172,7,none⟩=some (.int .i64 0):=(blk_cell BK172.out 7).trans rfl;have hfz18_0:=fZ4_ BK172.out 0;have hfz18_1:=fZ4_ BK172.out 1;have hfz18_2:=fZ4_ BK172.out 2;have hfz18_3:=fZ4_ BK172.out 3;have hfz18_4:=fZ4_ BK172.out 4;have hfz18_5:=fZ4_ BK172.out 5;have hfz18_6:=fZ4_ BK172.out 6;have hfz18_7:=fZ4_ BK172.out 7))
 refine bodyPost_ret (results_cell_row rfl _ _ gb172 40 #[.int .i64 t174,.int .i64 t175,.int .i64 t176,.slice Ao15 t177.length co15,.int .i64 a0_4,.int .i64 a0_5,.bool a0_6,.int .i64 a0_7] (0,0) _ rfl (by (with_reducible repeat (first|refine kN4_ ?_ _|refine kD4_ ?_|refine kA4_ ?_ _));refine blk_put (cs:=#[.int .i64 t174,.int .i64 t175,.int .i64 t176,.slice Ao15 t177.length co15,.int .i64 a0_4,.int .i64 a0_5,.bool a0_6,.int .i64 0]) ?_ 7 _ rfl;(with_reducible repeat (first|refine kN4_ ?_ _|refine kD4_ ?_|refine kA4_ ?_ _));refine blk_put (cs:=#[.int .i64 t174,.int .i64 t175,.int .i64 t176,.slice Ao15 t177.length co15,.int .i64 a0_4,.int .i64 a0_5,.bool false,.int .i64 0]) ?_ 6 _ rfl;(with_reducible repeat (first|refine kN4_ ?_ _|refine kD4_ ?_|refine kA4_ ?_ _));refine blk_put (cs:=#[.int .i64 t174,.int .i64 t175,.int .i64 t176,.slice Ao15 t177.length co15,.int .i64 a0_4,.int .i64 0,.bool false,.int .i64 0]) ?_ 5 _ rfl;(with_reducible repeat (first|refine kN4_ ?_ _|refine kD4_ ?_|refine kA4_ ?_ _));refine blk_put (cs:=#[.int .i64 t174,.int .i64 t175,.int .i64 t176,.slice Ao15 t177.length co15,.int .i64 0,.int .i64 0,.bool false,.int .i64 0]) ?_ 4 _ rfl;(with_reducible repeat (first|refine kN4_ ?_ _|refine kD4_ ?_|refine kA4_ ?_ _));refine blk_put (cs:=#[.int .i64 t174,.int .i64 t175,.int .i64 t176,.slice none 0 0,.int .i64 0,.int .i64 0,.bool false,.int .i64 0]) ?_ 3 _ rfl;(with_reducible repeat (first|refine kN4_ ?_ _|refine kD4_ ?_|refine kA4_ ?_ _));refine blk_put (cs:=#[.int .i64 t174,.int .i64 t175,.int .i64 0,.slice none 0 0,.int .i64 0,.int .i64 0,.bool false,.int .i64 0]) ?_ 2 _ rfl;(with_reducible repeat (first|refine kN4_ ?_ _|refine kD4_ ?_|refine kA4_ ?_ _));refine blk_put (cs:=#[.int .i64 t174,.int .i64 0,.int .i64 0,.slice none 0 0,.int .i64 0,.int .i64 0,.bool false,.int .i64 0]) ?_ 1 _ rfl;(with_reducible repeat (first|refine kN4_ ?_ _|refine kD4_ ?_|refine kA4_ ?_ _));refine blk_put (cs:=#[.int .i64 0,.int .i64 0,.int .i64 0,.slice none 0 0,.int .i64 0,.int .i64 0,.bool false,.int .i64 0]) ?_ 0 _ rfl;(with_reducible repeat (first|refine kN4_ ?_ _|refine kD4_ ?_|refine kA4_ ?_ _));refine blk_far ?_ NB172_173.out _;(with_reducible repeat (first|refine kN4_ ?_ _|refine kD4_ ?_|refine kA4_ ?_ _));refine blk_far ?_ NB172_173.out _;(with_reducible repeat (first|refine kN4_ ?_ _|refine kD4_ ?_|refine kA4_ ?_ _));refine blk_far ?_ NB172_173.out _;(with_reducible repeat (first|refine kN4_ ?_ _|refine kD4_ ?_|refine kA4_ ?_ _));refine blk_far ?_ NB172_173.out _;(with_reducible repeat (first|refine kN4_ ?_ _|refine kD4_ ?_|refine kA4_ ?_ _));refine blk_far ?_ NB172_173.out _;(with_reducible repeat (first|refine kN4_ ?_ _|refine kD4_ ?_|refine kA4_ ?_ _));exact BK172.out) Try.underlying40 rfl (by kernel_rfl)) rfl ?_
 exact ⟨_,by first|rfl|(simp [errW_none,errW_some] <;> rfl)|(simp [*,errW_none,errW_some] <;> rfl),by (with_reducible repeat (first|apply sA4_|apply Kd.S_drewN|apply Kd.S_drew));exact Kd.S_mono (Kd.S_far (p:=⟨gb172,7,none⟩) (Kd.S_far (p:=⟨gb172,6,none⟩) (Kd.S_far (p:=⟨gb172,5,none⟩) (Kd.S_far (p:=⟨gb172,4,none⟩) (Kd.S_far (p:=⟨gb172,3,none⟩) (Kd.S_far (p:=⟨gb172,2,none⟩) (Kd.S_far (p:=⟨gb172,1,none⟩) (Kd.S_far (p:=⟨gb172,0,none⟩) (Kd.S_far (p:=⟨gb173,7,none⟩) (Kd.S_far (p:=⟨gb173,6,none⟩) (Kd.S_far (p:=⟨gb173,5,none⟩) (Kd.S_far (p:=⟨gb173,4,none⟩) (Kd.S_far (p:=⟨gb173,3,none⟩) (Kd.S_types (Kd.S_types HO179.out BK173.out (by decide)) BK172.out (by decide)) (fun _ hk=>hk.1.2) (.slice Ao15 t177.length co15)) (fun _ hk=>hk.1.2) (.int .i64 a0_4)) (fun _ hk=>hk.1.2) (.int .i64 a0_5)) (fun _ hk=>hk.1.2) (.bool a0_6)) (fun _ hk=>hk.1.2) (.int .i64 a0_7)) (fun _ hk=>hk.2) (.int .i64 t174)) (fun _ hk=>hk.2) (.int .i64 t175)) (fun _ hk=>hk.2) (.int .i64 t176)) (fun _ hk=>hk.2) (.slice Ao15 t177.length co15)) (fun _ hk=>hk.2) (.int .i64 a0_4)) (fun _ hk=>hk.2) (.int .i64 a0_5)) (fun _ hk=>hk.2) (.bool a0_6)) (fun _ hk=>hk.2) (.int .i64 a0_7)) (fun _ hk=>trivial),by repeat (first|(with_reducible first|exact HB.out|apply bA4_|apply bN4_|apply bD4_|refine bS4_ ?_ GE171.out|refine bS4_ ?_ GE172.out|refine bS4_ ?_ GE173.out)|exact HB.out)⟩

end Go.Proofs.Ytajocpalpnpmdaa.Q
