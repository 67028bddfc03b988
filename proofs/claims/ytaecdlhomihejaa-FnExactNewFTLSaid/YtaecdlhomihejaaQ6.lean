/- The program's functions as Lean functions,and for each the proof that the machine's call comes to what its function says. Conditions: those that stand before each theorem. -/
import Derived.Test.YtaecdlhomihejaaQ0
namespace Go.Proofs.Ytaecdlhomihejaa.Q
open Go.RowKit Go.Proofs.YtaecdlhomihejaaW.PrintWords Go.Proofs.YtaecdlhomihejaaW.PrintLast Go.Proofs.YtaecdlhomihejaaW.PrintMore
abbrev kN6_ := @blk_drewN
abbrev kD6_ := @blk_drew
abbrev kA6_ := @blk_alloc
abbrev rA6_ := @Kd.R_alloc
abbrev rD6_ := @Kd.R_drew
abbrev bA6_ := @below_alloc
abbrev bN6_ := @pw_below_drewN
abbrev bD6_ := @below_drew1
abbrev bS6_ := @below_set
abbrev mk6_ := @Aside0.mk
abbrev fZ6_ := @blk_frozen
abbrev sA6_ := @Kd.S_alloc
abbrev sB6_ := @Kd.S_below
abbrev bT6_ := @below_step
abbrev bZ6_ := @below_size
attribute [local go_sem] min2_int min_two
set_option linter.unusedVariables false
set_option linter.unusedSimpArgs false

def spec_l09New.l0:Nat→Int→Int→Int→Int→List Int→List Bool→Option (Int × Int × List Int × List Bool)
  | 0, _, _, _, _, _, _ => none
  | k+1,x0,x8,x205000,x205001,x205002,x205003=>if x8 < x0 then (if x205002.length < 17592186044416 then (if x205003.length < 140737488355328 then (spec_l09New.l0 k x0 (wrap64 (x8+1)) x205000 x205001 (x205002 ++ [(-1)]) (x205003 ++ [false])) else (none)) else (none)) else (some (x205000,x205001,x205002,x205003))
def spec_l09New.f (k:Nat) (a0:Int) (a1:Int) (a2:Int):Option (Int × Int × List Int × List Bool):=spec_l09New.l0 k a0 0 a1 a2 ([]:List Int) ([]:List Bool)
set_option maxHeartbeats 8000000 in
set_option maxRecDepth 100000 in
theorem spec_l09New.calls (k:Nat) (a0:Int) (a1:Int) (a2:Int) (r1:Int) (r2:Int) (r3:List Int) (r4:List Bool) (w:World) (h:spec_l09New.f k a0 a1 a2=some (r1,r2,r3,r4)) :
    Calls Try.prog 120 #[.int .i64 a0,.int .i64 a1,.int .i64 a2] w fun e w'=>∃ v2_ v3_:Value,e=.returned (.agg #[.int .i64 r1,.int .i64 r2,v2_,v3_])∧Kd.R (Kd.int .i64) 2 w' w.heap.size (fun _=>True) v2_ r3∧Kd.R Kd.bool 4 w' w.heap.size (fun _=>True) v3_ r4∧Below w.heap.size w w':=by
  have hu41 := Try.underlying41
  have HB := Aside0.mk (Below.refl w.heap.size w)
  have H:(spec_l09New.l0 k a0 0 a1 a2 ([]:List Int) ([]:List Bool))=some (r1,r2,r3,r4):=h
  clear h
  have H' := Aside0.mk H
  clear H
  go_enter Try.func120, Try.ntmps120
  go_wp2_with (first|((with_reducible refine gate_dst (N:=6) rfl ?_);refine box_event ?hg (N:=6) ?hd (cs:=#[.int .i64 0,.int .i64 0,.slice none 0 0,.slice none 0 0]) (t:=41) ?hr ?_;(case hd=>rfl);(case hg=>rfl);(case hr=>first|(go_simp;done)|(go_simp;rfl));intro gb203 hg w4 hbox hb;have n0_:=mk6_ (bT6_ (by repeat (first|(with_reducible first|exact HB.out|apply bA6_|apply bN6_|apply bD6_)|exact HB.out)) hb);have n1_:=mk6_ (hbox);have n2_:=mk6_ ((by rw [hg];exact (bZ6_ (by repeat (first|(with_reducible first|exact HB.out|apply bA6_|apply bN6_|apply bD6_)|exact HB.out))):w.heap.size≤gb203));have n3_:=mk6_ ((by rw [hg];exact (bZ6_ (by repeat (first|(with_reducible first|exact HB.out|apply bA6_|apply bN6_|apply bD6_)|exact HB.out))):w.heap.size≤gb203));clear HB;have HB:=n0_;have BK203:=n1_;have GW203:=n2_;have GE203:=n3_;clear n0_ n1_ n2_ n3_;clear hb hbox hg)|((with_reducible refine gate_dst (N:=7) rfl ?_);refine box_event ?hg (N:=7) ?hd (cs:=#[.int .i64 0,.int .i64 0,.slice none 0 0,.slice none 0 0]) (t:=41) ?hr ?_;(case hd=>rfl);(case hg=>rfl);(case hr=>first|(go_simp;done)|(go_simp;rfl));intro gb204 hg w5 hbox hb;have n0_:=mk6_ (blk_below (g:=gb203) (o:=.cells #[.int .i64 0,.int .i64 0,.slice none 0 0,.slice none 0 0] 41 (0,0)) (by (with_reducible repeat (first|refine kN6_ ?_ _|refine kD6_ ?_|refine kA6_ ?_ _));exact BK203.out) hb);have n1_:=mk6_ (bT6_ (by repeat (first|(with_reducible first|exact HB.out|apply bA6_|apply bN6_|apply bD6_|refine bS6_ ?_ GE203.out)|exact HB.out)) hb);have n2_:=mk6_ (hbox);have n3_:=mk6_ ((by rw [hg];exact (bZ6_ (by repeat (first|(with_reducible first|exact HB.out|apply bA6_|apply bN6_|apply bD6_|refine bS6_ ?_ GE203.out)|exact HB.out))):w.heap.size≤gb204));have n4_:=mk6_ ((by rw [hg];exact (bZ6_ (by repeat (first|(with_reducible first|exact HB.out|apply bA6_|apply bN6_|apply bD6_|refine bS6_ ?_ GE203.out)|exact HB.out))):w.heap.size≤gb204));have n5_:=mk6_ ((by rw [hg];exact Nat.ne_of_lt (blk_lt (g:=gb203) (o:=.cells #[.int .i64 0,.int .i64 0,.slice none 0 0,.slice none 0 0] 41 (0,0)) (by (with_reducible repeat (first|refine kN6_ ?_ _|refine kD6_ ?_|refine kA6_ ?_ _));exact BK203.out)):gb203≠gb204));have n6_:=mk6_ ((by rw [hg];exact Nat.ne_of_gt (blk_lt (g:=gb203) (o:=.cells #[.int .i64 0,.int .i64 0,.slice none 0 0,.slice none 0 0] 41 (0,0)) (by (with_reducible repeat (first|refine kN6_ ?_ _|refine kD6_ ?_|refine kA6_ ?_ _));exact BK203.out)):gb204≠gb203));clear BK203;clear HB;have BK203:=n0_;have HB:=n1_;have BK204:=n2_;have GW204:=n3_;have GE204:=n4_;have NB203_204:=n5_;have NB204_203:=n6_;clear n0_ n1_ n2_ n3_ n4_ n5_ n6_;clear hb hbox hg;have hnb6:=NB204_203.out;have hnc6:=NB203_204.out;have hcz7_0:w5.cell? ⟨gb204,0,none⟩=some (.int .i64 0):=(blk_cell BK204.out 0).trans rfl;have hcz7_1:w5.cell? ⟨gb204,1,none⟩=some (.int .i64 0):=(blk_cell BK204.out 1).trans rfl;have hcz7_2:w5.cell? ⟨gb204,2,none⟩=some (.slice none 0 0):=(blk_cell BK204.out 2).trans rfl;have hcz7_3:w5.cell? ⟨gb204,3,none⟩=some (.slice none 0 0):=(blk_cell BK204.out 3).trans rfl;have hfz7_0:=fZ6_ BK204.out 0;have hfz7_1:=fZ6_ BK204.out 1;have hfz7_2:=fZ6_ BK204.out 2;have hfz7_3:=fZ6_ BK204.out 3))
  go_loopg [8] k (fun kq v8 w'=>∃ (x8_1:Int) (x205002_1:List Int) (x205003_1:List Bool) (u205002:Value) (u205003:Value),v8=.int .i64 x8_1∧Aside0 (spec_l09New.l0 kq a0 x8_1 a1 a2 x205002_1 x205003_1=some (r1,r2,r3,r4))∧Aside0 (kq≤k)∧Aside0 (Kd.R (Kd.int .i64) 2 w' w.heap.size (fun _=>True) u205002 x205002_1)∧Aside0 (Kd.R Kd.bool 4 w' w.heap.size (fun _=>True) u205003 x205003_1)∧Aside0 (w'.heap[gb203]?=some (.cells #[.int .i64 0,.int .i64 0,(.slice none 0 0),(.slice none 0 0)] 41 (0,0)))∧Aside0 (w'.heap[gb204]?=some (.cells #[.int .i64 a1,.int .i64 a2,u205002,u205003] 41 (0,0)))∧Aside0 (Below w.heap.size w w'))
  case atStart=>exact ⟨(0),(([]:List Int)),(([]:List Bool)),(.slice none 0 0),(.slice none 0 0),(by first|rfl|(simp;done)|(simp [*];done)),H',⟨Nat.le_refl _⟩,⟨by first|exact Kd.R_nil _ _ _ _ _|exact Kd.N_nil _ _ _ _ _|exact Kd.V_nil _ _ _ _ _|exact Kd.Q_nil _ _ _ _ _|exact Kd.S_nil _ _ _ _ _⟩,⟨by first|exact Kd.R_nil _ _ _ _ _|exact Kd.N_nil _ _ _ _ _|exact Kd.V_nil _ _ _ _ _|exact Kd.Q_nil _ _ _ _ _|exact Kd.S_nil _ _ _ _ _⟩,⟨by (with_reducible repeat (first|refine kN6_ ?_ _|refine kD6_ ?_|refine kA6_ ?_ _));refine blk_far ?_ NB203_204.out _;(with_reducible repeat (first|refine kN6_ ?_ _|refine kD6_ ?_|refine kA6_ ?_ _));refine blk_far ?_ NB203_204.out _;(with_reducible repeat (first|refine kN6_ ?_ _|refine kD6_ ?_|refine kA6_ ?_ _));refine blk_far ?_ NB203_204.out _;(with_reducible repeat (first|refine kN6_ ?_ _|refine kD6_ ?_|refine kA6_ ?_ _));refine blk_far ?_ NB203_204.out _;(with_reducible repeat (first|refine kN6_ ?_ _|refine kD6_ ?_|refine kA6_ ?_ _));exact BK203.out⟩,⟨by (with_reducible repeat (first|refine kN6_ ?_ _|refine kD6_ ?_|refine kA6_ ?_ _));refine blk_put (cs:=#[.int .i64 a1,.int .i64 a2,.slice none 0 0,.slice none 0 0]) ?_ 3 _ rfl;(with_reducible repeat (first|refine kN6_ ?_ _|refine kD6_ ?_|refine kA6_ ?_ _));refine blk_put (cs:=#[.int .i64 a1,.int .i64 a2,.slice none 0 0,.slice none 0 0]) ?_ 2 _ rfl;(with_reducible repeat (first|refine kN6_ ?_ _|refine kD6_ ?_|refine kA6_ ?_ _));refine blk_put (cs:=#[.int .i64 a1,.int .i64 0,.slice none 0 0,.slice none 0 0]) ?_ 1 _ rfl;(with_reducible repeat (first|refine kN6_ ?_ _|refine kD6_ ?_|refine kA6_ ?_ _));refine blk_put (cs:=#[.int .i64 0,.int .i64 0,.slice none 0 0,.slice none 0 0]) ?_ 0 _ rfl;(with_reducible repeat (first|refine kN6_ ?_ _|refine kD6_ ?_|refine kA6_ ?_ _));exact BK204.out⟩,⟨by repeat (first|(with_reducible first|exact HB.out|apply bA6_|apply bN6_|apply bD6_|refine bS6_ ?_ GE203.out|refine bS6_ ?_ GE204.out)|exact HB.out)⟩⟩
  case round =>
    clear H'
    try clear c1
    try clear p2
    try clear c6
    try clear hcz7_0
    try clear hcz7_1
    try clear hcz7_2
    try clear hcz7_3
    try clear hfz7_0
    try clear hfz7_1
    try clear hfz7_2
    try clear hfz7_3
    obtain ⟨x8_1,x205002_1,x205003_1,u205002,u205003,rfl,HA,HK1,HO_205002,HO_205003,BK203,BK204,HB⟩:=hrel
    cases gk with
    | zero => exact absurd HA.out (by simp [spec_l09New.l0])
    | succ k1 =>
      have H := HA.out
      clear HA
      simp only [spec_l09New.l0] at H
      by_cases c8 : x8_1 < a0
      · rw [if_pos c8] at H
        have c8b0 : decide (x8_1 < a0) = true := decide_eq_true c8
        clear c8
        by_cases c9 : x205002_1.length < 17592186044416
        · rw [if_pos c9] at H
          have LMc9 := Aside0.mk c9
          clear c9
          obtain ⟨y205, hy205⟩ : ∃ y_ : List Int, y_ = (x205002_1 ++ [(-1)]) := ⟨_, rfl⟩
          replace H:(if x205003_1.length < 140737488355328 then (spec_l09New.l0 k1 a0 (wrap64 (x8_1+1)) a1 a2 y205 (x205003_1 ++ [false])) else (none))=some (r1,r2,r3,r4):=by first|(rw [hy205];with_reducible exact H)|(have H2_:=(Option.bind_some _ _).symm.trans H;rw [hy205];with_reducible exact H2_)|(have H2_:=(Option.bind_some _ _).symm.trans H;with_reducible exact H2_)|with_reducible exact H|(rw [hy205];exact H)|exact H
          have Ny205 := Aside0.mk hy205
          clear hy205
          by_cases c10 : x205003_1.length < 140737488355328
          · rw [if_pos c10] at H
            have LMc10 := Aside0.mk c10
            clear c10
            obtain ⟨y208, hy208⟩ : ∃ y_ : List Bool, y_ = (x205003_1 ++ [false]) := ⟨_, rfl⟩
            replace H:(spec_l09New.l0 k1 a0 (wrap64 (x8_1+1)) a1 a2 y205 y208)=some (r1,r2,r3,r4):=by first|(rw [hy208];with_reducible exact H)|(have H2_:=(Option.bind_some _ _).symm.trans H;rw [hy208];with_reducible exact H2_)|(have H2_:=(Option.bind_some _ _).symm.trans H;with_reducible exact H2_)|with_reducible exact H|(rw [hy208];exact H)|exact H
            have Ny208 := Aside0.mk hy208
            clear hy208
            have H' := Aside0.mk H
            clear H
            have hnb11 := NB204_203.out
            have hnc11 := NB203_204.out
            have hcz12_0:wr.cell? ⟨gb204,0,none⟩=some (.int .i64 a1):=(blk_cell BK204.out 0).trans rfl
            have hcz12_1:wr.cell? ⟨gb204,1,none⟩=some (.int .i64 a2):=(blk_cell BK204.out 1).trans rfl
            have hcz12_2:wr.cell? ⟨gb204,2,none⟩=some (u205002):=(blk_cell BK204.out 2).trans rfl
            have hcz12_3:wr.cell? ⟨gb204,3,none⟩=some (u205003):=(blk_cell BK204.out 3).trans rfl
            have hfz12_0 := blk_frozen BK204.out 0
            have hfz12_1 := blk_frozen BK204.out 1
            have hfz12_2 := blk_frozen BK204.out 2
            have hfz12_3 := blk_frozen BK204.out 3
            go_wp2_with (first|((with_reducible refine gate_builtin (b:=.append) (xs:=#[.tmp 18,.tmp 19]) rfl ?_);at_builtin;refine Kd.R_append (Kd.int .i64) (w0:=w) w.heap.size rfl (.tmp 18) (.tmp 19) 27 2 (.int .i64 0) 8 rfl Try.underlying27 info2 rfl (by decide) (by omega) u205002 x205002_1 (-1) [.int .i64 (-1)] (fun _=>True) (fun _=>False) rfl rfl ?aP (fun _ hk=>hk.elim) ?aF ?aO ?aB ?aS ?aL ?_;(case aP=>exact rfl);(case aB=>exact (by repeat (first|(with_reducible first|exact HB.out|apply bA6_|apply bN6_|apply bD6_|refine bS6_ ?_ GE203.out|refine bS6_ ?_ GE204.out)|exact HB.out)));(case aF=>exact (fun _ _=>trivial));(case aO=>exact (by (with_reducible repeat (first|apply rA6_|apply Kd.R_drewN|apply rD6_));exact HO_205002.out));(case aS=>exact (bZ6_ (by repeat (first|(with_reducible first|exact HB.out|apply bA6_|apply bN6_|apply bD6_|refine bS6_ ?_ GE203.out|refine bS6_ ?_ GE204.out)|exact HB.out))));(case aL=>have:=LMc9.out;omega);intro v206 w13 ho hb hg hat;rw [← Ny205.out] at ho;have n0_:=mk6_ (Kd.R_over' (by (with_reducible repeat (first|apply rA6_|apply Kd.R_drewN|apply rD6_));exact HO_205003.out) (Kd.R_typed (by (with_reducible repeat (first|apply rA6_|apply Kd.R_drewN|apply rD6_));exact HO_205002.out)) (by decide) hg);have n1_:=mk6_ (blk_grown (g:=gb203) (o:=.cells #[.int .i64 0,.int .i64 0,.slice none 0 0,.slice none 0 0] 41 (0,0)) (by (with_reducible repeat (first|refine kN6_ ?_ _|refine kD6_ ?_|refine kA6_ ?_ _));exact BK203.out) hg (Kd.R_ne HO_205002.out BK203.out (by decide)));have n2_:=mk6_ (blk_grown (g:=gb204) (o:=.cells #[.int .i64 a1,.int .i64 a2,u205002,u205003] 41 (0,0)) (by (with_reducible repeat (first|refine kN6_ ?_ _|refine kD6_ ?_|refine kA6_ ?_ _));exact BK204.out) hg (Kd.R_ne HO_205002.out BK204.out (by decide)));have n3_:=mk6_ (hb);have n4_:=mk6_ (ho);clear HO_205003;clear BK203;clear BK204;clear HB;clear HO_205002;have HO_205003:=n0_;have BK203:=n1_;have BK204:=n2_;have HB:=n3_;have HO207:=n4_;clear n0_ n1_ n2_ n3_ n4_;clear ho hb hg hat;obtain ⟨Ao14,co14,eo14⟩:=Kd.R_slice HO207.out;subst eo14;have hcz15_0:w13.cell? ⟨gb204,0,none⟩=some (.int .i64 a1):=(blk_cell BK204.out 0).trans rfl;have hcz15_1:w13.cell? ⟨gb204,1,none⟩=some (.int .i64 a2):=(blk_cell BK204.out 1).trans rfl;have hcz15_2:w13.cell? ⟨gb204,2,none⟩=some (u205002):=(blk_cell BK204.out 2).trans rfl;have hcz15_3:w13.cell? ⟨gb204,3,none⟩=some (u205003):=(blk_cell BK204.out 3).trans rfl;have hfz15_0:=fZ6_ BK204.out 0;have hfz15_1:=fZ6_ BK204.out 1;have hfz15_2:=fZ6_ BK204.out 2;have hfz15_3:=fZ6_ BK204.out 3)|((with_reducible refine gate_builtin (b:=.append) (xs:=#[.tmp 23,.tmp 24]) rfl ?_);at_builtin;refine Kd.R_append Kd.bool (w0:=w) w.heap.size rfl (.tmp 23) (.tmp 24) 28 4 (.bool false) 1 rfl Try.underlying28 info4 rfl (by decide) (by omega) u205003 x205003_1 false [.bool false] (fun _=>True) (fun _=>False) rfl (by first|(go_simp;done)|(go_simp;rfl)) ?aP (fun _ hk=>hk.elim) ?aF ?aO ?aB ?aS ?aL ?_;(case aP=>exact rfl);(case aB=>exact (by repeat (first|(with_reducible first|exact HB.out|apply bA6_|apply bN6_|apply bD6_|refine bS6_ ?_ GE203.out|refine bS6_ ?_ GE204.out)|exact HB.out)));(case aF=>exact (fun _ _=>trivial));(case aO=>exact (by (with_reducible repeat (first|apply rA6_|apply Kd.R_drewN|apply rD6_));exact Kd.R_mono (Kd.R_far (p:=⟨gb204,2,none⟩) (Kd.R_types HO_205003.out BK204.out (by decide)) (fun _ hk=>hk.2) (.slice Ao14 y205.length co14)) (fun _ hk=>trivial)));(case aS=>exact (bZ6_ (by repeat (first|(with_reducible first|exact HB.out|apply bA6_|apply bN6_|apply bD6_|refine bS6_ ?_ GE203.out|refine bS6_ ?_ GE204.out)|exact HB.out))));(case aL=>have:=LMc10.out;omega);intro v209 w16 ho hb hg hat;rw [← Ny208.out] at ho;have n0_:=mk6_ (blk_grown (g:=gb203) (o:=.cells #[.int .i64 0,.int .i64 0,.slice none 0 0,.slice none 0 0] 41 (0,0)) (by (with_reducible repeat (first|refine kN6_ ?_ _|refine kD6_ ?_|refine kA6_ ?_ _));refine blk_far ?_ NB203_204.out _;(with_reducible repeat (first|refine kN6_ ?_ _|refine kD6_ ?_|refine kA6_ ?_ _));exact BK203.out) hg (Kd.R_ne HO_205003.out BK203.out (by decide)));have n1_:=mk6_ (blk_grown (g:=gb204) (o:=.cells #[.int .i64 a1,.int .i64 a2,.slice Ao14 y205.length co14,u205003] 41 (0,0)) (by (with_reducible repeat (first|refine kN6_ ?_ _|refine kD6_ ?_|refine kA6_ ?_ _));refine blk_put (cs:=#[.int .i64 a1,.int .i64 a2,u205002,u205003]) ?_ 2 _ rfl;(with_reducible repeat (first|refine kN6_ ?_ _|refine kD6_ ?_|refine kA6_ ?_ _));exact BK204.out) hg (Kd.R_ne HO_205003.out BK204.out (by decide)));have n2_:=mk6_ (Kd.R_over' (by (with_reducible repeat (first|apply rA6_|apply Kd.R_drewN|apply rD6_));exact (Kd.R_mono (Kd.R_far (p:=⟨gb204,2,none⟩) (Kd.R_types HO207.out BK204.out (by decide)) (fun _ hk=>hk.2) (.slice Ao14 y205.length co14)) (fun _ h_=>h_.1))) (Kd.R_typed (by (with_reducible repeat (first|apply rA6_|apply Kd.R_drewN|apply rD6_));exact (Kd.R_mono (Kd.R_far (p:=⟨gb204,2,none⟩) (Kd.R_types HO_205003.out BK204.out (by decide)) (fun _ hk=>hk.2) (.slice Ao14 y205.length co14)) (fun _ h_=>h_.1)))) (by decide) hg);have n3_:=mk6_ (hb);have n4_:=mk6_ (ho);clear BK203;clear BK204;clear HO207;clear HB;clear HO_205003;have BK203:=n0_;have BK204:=n1_;have HO207:=n2_;have HB:=n3_;have HO210:=n4_;clear n0_ n1_ n2_ n3_ n4_;clear ho hb hg hat;obtain ⟨Ao17,co17,eo17⟩:=Kd.R_slice HO210.out;subst eo17;have hcz18_0:w16.cell? ⟨gb204,0,none⟩=some (.int .i64 a1):=(blk_cell BK204.out 0).trans rfl;have hcz18_1:w16.cell? ⟨gb204,1,none⟩=some (.int .i64 a2):=(blk_cell BK204.out 1).trans rfl;have hcz18_2:w16.cell? ⟨gb204,2,none⟩=some (.slice Ao14 y205.length co14):=(blk_cell BK204.out 2).trans rfl;have hcz18_3:w16.cell? ⟨gb204,3,none⟩=some (u205003):=(blk_cell BK204.out 3).trans rfl;have hfz18_0:=fZ6_ BK204.out 0;have hfz18_1:=fZ6_ BK204.out 1;have hfz18_2:=fZ6_ BK204.out 2;have hfz18_3:=fZ6_ BK204.out 3))
            go_roundg k1
            case measure => have := HK1.out; omega
            case rel=>exact ⟨(wrap64 (x8_1+1)),(y205),(y208),(.slice Ao14 y205.length co14),(.slice Ao17 y208.length co17),(by first|rfl|(simp;done)|(simp [*];done)),H',⟨by have:=HK1.out;omega⟩,⟨by (with_reducible repeat (first|apply rA6_|apply Kd.R_drewN|apply rD6_));exact Kd.R_mono (Kd.R_far (p:=⟨gb204,3,none⟩) (Kd.R_types HO207.out BK204.out (by decide)) (fun _ hk=>hk.2) (.slice Ao17 y208.length co17)) (fun _ hk=>trivial)⟩,⟨by (with_reducible repeat (first|apply rA6_|apply Kd.R_drewN|apply rD6_));exact Kd.R_mono (Kd.R_far (p:=⟨gb204,3,none⟩) (Kd.R_types HO210.out BK204.out (by decide)) (fun _ hk=>hk.2) (.slice Ao17 y208.length co17)) (fun _ hk=>trivial)⟩,⟨by (with_reducible repeat (first|refine kN6_ ?_ _|refine kD6_ ?_|refine kA6_ ?_ _));refine blk_far ?_ NB203_204.out _;(with_reducible repeat (first|refine kN6_ ?_ _|refine kD6_ ?_|refine kA6_ ?_ _));exact BK203.out⟩,⟨by (with_reducible repeat (first|refine kN6_ ?_ _|refine kD6_ ?_|refine kA6_ ?_ _));refine blk_put (cs:=#[.int .i64 a1,.int .i64 a2,.slice Ao14 y205.length co14,u205003]) ?_ 3 _ rfl;(with_reducible repeat (first|refine kN6_ ?_ _|refine kD6_ ?_|refine kA6_ ?_ _));exact BK204.out⟩,⟨by repeat (first|(with_reducible first|exact HB.out|apply bA6_|apply bN6_|apply bD6_|refine bS6_ ?_ GE203.out|refine bS6_ ?_ GE204.out)|exact HB.out)⟩⟩
          · rw [if_neg c10] at H
            exact absurd H (by simp)
        · rw [if_neg c9] at H
          exact absurd H (by simp)
      · rw [if_neg c8] at H
        have c8b0 : decide (x8_1 < a0) = false := decide_eq_false c8
        clear c8
        simp only [Option.some.injEq, Prod.mk.injEq] at H
        obtain ⟨rfl, rfl, rfl, rfl⟩ := H
        have hnb19 := NB204_203.out
        have hnc19 := NB203_204.out
        have hcz20_0:wr.cell? ⟨gb204,0,none⟩=some (.int .i64 a1):=(blk_cell BK204.out 0).trans rfl
        have hcz20_1:wr.cell? ⟨gb204,1,none⟩=some (.int .i64 a2):=(blk_cell BK204.out 1).trans rfl
        have hcz20_2:wr.cell? ⟨gb204,2,none⟩=some (u205002):=(blk_cell BK204.out 2).trans rfl
        have hcz20_3:wr.cell? ⟨gb204,3,none⟩=some (u205003):=(blk_cell BK204.out 3).trans rfl
        have hfz20_0 := blk_frozen BK204.out 0
        have hfz20_1 := blk_frozen BK204.out 1
        have hfz20_2 := blk_frozen BK204.out 2
        have hfz20_3 := blk_frozen BK204.out 3
        have hcz21_0:wr.cell? ⟨gb203,0,none⟩=some (.int .i64 0):=(blk_cell BK203.out 0).trans rfl
        have hcz21_1:wr.cell? ⟨gb203,1,none⟩=some (.int .i64 0):=(blk_cell BK203.out 1).trans rfl
        have hcz21_2:wr.cell? ⟨gb203,2,none⟩=some (.slice none 0 0):=(blk_cell BK203.out 2).trans rfl
        have hcz21_3:wr.cell? ⟨gb203,3,none⟩=some (.slice none 0 0):=(blk_cell BK203.out 3).trans rfl
        have hfz21_0 := blk_frozen BK203.out 0
        have hfz21_1 := blk_frozen BK203.out 1
        have hfz21_2 := blk_frozen BK203.out 2
        have hfz21_3 := blk_frozen BK203.out 3
        obtain ⟨Ao22, co22, eo22⟩ := Kd.R_slice HO_205002.out
        subst eo22
        obtain ⟨Ao23, co23, eo23⟩ := Kd.R_slice HO_205003.out
        subst eo23
        go_wp2
        refine bodyPost_ret (results_cell_row rfl _ _ gb203 41 #[.int .i64 a1,.int .i64 a2,.slice Ao22 x205002_1.length co22,.slice Ao23 x205003_1.length co23] (0,0) _ rfl (by (with_reducible repeat (first|refine kN6_ ?_ _|refine kD6_ ?_|refine kA6_ ?_ _));refine blk_put (cs:=#[.int .i64 a1,.int .i64 a2,.slice Ao22 x205002_1.length co22,.slice none 0 0]) ?_ 3 _ rfl;(with_reducible repeat (first|refine kN6_ ?_ _|refine kD6_ ?_|refine kA6_ ?_ _));refine blk_put (cs:=#[.int .i64 a1,.int .i64 a2,.slice none 0 0,.slice none 0 0]) ?_ 2 _ rfl;(with_reducible repeat (first|refine kN6_ ?_ _|refine kD6_ ?_|refine kA6_ ?_ _));refine blk_put (cs:=#[.int .i64 a1,.int .i64 0,.slice none 0 0,.slice none 0 0]) ?_ 1 _ rfl;(with_reducible repeat (first|refine kN6_ ?_ _|refine kD6_ ?_|refine kA6_ ?_ _));refine blk_put (cs:=#[.int .i64 0,.int .i64 0,.slice none 0 0,.slice none 0 0]) ?_ 0 _ rfl;(with_reducible repeat (first|refine kN6_ ?_ _|refine kD6_ ?_|refine kA6_ ?_ _));exact BK203.out) Try.underlying41 rfl (by kernel_rfl)) rfl ?_
        exact ⟨_,_,by first|rfl|(simp [errW_none,errW_some] <;> rfl)|(simp [*,errW_none,errW_some] <;> rfl),by (with_reducible repeat (first|apply rA6_|apply Kd.R_drewN|apply rD6_));exact Kd.R_mono (Kd.R_far (p:=⟨gb203,3,none⟩) (Kd.R_far (p:=⟨gb203,2,none⟩) (Kd.R_far (p:=⟨gb203,1,none⟩) (Kd.R_far (p:=⟨gb203,0,none⟩) (Kd.R_types HO_205002.out BK203.out (by decide)) (fun _ hk=>hk.2) (.int .i64 a1)) (fun _ hk=>hk.2) (.int .i64 a2)) (fun _ hk=>hk.2) (.slice Ao22 x205002_1.length co22)) (fun _ hk=>hk.2) (.slice Ao23 x205003_1.length co23)) (fun _ hk=>trivial),by (with_reducible repeat (first|apply rA6_|apply Kd.R_drewN|apply rD6_));exact Kd.R_mono (Kd.R_far (p:=⟨gb203,3,none⟩) (Kd.R_far (p:=⟨gb203,2,none⟩) (Kd.R_far (p:=⟨gb203,1,none⟩) (Kd.R_far (p:=⟨gb203,0,none⟩) (Kd.R_types HO_205003.out BK203.out (by decide)) (fun _ hk=>hk.2) (.int .i64 a1)) (fun _ hk=>hk.2) (.int .i64 a2)) (fun _ hk=>hk.2) (.slice Ao22 x205002_1.length co22)) (fun _ hk=>hk.2) (.slice Ao23 x205003_1.length co23)) (fun _ hk=>trivial),by repeat (first|(with_reducible first|exact HB.out|apply bA6_|apply bN6_|apply bD6_|refine bS6_ ?_ GE203.out|refine bS6_ ?_ GE204.out)|exact HB.out)⟩

def impl_within.f (a0:Int) (a1:Int) (a2:Int):Option (Bool):=if a0 ≥ a1 then (some (decide (a0≤a2))) else (some false)
set_option maxHeartbeats 8000000 in
set_option maxRecDepth 100000 in
theorem impl_within.calls (a0:Int) (a1:Int) (a2:Int) (r:Bool) (w:World) (h:impl_within.f a0 a1 a2=some r) :
    Calls Try.prog 92 #[.int .i64 a0,.int .i64 a1,.int .i64 a2] w fun e w'=>e=.returned (.bool r)∧Drawn0 w w':=by
  have H : (if a0 ≥ a1 then (some (decide (a0 ≤ a2))) else (some false)) = some r := h
  clear h
  by_cases c4 : a0 ≥ a1
  · rw [if_pos c4] at H
    have c4b0 : decide (a1 ≤ a0) = true := decide_eq_true c4
    clear c4
    obtain rfl := Option.some.inj H
    go_enter Try.func92, Try.ntmps92
    go_wp2
    go_ret
    exact ⟨by first|rfl|(simp;done)|(simp [*];done),by repeat (first|exact Drawn0.refl _|apply Drawn0.step)⟩
  · rw [if_neg c4] at H
    have c4b0 : decide (a1 ≤ a0) = false := decide_eq_false c4
    clear c4
    obtain rfl := Option.some.inj H
    go_enter Try.func92, Try.ntmps92
    go_wp2
    go_ret
    exact ⟨by first|rfl|(simp;done)|(simp [*];done),by repeat (first|exact Drawn0.refl _|apply Drawn0.step)⟩

def impl_ValidGeometry.f (a0_0:Int) (a0_1:Int) (a0_2:Int):Option (Bool):=(impl_within.f a0_0 2 3).bind fun t212=>(if t212=true then ((impl_within.f a0_1 4 12).bind fun t213=>(if t213=true then (if a0_2=8 then (some true) else (some (a0_2 == 16))) else (some false))) else (some false))
set_option maxHeartbeats 8000000 in
set_option maxRecDepth 100000 in
theorem impl_ValidGeometry.calls (a0_0:Int) (a0_1:Int) (a0_2:Int) (r:Bool) (w:World) (h:impl_ValidGeometry.f a0_0 a0_1 a0_2=some r) :
    Calls Try.prog 96 #[.agg #[.int .i64 a0_0,.int .i64 a0_1,.int .i64 a0_2]] w fun e w'=>e=.returned (.bool r)∧Below w.heap.size w w':=by
  have hu37 := Try.underlying37
  have HB := Aside0.mk (Below.refl w.heap.size w)
  have H:((impl_within.f a0_0 2 3).bind fun t212=>(if t212=true then ((impl_within.f a0_1 4 12).bind fun t213=>(if t213=true then (if a0_2=8 then (some true) else (some (a0_2 == 16))) else (some false))) else (some false)))=some r:=h
  clear h
  replace H := Option.bind_eq_some_iff.mp H
  obtain ⟨t212, A20, H⟩ := H
  replace H:(if t212=true then ((impl_within.f a0_1 4 12).bind fun t213=>(if t213=true then (if a0_2=8 then (some true) else (some (a0_2 == 16))) else (some false))) else (some false))=some r:=H
  have A2 := Aside0.mk A20
  clear A20
  by_cases c3 : t212 = true
  · subst c3
    have H1:((impl_within.f a0_1 4 12).bind fun t213=>(if t213=true then (if a0_2=8 then (some true) else (some (a0_2 == 16))) else (some false)))=some r:=by rw [if_pos rfl] at H;exact H
    clear H
    have H := H1
    clear H1
    replace H := Option.bind_eq_some_iff.mp H
    obtain ⟨t213, A40, H⟩ := H
    replace H:(if t213=true then (if a0_2=8 then (some true) else (some (a0_2 == 16))) else (some false))=some r:=H
    have A4 := Aside0.mk A40
    clear A40
    by_cases c5 : t213 = true
    · subst c5
      have H1:(if a0_2=8 then (some true) else (some (a0_2 == 16)))=some r:=by rw [if_pos rfl] at H;exact H
      clear H
      have H := H1
      clear H1
      by_cases c6 : a0_2 = 8
      · rw [if_pos c6] at H
        have c6b0 : (a0_2 == 8) = true := beq_iff_eq.mpr c6
        have c6b1 : (a0_2 != 8) = false := bne_eq_false_iff_eq.mpr c6
        clear c6
        obtain rfl := Option.some.inj H
        go_enter Try.func96, Try.ntmps96
        go_wp2_with (first|((with_reducible refine gate_dst (N:=1) rfl ?_);refine box_event ?hg (N:=1) ?hd (cs:=#[.int .i64 a0_0,.int .i64 a0_1,.int .i64 a0_2]) (t:=37) ?hr ?_;(case hd=>rfl);(case hg=>rfl);(case hr=>first|(go_simp;done)|(go_simp;rfl));intro gb211 hg w7 hbox hb;have n0_:=mk6_ (bT6_ (by repeat (first|(with_reducible first|exact HB.out|apply bA6_|apply bN6_|apply bD6_)|exact HB.out)) hb);have n1_:=mk6_ (hbox);have n2_:=mk6_ ((by rw [hg];exact (bZ6_ (by repeat (first|(with_reducible first|exact HB.out|apply bA6_|apply bN6_|apply bD6_)|exact HB.out))):w.heap.size≤gb211));have n3_:=mk6_ ((by rw [hg];exact (bZ6_ (by repeat (first|(with_reducible first|exact HB.out|apply bA6_|apply bN6_|apply bD6_)|exact HB.out))):w.heap.size≤gb211));clear HB;have HB:=n0_;have BK211:=n1_;have GW211:=n2_;have GE211:=n3_;clear n0_ n1_ n2_ n3_;clear hb hbox hg;have hcz8_0:w7.cell? ⟨gb211,0,none⟩=some (.int .i64 a0_0):=(blk_cell BK211.out 0).trans rfl;have hcz8_1:w7.cell? ⟨gb211,1,none⟩=some (.int .i64 a0_1):=(blk_cell BK211.out 1).trans rfl;have hcz8_2:w7.cell? ⟨gb211,2,none⟩=some (.int .i64 a0_2):=(blk_cell BK211.out 2).trans rfl;have hfz8_0:=fZ6_ BK211.out 0;have hfz8_1:=fZ6_ BK211.out 1;have hfz8_2:=fZ6_ BK211.out 2)|((with_reducible refine gate_callee (f:=92) rfl ?_);refine goesL_ (some 5) rfl rfl Try.func92 (by kernel_rfl) rfl #[.int .i64 a0_0,.int .i64 2,.int .i64 3] rfl (by (try simp only [List.map_toArray,List.map_cons,List.map_nil]);first|done|rfl|(simp only [List.length_drop,List.length_take];rfl)) ?_;(with_reducible refine (impl_within.calls a0_0 2 3 true _ A2.out).mono ?_);rintro e w' ⟨rfl,⟨nd,rfl⟩⟩;refine ⟨_,rfl,?_⟩)|(go_at_call 92;(with_reducible refine (impl_within.calls a0_1 4 12 true _ A4.out).mono ?_);rintro e w' ⟨rfl,⟨nd,rfl⟩⟩))
        go_ret
        exact ⟨by first|rfl|(simp [errW_none,errW_some] <;> rfl)|(simp [*,errW_none,errW_some] <;> rfl),by repeat (first|(with_reducible first|exact HB.out|apply bA6_|apply bN6_|apply bD6_|refine bS6_ ?_ GE211.out)|exact HB.out)⟩
      · rw [if_neg c6] at H
        have c6b0 : (a0_2 == 8) = false := beq_eq_false_iff_ne.mpr c6
        have c6b1 : (a0_2 != 8) = true := bne_iff_ne.mpr c6
        obtain rfl := Option.some.inj H
        go_enter Try.func96, Try.ntmps96
        go_wp2_with (first|((with_reducible refine gate_dst (N:=1) rfl ?_);refine box_event ?hg (N:=1) ?hd (cs:=#[.int .i64 a0_0,.int .i64 a0_1,.int .i64 a0_2]) (t:=37) ?hr ?_;(case hd=>rfl);(case hg=>rfl);(case hr=>first|(go_simp;done)|(go_simp;rfl));intro gb211 hg w9 hbox hb;have n0_:=mk6_ (bT6_ (by repeat (first|(with_reducible first|exact HB.out|apply bA6_|apply bN6_|apply bD6_)|exact HB.out)) hb);have n1_:=mk6_ (hbox);have n2_:=mk6_ ((by rw [hg];exact (bZ6_ (by repeat (first|(with_reducible first|exact HB.out|apply bA6_|apply bN6_|apply bD6_)|exact HB.out))):w.heap.size≤gb211));have n3_:=mk6_ ((by rw [hg];exact (bZ6_ (by repeat (first|(with_reducible first|exact HB.out|apply bA6_|apply bN6_|apply bD6_)|exact HB.out))):w.heap.size≤gb211));clear HB;have HB:=n0_;have BK211:=n1_;have GW211:=n2_;have GE211:=n3_;clear n0_ n1_ n2_ n3_;clear hb hbox hg;have hcz10_0:w9.cell? ⟨gb211,0,none⟩=some (.int .i64 a0_0):=(blk_cell BK211.out 0).trans rfl;have hcz10_1:w9.cell? ⟨gb211,1,none⟩=some (.int .i64 a0_1):=(blk_cell BK211.out 1).trans rfl;have hcz10_2:w9.cell? ⟨gb211,2,none⟩=some (.int .i64 a0_2):=(blk_cell BK211.out 2).trans rfl;have hfz10_0:=fZ6_ BK211.out 0;have hfz10_1:=fZ6_ BK211.out 1;have hfz10_2:=fZ6_ BK211.out 2)|((with_reducible refine gate_callee (f:=92) rfl ?_);refine goesL_ (some 5) rfl rfl Try.func92 (by kernel_rfl) rfl #[.int .i64 a0_0,.int .i64 2,.int .i64 3] rfl (by (try simp only [List.map_toArray,List.map_cons,List.map_nil]);first|done|rfl|(simp only [List.length_drop,List.length_take];rfl)) ?_;(with_reducible refine (impl_within.calls a0_0 2 3 true _ A2.out).mono ?_);rintro e w' ⟨rfl,⟨nd,rfl⟩⟩;refine ⟨_,rfl,?_⟩)|(go_at_call 92;(with_reducible refine (impl_within.calls a0_1 4 12 true _ A4.out).mono ?_);rintro e w' ⟨rfl,⟨nd,rfl⟩⟩))
        go_ret
        exact ⟨by first|rfl|(simp [errW_none,errW_some] <;> rfl)|(simp [*,errW_none,errW_some] <;> rfl),by repeat (first|(with_reducible first|exact HB.out|apply bA6_|apply bN6_|apply bD6_|refine bS6_ ?_ GE211.out)|exact HB.out)⟩
    · replace c5 := Bool.eq_false_iff.mpr c5
      subst c5
      have H1:(some false)=some r:=by rw [if_neg (show ¬ (false=true) by decide)] at H;exact H
      clear H
      have H := H1
      clear H1
      obtain rfl := Option.some.inj H
      go_enter Try.func96, Try.ntmps96
      go_wp2_with (first|((with_reducible refine gate_dst (N:=1) rfl ?_);refine box_event ?hg (N:=1) ?hd (cs:=#[.int .i64 a0_0,.int .i64 a0_1,.int .i64 a0_2]) (t:=37) ?hr ?_;(case hd=>rfl);(case hg=>rfl);(case hr=>first|(go_simp;done)|(go_simp;rfl));intro gb211 hg w11 hbox hb;have n0_:=mk6_ (bT6_ (by repeat (first|(with_reducible first|exact HB.out|apply bA6_|apply bN6_|apply bD6_)|exact HB.out)) hb);have n1_:=mk6_ (hbox);have n2_:=mk6_ ((by rw [hg];exact (bZ6_ (by repeat (first|(with_reducible first|exact HB.out|apply bA6_|apply bN6_|apply bD6_)|exact HB.out))):w.heap.size≤gb211));have n3_:=mk6_ ((by rw [hg];exact (bZ6_ (by repeat (first|(with_reducible first|exact HB.out|apply bA6_|apply bN6_|apply bD6_)|exact HB.out))):w.heap.size≤gb211));clear HB;have HB:=n0_;have BK211:=n1_;have GW211:=n2_;have GE211:=n3_;clear n0_ n1_ n2_ n3_;clear hb hbox hg;have hcz12_0:w11.cell? ⟨gb211,0,none⟩=some (.int .i64 a0_0):=(blk_cell BK211.out 0).trans rfl;have hcz12_1:w11.cell? ⟨gb211,1,none⟩=some (.int .i64 a0_1):=(blk_cell BK211.out 1).trans rfl;have hcz12_2:w11.cell? ⟨gb211,2,none⟩=some (.int .i64 a0_2):=(blk_cell BK211.out 2).trans rfl;have hfz12_0:=fZ6_ BK211.out 0;have hfz12_1:=fZ6_ BK211.out 1;have hfz12_2:=fZ6_ BK211.out 2)|((with_reducible refine gate_callee (f:=92) rfl ?_);refine goesL_ (some 5) rfl rfl Try.func92 (by kernel_rfl) rfl #[.int .i64 a0_0,.int .i64 2,.int .i64 3] rfl (by (try simp only [List.map_toArray,List.map_cons,List.map_nil]);first|done|rfl|(simp only [List.length_drop,List.length_take];rfl)) ?_;(with_reducible refine (impl_within.calls a0_0 2 3 true _ A2.out).mono ?_);rintro e w' ⟨rfl,⟨nd,rfl⟩⟩;refine ⟨_,rfl,?_⟩)|(go_at_call 92;(with_reducible refine (impl_within.calls a0_1 4 12 false _ A4.out).mono ?_);rintro e w' ⟨rfl,⟨nd,rfl⟩⟩))
      go_ret
      exact ⟨by first|rfl|(simp [errW_none,errW_some] <;> rfl)|(simp [*,errW_none,errW_some] <;> rfl),by repeat (first|(with_reducible first|exact HB.out|apply bA6_|apply bN6_|apply bD6_|refine bS6_ ?_ GE211.out)|exact HB.out)⟩
  · replace c3 := Bool.eq_false_iff.mpr c3
    subst c3
    have H1:(some false)=some r:=by rw [if_neg (show ¬ (false=true) by decide)] at H;exact H
    clear H
    have H := H1
    clear H1
    obtain rfl := Option.some.inj H
    go_enter Try.func96, Try.ntmps96
    go_wp2_with (first|((with_reducible refine gate_dst (N:=1) rfl ?_);refine box_event ?hg (N:=1) ?hd (cs:=#[.int .i64 a0_0,.int .i64 a0_1,.int .i64 a0_2]) (t:=37) ?hr ?_;(case hd=>rfl);(case hg=>rfl);(case hr=>first|(go_simp;done)|(go_simp;rfl));intro gb211 hg w13 hbox hb;have n0_:=mk6_ (bT6_ (by repeat (first|(with_reducible first|exact HB.out|apply bA6_|apply bN6_|apply bD6_)|exact HB.out)) hb);have n1_:=mk6_ (hbox);have n2_:=mk6_ ((by rw [hg];exact (bZ6_ (by repeat (first|(with_reducible first|exact HB.out|apply bA6_|apply bN6_|apply bD6_)|exact HB.out))):w.heap.size≤gb211));have n3_:=mk6_ ((by rw [hg];exact (bZ6_ (by repeat (first|(with_reducible first|exact HB.out|apply bA6_|apply bN6_|apply bD6_)|exact HB.out))):w.heap.size≤gb211));clear HB;have HB:=n0_;have BK211:=n1_;have GW211:=n2_;have GE211:=n3_;clear n0_ n1_ n2_ n3_;clear hb hbox hg;have hcz14_0:w13.cell? ⟨gb211,0,none⟩=some (.int .i64 a0_0):=(blk_cell BK211.out 0).trans rfl;have hcz14_1:w13.cell? ⟨gb211,1,none⟩=some (.int .i64 a0_1):=(blk_cell BK211.out 1).trans rfl;have hcz14_2:w13.cell? ⟨gb211,2,none⟩=some (.int .i64 a0_2):=(blk_cell BK211.out 2).trans rfl;have hfz14_0:=fZ6_ BK211.out 0;have hfz14_1:=fZ6_ BK211.out 1;have hfz14_2:=fZ6_ BK211.out 2)|((with_reducible refine gate_callee (f:=92) rfl ?_);refine goesL_ (some 5) rfl rfl Try.func92 (by kernel_rfl) rfl #[.int .i64 a0_0,.int .i64 2,.int .i64 3] rfl (by (try simp only [List.map_toArray,List.map_cons,List.map_nil]);first|done|rfl|(simp only [List.length_drop,List.length_take];rfl)) ?_;(with_reducible refine (impl_within.calls a0_0 2 3 false _ A2.out).mono ?_);rintro e w' ⟨rfl,⟨nd,rfl⟩⟩;refine ⟨_,rfl,?_⟩))
    go_ret
    exact ⟨by first|rfl|(simp [errW_none,errW_some] <;> rfl)|(simp [*,errW_none,errW_some] <;> rfl),by repeat (first|(with_reducible first|exact HB.out|apply bA6_|apply bN6_|apply bD6_|refine bS6_ ?_ GE211.out)|exact HB.out)⟩

def impl_Geometry_all.f (a0_0:Int) (a0_1:Int) (a0_2:Int):Option (Int):=some (wrap64 (a0_0 * a0_1))
set_option maxHeartbeats 8000000 in
set_option maxRecDepth 100000 in
theorem impl_Geometry_all.calls (a0_0:Int) (a0_1:Int) (a0_2:Int) (r:Int) (w:World) (h:impl_Geometry_all.f a0_0 a0_1 a0_2=some r) :
    Calls Try.prog 126 #[.agg #[.int .i64 a0_0,.int .i64 a0_1,.int .i64 a0_2]] w fun e w'=>e=.returned (.int .i64 r)∧Below w.heap.size w w':=by
  have hu37 := Try.underlying37
  have HB := Aside0.mk (Below.refl w.heap.size w)
  have H : (some (wrap64 (a0_0 * a0_1))) = some r := h
  clear h
  obtain rfl := Option.some.inj H
  go_enter Try.func126, Try.ntmps126
  go_wp2_with (first|((with_reducible refine gate_dst (N:=1) rfl ?_);refine box_event ?hg (N:=1) ?hd (cs:=#[.int .i64 a0_0,.int .i64 a0_1,.int .i64 a0_2]) (t:=37) ?hr ?_;(case hd=>rfl);(case hg=>rfl);(case hr=>first|(go_simp;done)|(go_simp;rfl));intro gb214 hg w2 hbox hb;have n0_:=mk6_ (bT6_ (by repeat (first|(with_reducible first|exact HB.out|apply bA6_|apply bN6_|apply bD6_)|exact HB.out)) hb);have n1_:=mk6_ (hbox);have n2_:=mk6_ ((by rw [hg];exact (bZ6_ (by repeat (first|(with_reducible first|exact HB.out|apply bA6_|apply bN6_|apply bD6_)|exact HB.out))):w.heap.size≤gb214));have n3_:=mk6_ ((by rw [hg];exact (bZ6_ (by repeat (first|(with_reducible first|exact HB.out|apply bA6_|apply bN6_|apply bD6_)|exact HB.out))):w.heap.size≤gb214));clear HB;have HB:=n0_;have BK214:=n1_;have GW214:=n2_;have GE214:=n3_;clear n0_ n1_ n2_ n3_;clear hb hbox hg;have hcz3_0:w2.cell? ⟨gb214,0,none⟩=some (.int .i64 a0_0):=(blk_cell BK214.out 0).trans rfl;have hcz3_1:w2.cell? ⟨gb214,1,none⟩=some (.int .i64 a0_1):=(blk_cell BK214.out 1).trans rfl;have hcz3_2:w2.cell? ⟨gb214,2,none⟩=some (.int .i64 a0_2):=(blk_cell BK214.out 2).trans rfl;have hfz3_0:=fZ6_ BK214.out 0;have hfz3_1:=fZ6_ BK214.out 1;have hfz3_2:=fZ6_ BK214.out 2))
  go_ret
  exact ⟨by first|rfl|(simp [errW_none,errW_some] <;> rfl)|(simp [*,errW_none,errW_some] <;> rfl),by repeat (first|(with_reducible first|exact HB.out|apply bA6_|apply bN6_|apply bD6_|refine bS6_ ?_ GE214.out)|exact HB.out)⟩

def impl_policyOk.f (a0:Int) (a1:Int):Option (Bool):=(impl_within.f a0 1 100).bind fun t215=>(if t215=true then ((impl_within.f a1 1 2).bind fun t216=>(some t216)) else (some false))
set_option maxHeartbeats 8000000 in
set_option maxRecDepth 100000 in
theorem impl_policyOk.calls (a0:Int) (a1:Int) (r:Bool) (w:World) (h:impl_policyOk.f a0 a1=some r) :
    Calls Try.prog 129 #[.int .i64 a0,.int .i64 a1] w fun e w'=>e=.returned (.bool r)∧Drawn0 w w':=by
  have H:((impl_within.f a0 1 100).bind fun t215=>(if t215=true then ((impl_within.f a1 1 2).bind fun t216=>(some t216)) else (some false)))=some r:=h
  clear h
  replace H := Option.bind_eq_some_iff.mp H
  obtain ⟨t215, A30, H⟩ := H
  replace H:(if t215=true then ((impl_within.f a1 1 2).bind fun t216=>(some t216)) else (some false))=some r:=H
  have A3 := Aside0.mk A30
  clear A30
  by_cases c4 : t215 = true
  · subst c4
    have H1:((impl_within.f a1 1 2).bind fun t216=>(some t216))=some r:=by rw [if_pos rfl] at H;exact H
    clear H
    have H := H1
    clear H1
    replace H := Option.bind_eq_some_iff.mp H
    obtain ⟨t216, A50, H⟩ := H
    replace H : (some t216) = some r := H
    have A5 := Aside0.mk A50
    clear A50
    obtain rfl := Option.some.inj H
    go_enter Try.func129, Try.ntmps129
    go_wp2_with (first|((with_reducible refine gate_callee (f:=92) rfl ?_);refine goesL_ (some 6) rfl rfl Try.func92 (by kernel_rfl) rfl #[.int .i64 a0,.int .i64 1,.int .i64 100] rfl (by (try simp only [List.map_toArray,List.map_cons,List.map_nil]);first|done|rfl|(simp only [List.length_drop,List.length_take];rfl)) ?_;(with_reducible refine (impl_within.calls a0 1 100 true _ A3.out).mono ?_);rintro e w' ⟨rfl,⟨nd,rfl⟩⟩;refine ⟨_,rfl,?_⟩)|(go_at_call 92;(with_reducible refine (impl_within.calls a1 1 2 t216 _ A5.out).mono ?_);rintro e w' ⟨rfl,⟨nd,rfl⟩⟩))
    go_ret
    exact ⟨by first|rfl|(simp;done)|(simp [*];done),by repeat (first|exact Drawn0.refl _|apply Drawn0.step)⟩
  · replace c4 := Bool.eq_false_iff.mpr c4
    subst c4
    have H1:(some false)=some r:=by rw [if_neg (show ¬ (false=true) by decide)] at H;exact H
    clear H
    have H := H1
    clear H1
    obtain rfl := Option.some.inj H
    go_enter Try.func129, Try.ntmps129
    go_wp2_with (first|((with_reducible refine gate_callee (f:=92) rfl ?_);refine goesL_ (some 6) rfl rfl Try.func92 (by kernel_rfl) rfl #[.int .i64 a0,.int .i64 1,.int .i64 100] rfl (by (try simp only [List.map_toArray,List.map_cons,List.map_nil]);first|done|rfl|(simp only [List.length_drop,List.length_take];rfl)) ?_;(with_reducible refine (impl_within.calls a0 1 100 false _ A3.out).mono ?_);rintro e w' ⟨rfl,⟨nd,rfl⟩⟩;refine ⟨_,rfl,?_⟩))
    go_ret
    exact ⟨by first|rfl|(simp;done)|(simp [*];done),by repeat (first|exact Drawn0.refl _|apply Drawn0.step)⟩

def impl_Geometry_capacity.f (a0_0:Int) (a0_1:Int) (a0_2:Int):Option (Int):=(impl_Geometry_all.f a0_0 a0_1 a0_2).bind fun t218=>(some (mn 48 (wrap64 (Int.tdiv (wrap64 ((wrap64 (t218 - 6)) * a0_2)) 2))))
def impl_Geometry_capacity.T1:Bool × List (List Nat × List Nat):=(true,[([],[]),([0],[0]),([1],[1]),([],[]),([3],[3]),([2,4],[2,4]),([5],[5]),([6],[6]),([7,1,0,1,2,3,4,5,6,7],[7])])
def impl_Geometry_capacity.B1 : List Nat := [0, 1, 3, 0, 8, 31, 63, 127, 255]
theorem impl_Geometry_capacity.tab1:rtab .any (opsOf Try.f174 1)=impl_Geometry_capacity.T1:=by kernel_rfl
theorem impl_Geometry_capacity.bits1:waitsOk impl_Geometry_capacity.T1.2 impl_Geometry_capacity.B1=true:=by kernel_rfl
set_option maxHeartbeats 8000000 in
set_option maxRecDepth 100000 in
theorem impl_Geometry_capacity.calls (a0_0:Int) (a0_1:Int) (a0_2:Int) (r:Int) (w:World) (h:impl_Geometry_capacity.f a0_0 a0_1 a0_2=some r) :
    Calls Try.prog 174 #[.agg #[.int .i64 a0_0,.int .i64 a0_1,.int .i64 a0_2]] w fun e w'=>e=.returned (.int .i64 r)∧Below w.heap.size w w':=by
  have hu37 := Try.underlying37
  have HB := Aside0.mk (Below.refl w.heap.size w)
  have H:((impl_Geometry_all.f a0_0 a0_1 a0_2).bind fun t218=>(some (mn 48 (wrap64 (Int.tdiv (wrap64 ((wrap64 (t218 - 6)) * a0_2)) 2)))))=some r:=h
  clear h
  replace H := Option.bind_eq_some_iff.mp H
  obtain ⟨t218, A20, H⟩ := H
  replace H:(some (mn 48 (wrap64 (Int.tdiv (wrap64 ((wrap64 (t218 - 6)) * a0_2)) 2))))=some r:=H
  have A2 := Aside0.mk A20
  clear A20
  obtain ⟨ji3,hji3⟩:∃ j_:Int,(mn 48 (wrap64 (Int.tdiv (wrap64 ((wrap64 (t218 - 6)) * a0_2)) 2)))=j_:=⟨_,rfl⟩
  replace H:(some ji3)=some r:=by first|(rw [hji3] at H;exact H)|(simp only [hji3] at H ⊢;exact H)
  (try rw [hji3] at A2)
  (try (have hji3h : ji3 ≤ 48 := by (rw [← hji3]; unfold mn; (repeat' split) <;> omega)))
  (try (have hji3g : ji3 ≤ 64 := by omega))
  have hji3_:(if (wrap64 (Int.tdiv (wrap64 ((wrap64 (t218 - 6)) * a0_2)) 2)) < 48 then (wrap64 (Int.tdiv (wrap64 ((wrap64 (t218 - 6)) * a0_2)) 2)) else 48)=ji3:=hji3
  obtain rfl := Option.some.inj H
  go_enter Try.func174, Try.ntmps174
  try go_wp2_with (first|((with_reducible refine gate_dst (N:=1) rfl ?_);refine box_event ?hg (N:=1) ?hd (cs:=#[.int .i64 a0_0,.int .i64 a0_1,.int .i64 a0_2]) (t:=37) ?hr ?_;(case hd=>rfl);(case hg=>rfl);(case hr=>first|(go_simp;done)|(go_simp;rfl));intro gb217 hg w4 hbox hb;have n0_:=mk6_ (bT6_ (by repeat (first|(with_reducible first|exact HB.out|apply bA6_|apply bN6_|apply bD6_)|exact HB.out)) hb);have n1_:=mk6_ (hbox);have n2_:=mk6_ ((by rw [hg];exact (bZ6_ (by repeat (first|(with_reducible first|exact HB.out|apply bA6_|apply bN6_|apply bD6_)|exact HB.out))):w.heap.size≤gb217));have n3_:=mk6_ ((by rw [hg];exact (bZ6_ (by repeat (first|(with_reducible first|exact HB.out|apply bA6_|apply bN6_|apply bD6_)|exact HB.out))):w.heap.size≤gb217));clear HB;have HB:=n0_;have BK217:=n1_;have GW217:=n2_;have GE217:=n3_;clear n0_ n1_ n2_ n3_;clear hb hbox hg))
  have n0_ := Aside0.mk (blk_drew BK217.out)
  have n1_ := Aside0.mk (below_drew1 HB.out)
  clear BK217
  clear HB
  have BK217 := n0_
  have HB := n1_
  clear n0_ n1_
  refine start_ (n:=9) (S:=fun w'=>w'.cell? ⟨gb217,0,none⟩=some (.int .i64 a0_0)∧w'.cell? ⟨gb217,1,none⟩=some (.int .i64 a0_1)∧w'.cell? ⟨gb217,2,none⟩=some (.int .i64 a0_2)) (ds:=[]) #[false,false,false,false,false,false,false,false,false] (by kernel_rfl) rfl rfl ⟨(blk_cell BK217.out 0).trans rfl,(blk_cell BK217.out 1).trans rfl,(blk_cell BK217.out 2).trans rfl⟩ (fun hHeld=>?_);refine with_tabW impl_Geometry_capacity.tab1 impl_Geometry_capacity.bits1 (fun HT_ HW_=>?_)
  generalize w4.drew = w5 at BK217 HB hHeld ⊢
  refine pure_ (i:=3) (N:=some 6) (v:=?_) (a':=?_) #[false,false,false,true,false,false,false,false,false] rfl rfl (any_of HT_.out (by kernel_rfl)) (fun _ _ _ h=>h) (Or.inl ⟨by rfl,?_⟩) ?_ ?_
  rotate_left
  · intro w'
    go_simp
    with_reducible rfl
  rotate_left
  · simp only [Act.put,List.setIfInBounds_toArray,List.set_cons_zero,List.set_cons_succ,i64_w,i32_w]
    rfl
  refine take_ (i:=0) (N:=some 3) (v:=?_) (a':=?_) #[true,false,false,true,false,false,false,false,false] rfl rfl (take_ofW HT_.out HW_.out (by kernel_rfl)) (fun _ _ _ h=>h) (Or.inl ⟨by rfl,?_⟩) hHeld ?_ ?_
  rotate_left
  · rintro w' ⟨s0, s1, s2⟩
    go_simp
    with_reducible rfl
  rotate_left
  · simp only [Act.put,List.setIfInBounds_toArray,List.set_cons_zero,List.set_cons_succ,i64_w,i32_w]
    rfl
  refine take_ (i:=4) (N:=some 7) (v:=?_) (a':=?_) #[true,false,false,true,true,false,false,false,false] rfl rfl (take_ofW HT_.out HW_.out (by kernel_rfl)) (fun _ _ _ h=>h) (Or.inl ⟨by rfl,?_⟩) hHeld ?_ ?_
  rotate_left
  · rintro w' ⟨s0, s1, s2⟩
    go_simp
    with_reducible rfl
  rotate_left
  · simp only [Act.put,List.setIfInBounds_toArray,List.set_cons_zero,List.set_cons_succ,i64_w,i32_w]
    rfl
  refine one_ (i:=1) (N:=some 4) #[true,true,false,true,true,false,false,false,false] rfl rfl (one_of HT_.out (by kernel_rfl)) (by decide) (fun K hK=>?_)
  refine goes_ Try.func126 (by kernel_rfl) rfl #[.agg #[.int .i64 a0_0,.int .i64 a0_1,.int .i64 a0_2]] (by rfl) rfl rfl (by (try simp only [List.map_toArray,List.map_cons,List.map_nil]);first|done|rfl|(simp only [List.length_drop,List.length_take];rfl)) ?_
  with_reducible refine (impl_Geometry_all.calls a0_0 a0_1 a0_2 t218 _ A2.out).mono ?_
  rintro e w6 ⟨rfl, hb⟩
  refine ⟨_, rfl, ?_⟩
  have n0_:=mk6_ (blk_below (g:=gb217) (o:=.cells #[.int .i64 a0_0,.int .i64 a0_1,.int .i64 a0_2] 37 (0,0)) (by (with_reducible repeat (first|refine kN6_ ?_ _|refine kD6_ ?_|refine kA6_ ?_ _));exact BK217.out) hb)
  have n1_:=mk6_ (bT6_ (by repeat (first|(with_reducible first|exact HB.out|apply bA6_|apply bN6_|apply bD6_|refine bS6_ ?_ GE217.out)|exact HB.out)) hb)
  clear BK217
  clear HB
  have BK217 := n0_
  have HB := n1_
  clear n0_ n1_
  (try clear hb)
  (try clear hb2)
  (try clear hk)
  (try clear hi)
  refine hK.out _ _ ⟨(blk_cell BK217.out 0).trans rfl,(blk_cell BK217.out 1).trans rfl,(blk_cell BK217.out 2).trans rfl⟩ (fun hHeld=>?_)
  clear hK K
  refine norm_ (a' := ?_) ?_ ?_
  rotate_left
  · show Act.put _ (some 4) _ = _
    simp only [Act.put,List.setIfInBounds_toArray,List.set_cons_zero,List.set_cons_succ,i64_w,i32_w]
    rfl
  refine pure_ (i:=2) (N:=some 5) (v:=?_) (a':=?_) #[true,true,true,true,true,false,false,false,false] rfl rfl (any_of HT_.out (by kernel_rfl)) (fun _ _ _ h=>h) (Or.inl ⟨by rfl,?_⟩) ?_ ?_
  rotate_left
  · intro w'
    go_simp
    with_reducible rfl
  rotate_left
  · simp only [Act.put,List.setIfInBounds_toArray,List.set_cons_zero,List.set_cons_succ,i64_w,i32_w]
    rfl
  refine pure_ (i:=5) (N:=some 8) (v:=?_) (a':=?_) #[true,true,true,true,true,true,false,false,false] rfl rfl (any_of HT_.out (by kernel_rfl)) (fun _ _ _ h=>h) (Or.inl ⟨by rfl,?_⟩) ?_ ?_
  rotate_left
  · intro w'
    go_simp
    with_reducible rfl
  rotate_left
  · simp only [Act.put,List.setIfInBounds_toArray,List.set_cons_zero,List.set_cons_succ,i64_w,i32_w]
    rfl
  refine pure_ (i:=6) (N:=some 9) (v:=?_) (a':=?_) #[true,true,true,true,true,true,true,false,false] rfl rfl (any_of HT_.out (by kernel_rfl)) (fun _ _ _ h=>h) (Or.inl ⟨by rfl,?_⟩) ?_ ?_
  rotate_left
  · intro w'
    go_simp
    with_reducible rfl
  rotate_left
  · simp only [Act.put,List.setIfInBounds_toArray,List.set_cons_zero,List.set_cons_succ,i64_w,i32_w]
    rfl
  refine pure_ (i:=7) (N:=some 10) (v:=?_) (a':=?_) #[true,true,true,true,true,true,true,true,false] rfl rfl (any_of HT_.out (by kernel_rfl)) (fun _ _ _ h=>h) (Or.inl ⟨by rfl,?_⟩) ?_ ?_
  rotate_left
  · intro w'
    go_simp
    with_reducible rfl
  rotate_left
  · simp only [Act.put,List.setIfInBounds_toArray,List.set_cons_zero,List.set_cons_succ,i64_w,i32_w]
    rfl
  refine pure_ (i:=8) (N:=some 2) (v:=?_) (a':=?_) #[true,true,true,true,true,true,true,true,true] rfl rfl (any_of HT_.out (by kernel_rfl)) (fun _ _ _ h=>h) (Or.inl ⟨by rfl,?_⟩) ?_ ?_
  rotate_left
  · intro w'
    go_simp
    with_reducible rfl
  rotate_left
  · simp only [Act.put,List.setIfInBounds_toArray,List.set_cons_zero,List.set_cons_succ,i64_w,i32_w]
    rfl
  refine done_ (done_of HT_.out (by kernel_rfl)) ?_
  try go_wp2
  go_ret
  exact ⟨by first|rfl|(simp [errW_none,errW_some] <;> rfl)|(simp only [← hji3];first|rfl|(simp [errW_none,errW_some] <;> rfl))|(simp [*,errW_none,errW_some] <;> rfl),by repeat (first|(with_reducible first|exact HB.out|apply bA6_|apply bN6_|apply bD6_|refine bS6_ ?_ GE217.out)|exact HB.out)⟩

def bits_Mul32.f (a0:Int) (a1:Int):Option (Int × Int):=some (((IntKind.u64.wrap ((IntKind.u64.wrap (a0)) * (IntKind.u64.wrap (a1)))) / 4294967296) % 4294967296,(IntKind.u64.wrap ((IntKind.u64.wrap (a0)) * (IntKind.u64.wrap (a1)))) % 4294967296)

def bits_Mul64.f (a0:Int) (a1:Int):Option (Int × Int):=some (IntKind.u64.wrap ((IntKind.u64.wrap ((IntKind.u64.wrap ((a0 / 4294967296) * (a1 / 4294967296)))+((IntKind.u64.wrap ((IntKind.u64.wrap ((a0 / 4294967296) * (Go.bits .and .u64 a1 4294967295)))+((IntKind.u64.wrap ((Go.bits .and .u64 a0 4294967295) * (Go.bits .and .u64 a1 4294967295))) / 4294967296))) / 4294967296)))+((IntKind.u64.wrap ((Go.bits .and .u64 (IntKind.u64.wrap ((IntKind.u64.wrap ((a0 / 4294967296) * (Go.bits .and .u64 a1 4294967295)))+((IntKind.u64.wrap ((Go.bits .and .u64 a0 4294967295) * (Go.bits .and .u64 a1 4294967295))) / 4294967296))) 4294967295)+(IntKind.u64.wrap ((Go.bits .and .u64 a0 4294967295) * (a1 / 4294967296))))) / 4294967296)),IntKind.u64.wrap (a0 * a1))

def bits_Mul.f (a0:Int) (a1:Int):Option (Int × Int):=(bits_Mul64.f a0 a1).bind fun bt219=>(some (bt219.1,bt219.2))

def impl_NewHeat.f (a0:Int):Option (List Int × Int × Int):=(impl_within.f a0 1 48).bind fun t234=>(if t234=true then (if 0≤a0 then (if (a0:Int).toNat≤35184372088832 then (some ((List.replicate (a0:Int).toNat 0),0,0)) else (none)) else (none)) else (some (([]:List Int),0,2)))
set_option maxHeartbeats 8000000 in
set_option maxRecDepth 100000 in
theorem impl_NewHeat.calls (a0:Int) (r1:List Int) (r2:Int) (r3:Int) (w:World) (h:impl_NewHeat.f a0=some (r1,r2,r3)) :
    Calls Try.prog 176 #[.int .i64 a0] w fun e w'=>∃ v0_:Value,e=.returned (.tuple #[.agg #[v0_,.int .i64 r2],.int .i64 r3])∧Kd.R (Kd.int .i64) 2 w' w.heap.size (fun _=>True) v0_ r1∧Below w.heap.size w w':=by
  have hu42 := Try.underlying42
  have HB := Aside0.mk (Below.refl w.heap.size w)
  have H:((impl_within.f a0 1 48).bind fun t234=>(if t234=true then (if 0≤a0 then (if (a0:Int).toNat≤35184372088832 then (some ((List.replicate (a0:Int).toNat 0),0,0)) else (none)) else (none)) else (some (([]:List Int),0,2))))=some (r1,r2,r3):=h
  clear h
  replace H := Option.bind_eq_some_iff.mp H
  obtain ⟨t234, A20, H⟩ := H
  replace H:(if t234=true then (if 0≤a0 then (if (a0:Int).toNat≤35184372088832 then (some ((List.replicate (a0:Int).toNat 0),0,0)) else (none)) else (none)) else (some (([]:List Int),0,2)))=some (r1,r2,r3):=H
  have A2 := Aside0.mk A20
  clear A20
  by_cases c3 : t234 = true
  · subst c3
    have H1:(if 0≤a0 then (if (a0:Int).toNat≤35184372088832 then (some ((List.replicate (a0:Int).toNat 0),0,0)) else (none)) else (none))=some (r1,r2,r3):=by rw [if_pos rfl] at H;exact H
    clear H
    have H := H1
    clear H1
    by_cases c4 : 0 ≤ a0
    · rw [if_pos c4] at H
      have c4b0 := eq_true c4
      have c4b1 : decide (0 ≤ a0) = true := decide_eq_true c4
      clear c4
      by_cases c5 : (a0 : Int).toNat ≤ 35184372088832
      · rw [if_pos c5] at H
        have c5b0 := eq_true c5
        have c5b1 : decide ((a0 : Int).toNat ≤ 35184372088832) = true := decide_eq_true c5
        clear c5
        obtain ⟨y235,hy235⟩:∃ y_:List Int,y_=(List.replicate (a0:Int).toNat 0):=⟨_,rfl⟩
        replace H:(some (y235,0,0))=some (r1,r2,r3):=by first|(rw [hy235];with_reducible exact H)|(have H2_:=(Option.bind_some _ _).symm.trans H;rw [hy235];with_reducible exact H2_)|(have H2_:=(Option.bind_some _ _).symm.trans H;with_reducible exact H2_)|with_reducible exact H|(rw [hy235];exact H)|exact H
        have Ny235 := Aside0.mk hy235
        clear hy235
        simp only [Option.some.injEq, Prod.mk.injEq] at H
        obtain ⟨rfl, rfl, rfl⟩ := H
        go_enter Try.func176, Try.ntmps176
        go_wp2_with (first|((with_reducible refine gate_dst (N:=2) rfl ?_);refine box_event ?hg (N:=2) ?hd (cs:=#[.slice none 0 0,.int .i64 0]) (t:=42) ?hr ?_;(case hd=>rfl);(case hg=>rfl);(case hr=>first|(go_simp;done)|(go_simp;rfl));intro gb233 hg w6 hbox hb;have n0_:=mk6_ (bT6_ (by repeat (first|(with_reducible first|exact HB.out|apply bA6_|apply bN6_|apply bD6_)|exact HB.out)) hb);have n1_:=mk6_ (hbox);have n2_:=mk6_ ((by rw [hg];exact (bZ6_ (by repeat (first|(with_reducible first|exact HB.out|apply bA6_|apply bN6_|apply bD6_)|exact HB.out))):w.heap.size≤gb233));have n3_:=mk6_ ((by rw [hg];exact (bZ6_ (by repeat (first|(with_reducible first|exact HB.out|apply bA6_|apply bN6_|apply bD6_)|exact HB.out))):w.heap.size≤gb233));clear HB;have HB:=n0_;have BK233:=n1_;have GW233:=n2_;have GE233:=n3_;clear n0_ n1_ n2_ n3_;clear hb hbox hg)|((with_reducible refine gate_callee (f:=92) rfl ?_);refine goesL_ (some 5) rfl rfl Try.func92 (by kernel_rfl) rfl #[.int .i64 a0,.int .i64 1,.int .i64 48] rfl (by (try simp only [List.map_toArray,List.map_cons,List.map_nil]);first|done|rfl|(simp only [List.length_drop,List.length_take];rfl)) ?_;(with_reducible refine (impl_within.calls a0 1 48 true _ A2.out).mono ?_);rintro e w' ⟨rfl,⟨nd,rfl⟩⟩;refine ⟨_,rfl,?_⟩;(try (rw [drewN_self w6];generalize hq_:World.drewN w6 _=w6;have n0_:Aside0 (w6.heap[gb233]?=some (.cells #[.slice none 0 0,.int .i64 0] 42 (0,0))):=⟨by rw [← hq_];exact (by (with_reducible repeat (first|refine kN6_ ?_ _|refine kD6_ ?_|refine kA6_ ?_ _));exact BK233.out)⟩;have n1_:Aside0 (Below w.heap.size w w6):=⟨by rw [← hq_];exact (by repeat (first|(with_reducible first|exact HB.out|apply bA6_|apply bN6_|apply bD6_|refine bS6_ ?_ GE233.out)|exact HB.out))⟩;clear BK233 HB hq_;have BK233:=n0_;have HB:=n1_;clear n0_ n1_)))|((with_reducible refine gate_dst (N:=9) rfl ?_);refine Kd.R_make (Kd.int .i64) _ 2 rfl (N:=9) rfl 27 _ _ rfl a0 rfl rfl Try.underlying27 (.int .i64 0) 8 info2 rfl (by decide) (by omega) 0 (ok:=fun _=>True) (okp:=fun _=>True) rfl (fun _ hk=>hk) trivial (of_decide_eq_true (by first|(with_reducible assumption)|assumption)) (Nat.le_trans (Nat.mul_le_mul_right _ (of_decide_eq_true (by first|(with_reducible assumption)|assumption):a0.toNat≤35184372088832)) (by omega)) (Below.refl _ _) (Nat.le_refl _) ?_;intro v236 w7 ho8 hb hg_ hnew_;clear hg_ hnew_;(first|rw [← Ny235.out] at ho8|(simp only [Int.reduceToNat] at ho8;rw [← Ny235.out] at ho8));have n0_:=mk6_ (Kd.R_lower ho8 (bZ6_ (by repeat (first|(with_reducible first|exact HB.out|apply bA6_|apply bN6_|apply bD6_|refine bS6_ ?_ GE233.out)|exact HB.out))));have n1_:=mk6_ (blk_below (g:=gb233) (o:=.cells #[.slice none 0 0,.int .i64 0] 42 (0,0)) (by (with_reducible repeat (first|refine kN6_ ?_ _|refine kD6_ ?_|refine kA6_ ?_ _));exact BK233.out) hb);have n2_:=mk6_ (bT6_ (by repeat (first|(with_reducible first|exact HB.out|apply bA6_|apply bN6_|apply bD6_|refine bS6_ ?_ GE233.out)|exact HB.out)) hb);clear BK233;clear HB;have HO237:=n0_;have BK233:=n1_;have HB:=n2_;clear n0_ n1_ n2_;clear hb ho8;obtain ⟨Ao9,co9,eo9⟩:=Kd.R_slice HO237.out;subst eo9;have hcz10_0:w7.cell? ⟨gb233,0,none⟩=some (.slice none 0 0):=(blk_cell BK233.out 0).trans rfl;have hcz10_1:w7.cell? ⟨gb233,1,none⟩=some (.int .i64 0):=(blk_cell BK233.out 1).trans rfl;have hfz10_0:=fZ6_ BK233.out 0;have hfz10_1:=fZ6_ BK233.out 1))
        refine bodyPost_ret (results_ct rfl _ _ gb233 42 #[.slice Ao9 y235.length co9,.int .i64 0] (0,0) _ rfl (by (with_reducible repeat (first|refine kN6_ ?_ _|refine kD6_ ?_|refine kA6_ ?_ _));refine blk_put (cs:=#[.slice Ao9 y235.length co9,.int .i64 0]) ?_ 1 _ rfl;(with_reducible repeat (first|refine kN6_ ?_ _|refine kD6_ ?_|refine kA6_ ?_ _));refine blk_put (cs:=#[.slice none 0 0,.int .i64 0]) ?_ 0 _ rfl;(with_reducible repeat (first|refine kN6_ ?_ _|refine kD6_ ?_|refine kA6_ ?_ _));exact BK233.out) Try.underlying42 rfl (by kernel_rfl)) rfl ?_
        exact ⟨_,by first|rfl|(simp [errW_none,errW_some] <;> rfl)|(simp [*,errW_none,errW_some] <;> rfl),by (with_reducible repeat (first|apply rA6_|apply Kd.R_drewN|apply rD6_));exact Kd.R_mono (Kd.R_far (p:=⟨gb233,1,none⟩) (Kd.R_far (p:=⟨gb233,0,none⟩) (Kd.R_types HO237.out BK233.out (by decide)) (fun _ hk=>hk.2) (.slice Ao9 y235.length co9)) (fun _ hk=>hk.2) (.int .i64 0)) (fun _ hk=>trivial),by repeat (first|(with_reducible first|exact HB.out|apply bA6_|apply bN6_|apply bD6_|refine bS6_ ?_ GE233.out)|exact HB.out)⟩
      · rw [if_neg c5] at H
        exact absurd H (by simp)
    · rw [if_neg c4] at H
      exact absurd H (by simp)
  · replace c3 := Bool.eq_false_iff.mpr c3
    subst c3
    have H1:(some (([]:List Int),0,2))=some (r1,r2,r3):=by rw [if_neg (show ¬ (false=true) by decide)] at H;exact H
    clear H
    have H := H1
    clear H1
    simp only [Option.some.injEq, Prod.mk.injEq] at H
    obtain ⟨rfl, rfl, rfl⟩ := H
    go_enter Try.func176, Try.ntmps176
    go_wp2_with (first|((with_reducible refine gate_dst (N:=2) rfl ?_);refine box_event ?hg (N:=2) ?hd (cs:=#[.slice none 0 0,.int .i64 0]) (t:=42) ?hr ?_;(case hd=>rfl);(case hg=>rfl);(case hr=>first|(go_simp;done)|(go_simp;rfl));intro gb233 hg w11 hbox hb;have n0_:=mk6_ (bT6_ (by repeat (first|(with_reducible first|exact HB.out|apply bA6_|apply bN6_|apply bD6_)|exact HB.out)) hb);have n1_:=mk6_ (hbox);have n2_:=mk6_ ((by rw [hg];exact (bZ6_ (by repeat (first|(with_reducible first|exact HB.out|apply bA6_|apply bN6_|apply bD6_)|exact HB.out))):w.heap.size≤gb233));have n3_:=mk6_ ((by rw [hg];exact (bZ6_ (by repeat (first|(with_reducible first|exact HB.out|apply bA6_|apply bN6_|apply bD6_)|exact HB.out))):w.heap.size≤gb233));clear HB;have HB:=n0_;have BK233:=n1_;have GW233:=n2_;have GE233:=n3_;clear n0_ n1_ n2_ n3_;clear hb hbox hg)|((with_reducible refine gate_callee (f:=92) rfl ?_);refine goesL_ (some 5) rfl rfl Try.func92 (by kernel_rfl) rfl #[.int .i64 a0,.int .i64 1,.int .i64 48] rfl (by (try simp only [List.map_toArray,List.map_cons,List.map_nil]);first|done|rfl|(simp only [List.length_drop,List.length_take];rfl)) ?_;(with_reducible refine (impl_within.calls a0 1 48 false _ A2.out).mono ?_);rintro e w' ⟨rfl,⟨nd,rfl⟩⟩;refine ⟨_,rfl,?_⟩;(try (rw [drewN_self w11];generalize hq_:World.drewN w11 _=w11;have n0_:Aside0 (w11.heap[gb233]?=some (.cells #[.slice none 0 0,.int .i64 0] 42 (0,0))):=⟨by rw [← hq_];exact (by (with_reducible repeat (first|refine kN6_ ?_ _|refine kD6_ ?_|refine kA6_ ?_ _));exact BK233.out)⟩;have n1_:Aside0 (Below w.heap.size w w11):=⟨by rw [← hq_];exact (by repeat (first|(with_reducible first|exact HB.out|apply bA6_|apply bN6_|apply bD6_|refine bS6_ ?_ GE233.out)|exact HB.out))⟩;clear BK233 HB hq_;have BK233:=n0_;have HB:=n1_;clear n0_ n1_));have hcz12_0:w11.cell? ⟨gb233,0,none⟩=some (.slice none 0 0):=(blk_cell BK233.out 0).trans rfl;have hcz12_1:w11.cell? ⟨gb233,1,none⟩=some (.int .i64 0):=(blk_cell BK233.out 1).trans rfl;have hfz12_0:=fZ6_ BK233.out 0;have hfz12_1:=fZ6_ BK233.out 1))
    refine bodyPost_ret (results_ct rfl _ _ gb233 42 #[.slice none 0 0,.int .i64 0] (0,0) _ rfl (by (with_reducible repeat (first|refine kN6_ ?_ _|refine kD6_ ?_|refine kA6_ ?_ _));refine blk_put (cs:=#[.slice none 0 0,.int .i64 0]) ?_ 1 _ rfl;(with_reducible repeat (first|refine kN6_ ?_ _|refine kD6_ ?_|refine kA6_ ?_ _));refine blk_put (cs:=#[.slice none 0 0,.int .i64 0]) ?_ 0 _ rfl;(with_reducible repeat (first|refine kN6_ ?_ _|refine kD6_ ?_|refine kA6_ ?_ _));exact BK233.out) Try.underlying42 rfl (by kernel_rfl)) rfl ?_
    exact ⟨_,by first|rfl|(simp [errW_none,errW_some] <;> rfl)|(simp [*,errW_none,errW_some] <;> rfl),by first|exact Kd.R_nil _ _ _ _ _|exact Kd.N_nil _ _ _ _ _|exact Kd.V_nil _ _ _ _ _|exact Kd.Q_nil _ _ _ _ _|exact Kd.S_nil _ _ _ _ _,by repeat (first|(with_reducible first|exact HB.out|apply bA6_|apply bN6_|apply bD6_|refine bS6_ ?_ GE233.out)|exact HB.out)⟩

def impl_newFlash.l0:Nat→Int→Int→Int→Int→Int→Int→Int→Int→List (S120)→Int→Int→Bool→Int→Option (Int × Int × Int × (List (S120)) × Int × Int × Bool × Int)
  | 0, _, _, _, _, _, _, _, _, _, _, _, _, _ => none
  | k+1,x7,x8,x269000,x269001,x269002,x271000,x271001,x271002,x271003,x271004,x271005,x271006,x271007=>if x8 < x7 then (if 0≤x269002 then (if (x269002:Int).toNat≤17592186044416 then (if x271003.length < 2932031007402 then (impl_newFlash.l0 k x7 (wrap64 (x8+1)) x269000 x269001 x269002 x271000 x271001 x271002 (x271003 ++ [(⟨0,0,false,(List.replicate (x269002:Int).toNat (⟨#[]⟩:ByteArray))⟩:S120)]) x271004 x271005 x271006 x271007) else (none)) else (none)) else (none)) else (some (x271000,x271001,x271002,x271003,x271004,x271005,x271006,x271007))
def impl_newFlash.f (k:Nat) (a0_0:Int) (a0_1:Int) (a0_2:Int):Option (Int × Int × Int × (List (S120)) × Int × Int × Bool × Int):=(impl_Geometry_all.f a0_0 a0_1 a0_2).bind fun t271=>(impl_newFlash.l0 k t271 0 a0_0 a0_1 a0_2 a0_0 a0_1 a0_2 ([]:List (S120)) (-1) 0 false 0)
def impl_newFlash.T4:Bool × List (List Nat × List Nat):=(true,[([],[]),([0],[0]),([],[]),([2],[2]),([3,3],[3]),([4],[4]),([5],[5]),([1,6],[1,6]),([0,1,2,3,4,5,6,7],[]),([8,7,7,0,1,2,3,4,5,6,7],[7,8])])
def impl_newFlash.B4 : List Nat := [0, 1, 0, 4, 12, 28, 60, 127, 255, 511]
theorem impl_newFlash.tab4 : rtab .any (opsOf Try.f122 4) = impl_newFlash.T4 := by kernel_rfl
theorem impl_newFlash.bits4 : waitsOk impl_newFlash.T4.2 impl_newFlash.B4 = true := by kernel_rfl
set_option maxHeartbeats 8000000 in
set_option maxRecDepth 100000 in
theorem impl_newFlash.calls (k:Nat) (a0_0:Int) (a0_1:Int) (a0_2:Int) (r1:Int) (r2:Int) (r3:Int) (r4:List (S120)) (r5:Int) (r6:Int) (r7:Bool) (r8:Int) (w:World) (h:impl_newFlash.f k a0_0 a0_1 a0_2=some (r1,r2,r3,r4,r5,r6,r7,r8)) :
    Calls Try.prog 122 #[.agg #[.int .i64 a0_0,.int .i64 a0_1,.int .i64 a0_2]] w fun e w'=>∃ v3_:Value,e=.returned (.agg #[.int .i64 r1,.int .i64 r2,.int .i64 r3,v3_,.int .i64 r5,.int .i64 r6,.bool r7,.int .i64 r8])∧Kd.S k120 120 w' w.heap.size (fun _=>True) v3_ r4∧Below w.heap.size w w':=by
  have hu37 := Try.underlying37
  have hu40 := Try.underlying40
  have hu120 := Try.underlying120
  have HB := Aside0.mk (Below.refl w.heap.size w)
  have H:((impl_Geometry_all.f a0_0 a0_1 a0_2).bind fun t271=>(impl_newFlash.l0 k t271 0 a0_0 a0_1 a0_2 a0_0 a0_1 a0_2 ([]:List (S120)) (-1) 0 false 0))=some (r1,r2,r3,r4,r5,r6,r7,r8):=h
  clear h
  replace H := Option.bind_eq_some_iff.mp H
  obtain ⟨t271, A20, H⟩ := H
  replace H:(impl_newFlash.l0 k t271 0 a0_0 a0_1 a0_2 a0_0 a0_1 a0_2 ([]:List (S120)) (-1) 0 false 0)=some (r1,r2,r3,r4,r5,r6,r7,r8):=H
  have A2 := Aside0.mk A20
  clear A20
  have H' := Aside0.mk H
  clear H
  go_enter Try.func122, Try.ntmps122
  go_wp2_with (first|((with_reducible refine gate_dst (N:=1) rfl ?_);refine box_event ?hg (N:=1) ?hd (cs:=#[.int .i64 a0_0,.int .i64 a0_1,.int .i64 a0_2]) (t:=37) ?hr ?_;(case hd=>rfl);(case hg=>rfl);(case hr=>first|(go_simp;done)|(go_simp;rfl));intro gb268 hg w3 hbox hb;have n0_:=mk6_ (bT6_ (by repeat (first|(with_reducible first|exact HB.out|apply bA6_|apply bN6_|apply bD6_)|exact HB.out)) hb);have n1_:=mk6_ (hbox);have n2_:=mk6_ ((by rw [hg];exact (bZ6_ (by repeat (first|(with_reducible first|exact HB.out|apply bA6_|apply bN6_|apply bD6_)|exact HB.out))):w.heap.size≤gb268));have n3_:=mk6_ ((by rw [hg];exact (bZ6_ (by repeat (first|(with_reducible first|exact HB.out|apply bA6_|apply bN6_|apply bD6_)|exact HB.out))):w.heap.size≤gb268));clear HB;have HB:=n0_;have BK268:=n1_;have GW268:=n2_;have GE268:=n3_;clear n0_ n1_ n2_ n3_;clear hb hbox hg)|((with_reducible refine gate_dst (N:=2) rfl ?_);refine box_event ?hg (N:=2) ?hd (cs:=#[.int .i64 0,.int .i64 0,.int .i64 0,.slice none 0 0,.int .i64 0,.int .i64 0,.bool false,.int .i64 0]) (t:=40) ?hr ?_;(case hd=>rfl);(case hg=>rfl);(case hr=>first|(go_simp;done)|(go_simp;rfl));intro gb269 hg w4 hbox hb;have n0_:=mk6_ (blk_below (g:=gb268) (o:=.cells #[.int .i64 a0_0,.int .i64 a0_1,.int .i64 a0_2] 37 (0,0)) (by (with_reducible repeat (first|refine kN6_ ?_ _|refine kD6_ ?_|refine kA6_ ?_ _));exact BK268.out) hb);have n1_:=mk6_ (bT6_ (by repeat (first|(with_reducible first|exact HB.out|apply bA6_|apply bN6_|apply bD6_|refine bS6_ ?_ GE268.out)|exact HB.out)) hb);have n2_:=mk6_ (hbox);have n3_:=mk6_ ((by rw [hg];exact (bZ6_ (by repeat (first|(with_reducible first|exact HB.out|apply bA6_|apply bN6_|apply bD6_|refine bS6_ ?_ GE268.out)|exact HB.out))):w.heap.size≤gb269));have n4_:=mk6_ ((by rw [hg];exact (bZ6_ (by repeat (first|(with_reducible first|exact HB.out|apply bA6_|apply bN6_|apply bD6_|refine bS6_ ?_ GE268.out)|exact HB.out))):w.heap.size≤gb269));have n5_:=mk6_ ((by rw [hg];exact Nat.ne_of_lt (blk_lt (g:=gb268) (o:=.cells #[.int .i64 a0_0,.int .i64 a0_1,.int .i64 a0_2] 37 (0,0)) (by (with_reducible repeat (first|refine kN6_ ?_ _|refine kD6_ ?_|refine kA6_ ?_ _));exact BK268.out)):gb268≠gb269));have n6_:=mk6_ ((by rw [hg];exact Nat.ne_of_gt (blk_lt (g:=gb268) (o:=.cells #[.int .i64 a0_0,.int .i64 a0_1,.int .i64 a0_2] 37 (0,0)) (by (with_reducible repeat (first|refine kN6_ ?_ _|refine kD6_ ?_|refine kA6_ ?_ _));exact BK268.out)):gb269≠gb268));clear BK268;clear HB;have BK268:=n0_;have HB:=n1_;have BK269:=n2_;have GW269:=n3_;have GE269:=n4_;have NB268_269:=n5_;have NB269_268:=n6_;clear n0_ n1_ n2_ n3_ n4_ n5_ n6_;clear hb hbox hg;have hnb5:=NB268_269.out;have hnc5:=NB269_268.out;have hcz6_0:w4.cell? ⟨gb268,0,none⟩=some (.int .i64 a0_0):=(blk_cell BK268.out 0).trans rfl;have hcz6_1:w4.cell? ⟨gb268,1,none⟩=some (.int .i64 a0_1):=(blk_cell BK268.out 1).trans rfl;have hcz6_2:w4.cell? ⟨gb268,2,none⟩=some (.int .i64 a0_2):=(blk_cell BK268.out 2).trans rfl;have hfz6_0:=fZ6_ BK268.out 0;have hfz6_1:=fZ6_ BK268.out 1;have hfz6_2:=fZ6_ BK268.out 2)|((with_reducible refine gate_dst (N:=3) rfl ?_);refine box_event ?hg (N:=3) ?hd (cs:=#[.int .i64 0,.int .i64 0,.int .i64 0,.slice none 0 0,.int .i64 0,.int .i64 0,.bool false,.int .i64 0]) (t:=40) ?hr ?_;(case hd=>rfl);(case hg=>rfl);(case hr=>first|(go_simp;done)|(go_simp;rfl));intro gb270 hg w7 hbox hb;have n0_:=mk6_ (blk_below (g:=gb268) (o:=.cells #[.int .i64 a0_0,.int .i64 a0_1,.int .i64 a0_2] 37 (0,0)) (by (with_reducible repeat (first|refine kN6_ ?_ _|refine kD6_ ?_|refine kA6_ ?_ _));exact BK268.out) hb);have n1_:=mk6_ (blk_below (g:=gb269) (o:=.cells #[.int .i64 0,.int .i64 0,.int .i64 0,.slice none 0 0,.int .i64 0,.int .i64 0,.bool false,.int .i64 0] 40 (0,0)) (by (with_reducible repeat (first|refine kN6_ ?_ _|refine kD6_ ?_|refine kA6_ ?_ _));exact BK269.out) hb);have n2_:=mk6_ (bT6_ (by repeat (first|(with_reducible first|exact HB.out|apply bA6_|apply bN6_|apply bD6_|refine bS6_ ?_ GE268.out|refine bS6_ ?_ GE269.out)|exact HB.out)) hb);have n3_:=mk6_ (hbox);have n4_:=mk6_ ((by rw [hg];exact (bZ6_ (by repeat (first|(with_reducible first|exact HB.out|apply bA6_|apply bN6_|apply bD6_|refine bS6_ ?_ GE268.out|refine bS6_ ?_ GE269.out)|exact HB.out))):w.heap.size≤gb270));have n5_:=mk6_ ((by rw [hg];exact (bZ6_ (by repeat (first|(with_reducible first|exact HB.out|apply bA6_|apply bN6_|apply bD6_|refine bS6_ ?_ GE268.out|refine bS6_ ?_ GE269.out)|exact HB.out))):w.heap.size≤gb270));have n6_:=mk6_ ((by rw [hg];exact Nat.ne_of_lt (blk_lt (g:=gb268) (o:=.cells #[.int .i64 a0_0,.int .i64 a0_1,.int .i64 a0_2] 37 (0,0)) (by (with_reducible repeat (first|refine kN6_ ?_ _|refine kD6_ ?_|refine kA6_ ?_ _));exact BK268.out)):gb268≠gb270));have n7_:=mk6_ ((by rw [hg];exact Nat.ne_of_gt (blk_lt (g:=gb268) (o:=.cells #[.int .i64 a0_0,.int .i64 a0_1,.int .i64 a0_2] 37 (0,0)) (by (with_reducible repeat (first|refine kN6_ ?_ _|refine kD6_ ?_|refine kA6_ ?_ _));exact BK268.out)):gb270≠gb268));have n8_:=mk6_ ((by rw [hg];exact Nat.ne_of_lt (blk_lt (g:=gb269) (o:=.cells #[.int .i64 0,.int .i64 0,.int .i64 0,.slice none 0 0,.int .i64 0,.int .i64 0,.bool false,.int .i64 0] 40 (0,0)) (by (with_reducible repeat (first|refine kN6_ ?_ _|refine kD6_ ?_|refine kA6_ ?_ _));exact BK269.out)):gb269≠gb270));have n9_:=mk6_ ((by rw [hg];exact Nat.ne_of_gt (blk_lt (g:=gb269) (o:=.cells #[.int .i64 0,.int .i64 0,.int .i64 0,.slice none 0 0,.int .i64 0,.int .i64 0,.bool false,.int .i64 0] 40 (0,0)) (by (with_reducible repeat (first|refine kN6_ ?_ _|refine kD6_ ?_|refine kA6_ ?_ _));exact BK269.out)):gb270≠gb269));clear BK268;clear BK269;clear HB;have BK268:=n0_;have BK269:=n1_;have HB:=n2_;have BK270:=n3_;have GW270:=n4_;have GE270:=n5_;have NB268_270:=n6_;have NB270_268:=n7_;have NB269_270:=n8_;have NB270_269:=n9_;clear n0_ n1_ n2_ n3_ n4_ n5_ n6_ n7_ n8_ n9_;clear hb hbox hg;have hnb8:=NB270_268.out;have hnc8:=NB268_270.out;have hnb9:=NB270_269.out;have hnc9:=NB269_270.out;have hcz10_0:w7.cell? ⟨gb270,0,none⟩=some (.int .i64 0):=(blk_cell BK270.out 0).trans rfl;have hcz10_1:w7.cell? ⟨gb270,1,none⟩=some (.int .i64 0):=(blk_cell BK270.out 1).trans rfl;have hcz10_2:w7.cell? ⟨gb270,2,none⟩=some (.int .i64 0):=(blk_cell BK270.out 2).trans rfl;have hcz10_3:w7.cell? ⟨gb270,3,none⟩=some (.slice none 0 0):=(blk_cell BK270.out 3).trans rfl;have hcz10_4:w7.cell? ⟨gb270,4,none⟩=some (.int .i64 0):=(blk_cell BK270.out 4).trans rfl;have hcz10_5:w7.cell? ⟨gb270,5,none⟩=some (.int .i64 0):=(blk_cell BK270.out 5).trans rfl;have hcz10_6:w7.cell? ⟨gb270,6,none⟩=some (.bool false):=(blk_cell BK270.out 6).trans rfl;have hcz10_7:w7.cell? ⟨gb270,7,none⟩=some (.int .i64 0):=(blk_cell BK270.out 7).trans rfl;have hfz10_0:=fZ6_ BK270.out 0;have hfz10_1:=fZ6_ BK270.out 1;have hfz10_2:=fZ6_ BK270.out 2;have hfz10_3:=fZ6_ BK270.out 3;have hfz10_4:=fZ6_ BK270.out 4;have hfz10_5:=fZ6_ BK270.out 5;have hfz10_6:=fZ6_ BK270.out 6;have hfz10_7:=fZ6_ BK270.out 7;have hcz11_0:w7.cell? ⟨gb268,0,none⟩=some (.int .i64 a0_0):=(blk_cell BK268.out 0).trans rfl;have hcz11_1:w7.cell? ⟨gb268,1,none⟩=some (.int .i64 a0_1):=(blk_cell BK268.out 1).trans rfl;have hcz11_2:w7.cell? ⟨gb268,2,none⟩=some (.int .i64 a0_2):=(blk_cell BK268.out 2).trans rfl;have hfz11_0:=fZ6_ BK268.out 0;have hfz11_1:=fZ6_ BK268.out 1;have hfz11_2:=fZ6_ BK268.out 2)|((with_reducible refine gate_callee (f:=126) rfl ?_);refine goesL_ (some 7) rfl rfl Try.func126 (by kernel_rfl) rfl #[.agg #[.int .i64 a0_0,.int .i64 a0_1,.int .i64 a0_2]] rfl (by (try simp only [List.map_toArray,List.map_cons,List.map_nil]);first|done|rfl|(simp only [List.length_drop,List.length_take];rfl)) ?_;(with_reducible refine (impl_Geometry_all.calls a0_0 a0_1 a0_2 t271 _ A2.out).mono ?_);rintro e w12 ⟨rfl,hb⟩;refine ⟨_,rfl,?_⟩;have n0_:=mk6_ (blk_below (g:=gb268) (o:=.cells #[.int .i64 a0_0,.int .i64 a0_1,.int .i64 a0_2] 37 (0,0)) (by (with_reducible repeat (first|refine kN6_ ?_ _|refine kD6_ ?_|refine kA6_ ?_ _));refine blk_far ?_ NB268_270.out _;(with_reducible repeat (first|refine kN6_ ?_ _|refine kD6_ ?_|refine kA6_ ?_ _));refine blk_far ?_ NB268_270.out _;(with_reducible repeat (first|refine kN6_ ?_ _|refine kD6_ ?_|refine kA6_ ?_ _));refine blk_far ?_ NB268_270.out _;(with_reducible repeat (first|refine kN6_ ?_ _|refine kD6_ ?_|refine kA6_ ?_ _));refine blk_far ?_ NB268_270.out _;(with_reducible repeat (first|refine kN6_ ?_ _|refine kD6_ ?_|refine kA6_ ?_ _));refine blk_far ?_ NB268_270.out _;(with_reducible repeat (first|refine kN6_ ?_ _|refine kD6_ ?_|refine kA6_ ?_ _));refine blk_far ?_ NB268_270.out _;(with_reducible repeat (first|refine kN6_ ?_ _|refine kD6_ ?_|refine kA6_ ?_ _));refine blk_far ?_ NB268_270.out _;(with_reducible repeat (first|refine kN6_ ?_ _|refine kD6_ ?_|refine kA6_ ?_ _));refine blk_far ?_ NB268_270.out _;(with_reducible repeat (first|refine kN6_ ?_ _|refine kD6_ ?_|refine kA6_ ?_ _));exact BK268.out) hb);have n1_:=mk6_ (blk_below (g:=gb269) (o:=.cells #[.int .i64 0,.int .i64 0,.int .i64 0,.slice none 0 0,.int .i64 0,.int .i64 0,.bool false,.int .i64 0] 40 (0,0)) (by (with_reducible repeat (first|refine kN6_ ?_ _|refine kD6_ ?_|refine kA6_ ?_ _));refine blk_far ?_ NB269_270.out _;(with_reducible repeat (first|refine kN6_ ?_ _|refine kD6_ ?_|refine kA6_ ?_ _));refine blk_far ?_ NB269_270.out _;(with_reducible repeat (first|refine kN6_ ?_ _|refine kD6_ ?_|refine kA6_ ?_ _));refine blk_far ?_ NB269_270.out _;(with_reducible repeat (first|refine kN6_ ?_ _|refine kD6_ ?_|refine kA6_ ?_ _));refine blk_far ?_ NB269_270.out _;(with_reducible repeat (first|refine kN6_ ?_ _|refine kD6_ ?_|refine kA6_ ?_ _));refine blk_far ?_ NB269_270.out _;(with_reducible repeat (first|refine kN6_ ?_ _|refine kD6_ ?_|refine kA6_ ?_ _));refine blk_far ?_ NB269_270.out _;(with_reducible repeat (first|refine kN6_ ?_ _|refine kD6_ ?_|refine kA6_ ?_ _));refine blk_far ?_ NB269_270.out _;(with_reducible repeat (first|refine kN6_ ?_ _|refine kD6_ ?_|refine kA6_ ?_ _));refine blk_far ?_ NB269_270.out _;(with_reducible repeat (first|refine kN6_ ?_ _|refine kD6_ ?_|refine kA6_ ?_ _));exact BK269.out) hb);have n2_:=mk6_ (blk_below (g:=gb270) (o:=.cells #[.int .i64 a0_0,.int .i64 a0_1,.int .i64 a0_2,.slice none 0 0,.int .i64 (-1),.int .i64 0,.bool false,.int .i64 0] 40 (0,0)) (by (with_reducible repeat (first|refine kN6_ ?_ _|refine kD6_ ?_|refine kA6_ ?_ _));refine blk_put (cs:=#[.int .i64 a0_0,.int .i64 a0_1,.int .i64 a0_2,.slice none 0 0,.int .i64 (-1),.int .i64 0,.bool false,.int .i64 0]) ?_ 7 _ rfl;(with_reducible repeat (first|refine kN6_ ?_ _|refine kD6_ ?_|refine kA6_ ?_ _));refine blk_put (cs:=#[.int .i64 a0_0,.int .i64 a0_1,.int .i64 a0_2,.slice none 0 0,.int .i64 (-1),.int .i64 0,.bool false,.int .i64 0]) ?_ 6 _ rfl;(with_reducible repeat (first|refine kN6_ ?_ _|refine kD6_ ?_|refine kA6_ ?_ _));refine blk_put (cs:=#[.int .i64 a0_0,.int .i64 a0_1,.int .i64 a0_2,.slice none 0 0,.int .i64 (-1),.int .i64 0,.bool false,.int .i64 0]) ?_ 5 _ rfl;(with_reducible repeat (first|refine kN6_ ?_ _|refine kD6_ ?_|refine kA6_ ?_ _));refine blk_put (cs:=#[.int .i64 a0_0,.int .i64 a0_1,.int .i64 a0_2,.slice none 0 0,.int .i64 0,.int .i64 0,.bool false,.int .i64 0]) ?_ 4 _ rfl;(with_reducible repeat (first|refine kN6_ ?_ _|refine kD6_ ?_|refine kA6_ ?_ _));refine blk_put (cs:=#[.int .i64 a0_0,.int .i64 a0_1,.int .i64 a0_2,.slice none 0 0,.int .i64 0,.int .i64 0,.bool false,.int .i64 0]) ?_ 3 _ rfl;(with_reducible repeat (first|refine kN6_ ?_ _|refine kD6_ ?_|refine kA6_ ?_ _));refine blk_put (cs:=#[.int .i64 a0_0,.int .i64 a0_1,.int .i64 0,.slice none 0 0,.int .i64 0,.int .i64 0,.bool false,.int .i64 0]) ?_ 2 _ rfl;(with_reducible repeat (first|refine kN6_ ?_ _|refine kD6_ ?_|refine kA6_ ?_ _));refine blk_put (cs:=#[.int .i64 a0_0,.int .i64 0,.int .i64 0,.slice none 0 0,.int .i64 0,.int .i64 0,.bool false,.int .i64 0]) ?_ 1 _ rfl;(with_reducible repeat (first|refine kN6_ ?_ _|refine kD6_ ?_|refine kA6_ ?_ _));refine blk_put (cs:=#[.int .i64 0,.int .i64 0,.int .i64 0,.slice none 0 0,.int .i64 0,.int .i64 0,.bool false,.int .i64 0]) ?_ 0 _ rfl;(with_reducible repeat (first|refine kN6_ ?_ _|refine kD6_ ?_|refine kA6_ ?_ _));exact BK270.out) hb);have n3_:=mk6_ (bT6_ (by repeat (first|(with_reducible first|exact HB.out|apply bA6_|apply bN6_|apply bD6_|refine bS6_ ?_ GE268.out|refine bS6_ ?_ GE269.out|refine bS6_ ?_ GE270.out)|exact HB.out)) hb);clear BK268;clear BK269;clear BK270;clear HB;have BK268:=n0_;have BK269:=n1_;have BK270:=n2_;have HB:=n3_;clear n0_ n1_ n2_ n3_;(try clear hb);(try clear hb2);(try clear hk);(try clear hi)))
  go_loopg [8] k (fun kq v8 w'=>∃ (x8_1:Int) (x271003_1:List (S120)) (u271003:Value),v8=.int .i64 x8_1∧Aside0 (impl_newFlash.l0 kq t271 x8_1 a0_0 a0_1 a0_2 a0_0 a0_1 a0_2 x271003_1 (-1) 0 false 0=some (r1,r2,r3,r4,r5,r6,r7,r8))∧Aside0 (kq≤k)∧Aside0 (Kd.S k120 120 w' w.heap.size (fun _=>True) u271003 x271003_1)∧Aside0 (w'.heap[gb268]?=some (.cells #[.int .i64 a0_0,.int .i64 a0_1,.int .i64 a0_2] 37 (0,0)))∧Aside0 (w'.heap[gb269]?=some (.cells #[.int .i64 0,.int .i64 0,.int .i64 0,(.slice none 0 0),.int .i64 0,.int .i64 0,.bool false,.int .i64 0] 40 (0,0)))∧Aside0 (w'.heap[gb270]?=some (.cells #[.int .i64 a0_0,.int .i64 a0_1,.int .i64 a0_2,u271003,.int .i64 (-1),.int .i64 0,.bool false,.int .i64 0] 40 (0,0)))∧Aside0 (Below w.heap.size w w'))
  case atStart=>exact ⟨(0),(([]:List (S120))),(.slice none 0 0),(by first|rfl|(simp;done)|(simp [*];done)),H',⟨Nat.le_refl _⟩,⟨by first|exact Kd.S_nil _ _ _ _ _|exact Kd.N_nil _ _ _ _ _|exact Kd.V_nil _ _ _ _ _|exact Kd.Q_nil _ _ _ _ _|exact Kd.R_nil _ _ _ _ _⟩,⟨by (with_reducible repeat (first|refine kN6_ ?_ _|refine kD6_ ?_|refine kA6_ ?_ _));exact BK268.out⟩,⟨by (with_reducible repeat (first|refine kN6_ ?_ _|refine kD6_ ?_|refine kA6_ ?_ _));exact BK269.out⟩,⟨by (with_reducible repeat (first|refine kN6_ ?_ _|refine kD6_ ?_|refine kA6_ ?_ _));exact BK270.out⟩,⟨by repeat (first|(with_reducible first|exact HB.out|apply bA6_|apply bN6_|apply bD6_|refine bS6_ ?_ GE268.out|refine bS6_ ?_ GE269.out|refine bS6_ ?_ GE270.out)|exact HB.out)⟩⟩
  case round =>
    clear H'
    try clear c1
    try clear p2
    try clear c5
    try clear c8
    try clear c9
    try clear c12
    try clear hcz10_0
    try clear hcz10_1
    try clear hcz10_2
    try clear hcz10_3
    try clear hcz10_4
    try clear hcz10_5
    try clear hcz10_6
    try clear hcz10_7
    try clear hcz11_0
    try clear hcz11_1
    try clear hcz11_2
    try clear hcz6_0
    try clear hcz6_1
    try clear hcz6_2
    try clear hfz10_0
    try clear hfz10_1
    try clear hfz10_2
    try clear hfz10_3
    try clear hfz10_4
    try clear hfz10_5
    try clear hfz10_6
    try clear hfz10_7
    try clear hfz11_0
    try clear hfz11_1
    try clear hfz11_2
    try clear hfz6_0
    try clear hfz6_1
    try clear hfz6_2
    obtain ⟨x8_1, x271003_1, u271003, rfl, HA, HK1, HO_271003, BK268, BK269, BK270, HB⟩ := hrel
    cases gk with
    | zero => exact absurd HA.out (by simp [impl_newFlash.l0])
    | succ k1 =>
      have H := HA.out
      clear HA
      simp only [impl_newFlash.l0] at H
      by_cases c13 : x8_1 < t271
      · rw [if_pos c13] at H
        have c13b0 : decide (x8_1 < t271) = true := decide_eq_true c13
        clear c13
        by_cases c14 : 0 ≤ a0_2
        · rw [if_pos c14] at H
          have c14b0 := eq_true c14
          have c14b1 : decide (0 ≤ a0_2) = true := decide_eq_true c14
          clear c14
          by_cases c15 : (a0_2 : Int).toNat ≤ 17592186044416
          · rw [if_pos c15] at H
            have c15b0 := eq_true c15
            have c15b1 : decide ((a0_2 : Int).toNat ≤ 17592186044416) = true := decide_eq_true c15
            clear c15
            obtain ⟨y272,hy272⟩:∃ y_:List ByteArray,y_=(List.replicate (a0_2:Int).toNat (⟨#[]⟩:ByteArray)):=⟨_,rfl⟩
            replace H:(if x271003_1.length < 2932031007402 then (impl_newFlash.l0 k1 t271 (wrap64 (x8_1+1)) a0_0 a0_1 a0_2 a0_0 a0_1 a0_2 (x271003_1 ++ [(⟨0,0,false,y272⟩:S120)]) (-1) 0 false 0) else (none))=some (r1,r2,r3,r4,r5,r6,r7,r8):=by first|(rw [hy272];with_reducible exact H)|(have H2_:=(Option.bind_some _ _).symm.trans H;rw [hy272];with_reducible exact H2_)|(have H2_:=(Option.bind_some _ _).symm.trans H;with_reducible exact H2_)|with_reducible exact H|(rw [hy272];exact H)|exact H
            have Ny272 := Aside0.mk hy272
            clear hy272
            by_cases c16 : x271003_1.length < 2932031007402
            · rw [if_pos c16] at H
              have LMc16 := Aside0.mk c16
              clear c16
              obtain ⟨y275,hy275⟩:∃ y_:List (S120),y_=(x271003_1 ++ [(⟨0,0,false,y272⟩:S120)]):=⟨_,rfl⟩
              replace H:(impl_newFlash.l0 k1 t271 (wrap64 (x8_1+1)) a0_0 a0_1 a0_2 a0_0 a0_1 a0_2 y275 (-1) 0 false 0)=some (r1,r2,r3,r4,r5,r6,r7,r8):=by first|(rw [hy275];with_reducible exact H)|(have H2_:=(Option.bind_some _ _).symm.trans H;rw [hy275];with_reducible exact H2_)|(have H2_:=(Option.bind_some _ _).symm.trans H;with_reducible exact H2_)|with_reducible exact H|(rw [hy275];exact H)|exact H
              have Ny275 := Aside0.mk hy275
              clear hy275
              have H' := Aside0.mk H
              clear H
              try go_wp2
              have n0_ := Aside0.mk (Kd.S_drew HO_271003.out)
              have n1_ := Aside0.mk (blk_drew BK268.out)
              have n2_ := Aside0.mk (blk_drew BK269.out)
              have n3_ := Aside0.mk (blk_drew BK270.out)
              have n4_ := Aside0.mk (below_drew1 HB.out)
              clear HO_271003
              clear BK268
              clear BK269
              clear BK270
              clear HB
              have HO_271003 := n0_
              have BK268 := n1_
              have BK269 := n2_
              have BK270 := n3_
              have HB := n4_
              clear n0_ n1_ n2_ n3_ n4_
              refine start_ (n:=10) (S:=fun w'=>w'.cell? ⟨gb270,0,none⟩=some (.int .i64 a0_0)∧w'.cell? ⟨gb270,1,none⟩=some (.int .i64 a0_1)∧w'.cell? ⟨gb270,2,none⟩=some (.int .i64 a0_2)∧w'.cell? ⟨gb270,3,none⟩=some (u271003)∧w'.cell? ⟨gb270,4,none⟩=some (.int .i64 (-1))∧w'.cell? ⟨gb270,5,none⟩=some (.int .i64 0)∧w'.cell? ⟨gb270,6,none⟩=some (.bool false)∧w'.cell? ⟨gb270,7,none⟩=some (.int .i64 0)∧w'.cell? ⟨gb268,0,none⟩=some (.int .i64 a0_0)∧w'.cell? ⟨gb268,1,none⟩=some (.int .i64 a0_1)∧w'.cell? ⟨gb268,2,none⟩=some (.int .i64 a0_2)) (ds:=[9]) #[false,false,false,false,false,false,false,false,false,false] (by kernel_rfl) rfl rfl ⟨(blk_cell BK270.out 0).trans rfl,(blk_cell BK270.out 1).trans rfl,(blk_cell BK270.out 2).trans rfl,(blk_cell BK270.out 3).trans rfl,(blk_cell BK270.out 4).trans rfl,(blk_cell BK270.out 5).trans rfl,(blk_cell BK270.out 6).trans rfl,(blk_cell BK270.out 7).trans rfl,(blk_cell BK268.out 0).trans rfl,(blk_cell BK268.out 1).trans rfl,(blk_cell BK268.out 2).trans rfl⟩ (fun hHeld=>?_);refine with_tabW impl_newFlash.tab4 impl_newFlash.bits4 (fun HT_ HW_=>?_)
              generalize wr.drew = w17 at HO_271003 BK268 BK269 BK270 HB hHeld ⊢
              refine pure_ (i:=0) (N:=some 10) (v:=?_) (a':=?_) #[true,false,false,false,false,false,false,false,false,false] rfl rfl (any_of HT_.out (by kernel_rfl)) (fun _ _ _ h=>h) (Or.inl ⟨by rfl,?_⟩) ?_ ?_
              rotate_left
              · intro w'
                go_simp
                with_reducible rfl
              rotate_left
              · simp only [Act.put,List.setIfInBounds_toArray,List.set_cons_zero,List.set_cons_succ,i64_w,i32_w]
                rfl
              refine pure_ (i:=2) (N:=some 12) (v:=?_) (a':=?_) #[true,false,true,false,false,false,false,false,false,false] rfl rfl (any_of HT_.out (by kernel_rfl)) (fun _ _ _ h=>h) (Or.inl ⟨by rfl,?_⟩) ?_ ?_
              rotate_left
              · intro w'
                go_simp
                with_reducible rfl
              rotate_left
              · simp only [Act.put,List.setIfInBounds_toArray,List.set_cons_zero,List.set_cons_succ,i64_w,i32_w]
                rfl
              refine take_ (i:=1) (N:=some 11) (v:=?_) (a':=?_) #[true,true,true,false,false,false,false,false,false,false] rfl rfl (take_ofW HT_.out HW_.out (by kernel_rfl)) (fun _ _ _ h=>h) (Or.inl ⟨by rfl,?_⟩) hHeld ?_ ?_
              rotate_left
              · rintro w' ⟨s0, s1, s2, s3, s4, s5, s6, s7, s8, s9, s10⟩
                go_simp
                with_reducible rfl
              rotate_left
              · simp only [Act.put,List.setIfInBounds_toArray,List.set_cons_zero,List.set_cons_succ,i64_w,i32_w]
                rfl
              refine take_ (i:=3) (N:=some 13) (v:=?_) (a':=?_) #[true,true,true,true,false,false,false,false,false,false] rfl rfl (take_ofW HT_.out HW_.out (by kernel_rfl)) (fun _ _ _ h=>h) (Or.inl ⟨by rfl,?_⟩) hHeld ?_ ?_
              rotate_left
              · rintro w' ⟨s0, s1, s2, s3, s4, s5, s6, s7, s8, s9, s10⟩
                go_simp
                with_reducible rfl
              rotate_left
              · simp only [Act.put,List.setIfInBounds_toArray,List.set_cons_zero,List.set_cons_succ,i64_w,i32_w]
                rfl
              refine one_ (i:=4) (N:=some 14) #[true,true,true,true,true,false,false,false,false,false] rfl rfl (one_of HT_.out (by kernel_rfl)) (by decide) (fun K hK=>?_)
              refine Kd.R_make_step Kd.string _ 9 (by rfl) (N:=14) rfl 51 _ _ rfl a0_2 rfl rfl Try.underlying51 (.string ⟨#[]⟩) 16 info9 rfl (by decide) (by omega) (⟨#[]⟩:ByteArray) (ok:=fun _=>True) (okp:=fun _=>True) rfl (fun _ hk=>hk) trivial (of_decide_eq_true (by first|(with_reducible assumption)|assumption)) (Nat.le_trans (Nat.mul_le_mul_right _ (of_decide_eq_true (by first|(with_reducible assumption)|assumption):a0_2.toNat≤17592186044416)) (by omega)) (Below.refl _ _) (Nat.le_refl _) ?_
              intro v273 w18 ho19 hb hg_ hnew_
              clear hg_ hnew_
              (first|rw [← Ny272.out] at ho19|(simp only [Int.reduceToNat] at ho19;rw [← Ny272.out] at ho19))
              have n0_:=mk6_ (Kd.S_elder' (by (with_reducible repeat (first|apply sA6_|apply Kd.S_drewN|apply Kd.S_drew));exact HO_271003.out) (Kd.R_base ho19) hb)
              have n1_:=mk6_ (Kd.R_lower ho19 (bZ6_ (by repeat (first|(with_reducible first|exact HB.out|apply bA6_|apply bN6_|apply bD6_|refine bS6_ ?_ GE268.out|refine bS6_ ?_ GE269.out|refine bS6_ ?_ GE270.out)|exact HB.out))))
              have n2_:=mk6_ (blk_below (g:=gb268) (o:=.cells #[.int .i64 a0_0,.int .i64 a0_1,.int .i64 a0_2] 37 (0,0)) (by (with_reducible repeat (first|refine kN6_ ?_ _|refine kD6_ ?_|refine kA6_ ?_ _));exact BK268.out) hb)
              have n3_:=mk6_ (blk_below (g:=gb269) (o:=.cells #[.int .i64 0,.int .i64 0,.int .i64 0,.slice none 0 0,.int .i64 0,.int .i64 0,.bool false,.int .i64 0] 40 (0,0)) (by (with_reducible repeat (first|refine kN6_ ?_ _|refine kD6_ ?_|refine kA6_ ?_ _));exact BK269.out) hb)
              have n4_:=mk6_ (blk_below (g:=gb270) (o:=.cells #[.int .i64 a0_0,.int .i64 a0_1,.int .i64 a0_2,u271003,.int .i64 (-1),.int .i64 0,.bool false,.int .i64 0] 40 (0,0)) (by (with_reducible repeat (first|refine kN6_ ?_ _|refine kD6_ ?_|refine kA6_ ?_ _));exact BK270.out) hb)
              have n5_:=mk6_ (bT6_ (by repeat (first|(with_reducible first|exact HB.out|apply bA6_|apply bN6_|apply bD6_|refine bS6_ ?_ GE268.out|refine bS6_ ?_ GE269.out|refine bS6_ ?_ GE270.out)|exact HB.out)) hb)
              clear HO_271003
              clear BK268
              clear BK269
              clear BK270
              clear HB
              have HO_271003 := n0_
              have HO274 := n1_
              have BK268 := n2_
              have BK269 := n3_
              have BK270 := n4_
              have HB := n5_
              clear n0_ n1_ n2_ n3_ n4_ n5_
              clear hb ho19
              obtain ⟨Ao20, co20, eo20⟩ := Kd.R_slice HO274.out
              (first|subst eo20|(injection eo20 with f1_ f2_ f3_;have f4_:=f1_.symm;have f5_:=f3_.symm;clear f1_ f2_ f3_;subst f4_;subst f5_))
              refine hK.out _ _ ⟨(blk_cell BK270.out 0).trans rfl,(blk_cell BK270.out 1).trans rfl,(blk_cell BK270.out 2).trans rfl,(blk_cell BK270.out 3).trans rfl,(blk_cell BK270.out 4).trans rfl,(blk_cell BK270.out 5).trans rfl,(blk_cell BK270.out 6).trans rfl,(blk_cell BK270.out 7).trans rfl,(blk_cell BK268.out 0).trans rfl,(blk_cell BK268.out 1).trans rfl,(blk_cell BK268.out 2).trans rfl⟩ (fun hHeld=>?_)
              clear hK K
              refine norm_ (a' := ?_) ?_ ?_
              rotate_left
              · show Act.put _ (some 14) _ = _
                simp only [Act.put,List.setIfInBounds_toArray,List.set_cons_zero,List.set_cons_succ,i64_w,i32_w]
                rfl
              refine pure_ (i:=5) (N:=some 15) (v:=?_) (a':=?_) #[true,true,true,true,true,true,false,false,false,false] rfl rfl (any_of HT_.out (by kernel_rfl)) (fun _ _ _ h=>h) (Or.inl ⟨by rfl,?_⟩) ?_ ?_
              rotate_left
              · intro w'
                go_simp
                with_reducible rfl
              rotate_left
              · simp only [Act.put,List.setIfInBounds_toArray,List.set_cons_zero,List.set_cons_succ,i64_w,i32_w]
                rfl
              refine one_ (i:=6) (N:=some 16) #[true,true,true,true,true,true,true,false,false,false] rfl rfl (one_of HT_.out (by kernel_rfl)) (by decide) (fun K hK=>?_)
              refine value_ (w1 := ?_) (v := ?_) (by rfl) rfl ?_ ?_
              rotate_left 2
              · go_simp
                constructor
                · rfl
                · rfl
              refine hK.out _ _ ⟨(blk_cell (kA6_ BK270.out _) 0).trans rfl,(blk_cell (kA6_ BK270.out _) 1).trans rfl,(blk_cell (kA6_ BK270.out _) 2).trans rfl,(blk_cell (kA6_ BK270.out _) 3).trans rfl,(blk_cell (kA6_ BK270.out _) 4).trans rfl,(blk_cell (kA6_ BK270.out _) 5).trans rfl,(blk_cell (kA6_ BK270.out _) 6).trans rfl,(blk_cell (kA6_ BK270.out _) 7).trans rfl,(blk_cell (kA6_ BK268.out _) 0).trans rfl,(blk_cell (kA6_ BK268.out _) 1).trans rfl,(blk_cell (kA6_ BK268.out _) 2).trans rfl⟩ (fun hHeld=>?_)
              clear hK K
              refine norm_ (a' := ?_) ?_ ?_
              rotate_left
              · show Act.put _ (some 16) _ = _
                simp only [Act.put,List.setIfInBounds_toArray,List.set_cons_zero,List.set_cons_succ,i64_w,i32_w]
                rfl
              refine one_ (i:=7) (N:=some 17) #[true,true,true,true,true,true,true,true,false,false] rfl rfl (one_of HT_.out (by kernel_rfl)) (by decide) (fun K hK=>?_)
              refine Kd.S_append_step k120 (w0:=w) w.heap.size (by rfl) (.tmp 11) (.tmp 16) 38 120 (.agg #[(.int .i64 0),(.int .i64 0),(.bool false),(.slice none 0 0)]) 48 rfl Try.underlying38 info120 rfl (by decide) (by omega) u271003 x271003_1 (⟨0,0,false,y272⟩:S120) [.int .i64 0,.int .i64 0,.bool false,.slice Ao20 y272.length co20] (fun _=>True) (fun k_=>some k_=(.slice Ao20 y272.length co20:Value).ownBlock) rfl rfl ?aP (fun k_ hk_=>((Kd.R_mono (ok':=fun k_=>((fun _=>True)) k_∧some k_≠(u271003:Value).ownBlock) (Kd.R_apart' (HO274.out) (Kd.S_typed HO_271003.out) (by decide)) (fun k_ hk=>⟨trivial,hk.2⟩))).1 k_ hk_.symm) ?aF ?aO ?aB ?aS ?aL ?_
              (case aP=>exact k120_mkM _ _ _ (⟨0,0,false,y272⟩:S120) (Kd.R_mono (Kd.R_tight rfl (Kd.R_mono (ok':=fun k_=>((fun _=>True)) k_∧some k_≠(u271003:Value).ownBlock) (Kd.R_apart' (HO274.out) (Kd.S_typed HO_271003.out) (by decide)) (fun k_ hk=>⟨trivial,hk.2⟩))) (fun _ h_=>h_)))
              (case aB=>exact (by repeat (first|(with_reducible first|exact HB.out|apply bA6_|apply bN6_|apply bD6_|refine bS6_ ?_ GE268.out|refine bS6_ ?_ GE269.out|refine bS6_ ?_ GE270.out)|exact HB.out)))
              (case aF => exact (fun _ _ => trivial))
              (case aO=>exact (by (with_reducible repeat (first|apply sA6_|apply Kd.S_drewN|apply Kd.S_drew));exact Kd.S_mono HO_271003.out (fun k_ hk=>⟨trivial,fun e_=>hk.2 e_⟩)))
              (case aS=>exact (bZ6_ (by repeat (first|(with_reducible first|exact HB.out|apply bA6_|apply bN6_|apply bD6_|refine bS6_ ?_ GE268.out|refine bS6_ ?_ GE269.out|refine bS6_ ?_ GE270.out)|exact HB.out))))
              (case aL => have := LMc16.out; omega)
              intro v276 w21 ho hb hg hat
              rw [← Ny275.out] at ho
              have n0_:=mk6_ (blk_grown (g:=gb268) (o:=.cells #[.int .i64 a0_0,.int .i64 a0_1,.int .i64 a0_2] 37 (0,0)) (by (with_reducible repeat (first|refine kN6_ ?_ _|refine kD6_ ?_|refine kA6_ ?_ _));exact BK268.out) hg (Kd.S_ne HO_271003.out BK268.out (by decide)))
              have n1_:=mk6_ (blk_grown (g:=gb269) (o:=.cells #[.int .i64 0,.int .i64 0,.int .i64 0,.slice none 0 0,.int .i64 0,.int .i64 0,.bool false,.int .i64 0] 40 (0,0)) (by (with_reducible repeat (first|refine kN6_ ?_ _|refine kD6_ ?_|refine kA6_ ?_ _));exact BK269.out) hg (Kd.S_ne HO_271003.out BK269.out (by decide)))
              have n2_:=mk6_ (blk_grown (g:=gb270) (o:=.cells #[.int .i64 a0_0,.int .i64 a0_1,.int .i64 a0_2,u271003,.int .i64 (-1),.int .i64 0,.bool false,.int .i64 0] 40 (0,0)) (by (with_reducible repeat (first|refine kN6_ ?_ _|refine kD6_ ?_|refine kA6_ ?_ _));exact BK270.out) hg (Kd.S_ne HO_271003.out BK270.out (by decide)))
              have n3_ := Aside0.mk (hb)
              have n4_ := Aside0.mk (ho)
              clear BK268
              clear BK269
              clear BK270
              clear HB
              clear HO_271003
              clear HO274
              have BK268 := n0_
              have BK269 := n1_
              have BK270 := n2_
              have HB := n3_
              have HO277 := n4_
              clear n0_ n1_ n2_ n3_ n4_
              clear ho hb hg hat
              obtain ⟨Ao22, co22, eo22⟩ := Kd.S_slice HO277.out
              (first|subst eo22|(injection eo22 with f1_ f2_ f3_;have f4_:=f1_.symm;have f5_:=f3_.symm;clear f1_ f2_ f3_;subst f4_;subst f5_))
              refine hK.out _ _ ⟨(blk_cell BK270.out 0).trans rfl,(blk_cell BK270.out 1).trans rfl,(blk_cell BK270.out 2).trans rfl,(blk_cell BK270.out 3).trans rfl,(blk_cell BK270.out 4).trans rfl,(blk_cell BK270.out 5).trans rfl,(blk_cell BK270.out 6).trans rfl,(blk_cell BK270.out 7).trans rfl,(blk_cell BK268.out 0).trans rfl,(blk_cell BK268.out 1).trans rfl,(blk_cell BK268.out 2).trans rfl⟩ (fun hHeld=>?_)
              clear hK K
              refine norm_ (a' := ?_) ?_ ?_
              rotate_left
              · show Act.put _ (some 17) _ = _
                simp only [Act.put,List.setIfInBounds_toArray,List.set_cons_zero,List.set_cons_succ,i64_w,i32_w]
                rfl
              refine pure_ (i:=8) (N:=some 18) (v:=?_) (a':=?_) #[true,true,true,true,true,true,true,true,true,false] rfl rfl (any_of HT_.out (by kernel_rfl)) (fun _ _ _ h=>h) (Or.inl ⟨by rfl,?_⟩) ?_ ?_
              rotate_left
              · intro w'
                go_simp
                with_reducible rfl
              rotate_left
              · simp only [Act.put,List.setIfInBounds_toArray,List.set_cons_zero,List.set_cons_succ,i64_w,i32_w]
                rfl
              refine last_ (i:=9) (N:=none) #[true,true,true,true,true,true,true,true,true,true] rfl rfl (one_of HT_.out (by kernel_rfl)) (by decide) (fun K hK=>?_)
              have hs23:w21.cell? ⟨gb270,3,none⟩=some (u271003):=(blk_cell BK270.out 3).trans rfl
              have hfs23 := blk_frozen BK270.out 3
              have hns23_0 := NB268_270.out
              have hns23_1 := NB269_270.out
              have hms23_0 := NB270_268.out
              have hms23_1 := NB270_269.out
              refine skip_ (w1 := ?_) (by rfl) rfl ?_ ?_
              rotate_left
              · go_simp
                rfl
              refine hK.out _ _ ?_
              clear hK K
              refine done_ (done_of HT_.out (by kernel_rfl)) ?_
              try go_wp2
              go_roundg k1
              case measure => have := HK1.out; omega
              case rel=>exact ⟨(wrap64 (x8_1+1)),(y275),(.slice Ao22 y275.length co22),(by first|rfl|(simp;done)|(simp [*];done)),H',⟨by have:=HK1.out;omega⟩,⟨by (with_reducible repeat (first|apply sA6_|apply Kd.S_drewN|apply Kd.S_drew));exact Kd.S_mono (Kd.S_far (p:=⟨gb270,3,none⟩) (Kd.S_types HO277.out BK270.out (by decide)) (fun _ hk=>hk.2) (.slice Ao22 y275.length co22)) (fun _ hk=>trivial)⟩,⟨by (with_reducible repeat (first|refine kN6_ ?_ _|refine kD6_ ?_|refine kA6_ ?_ _));refine blk_far ?_ NB268_270.out _;(with_reducible repeat (first|refine kN6_ ?_ _|refine kD6_ ?_|refine kA6_ ?_ _));exact BK268.out⟩,⟨by (with_reducible repeat (first|refine kN6_ ?_ _|refine kD6_ ?_|refine kA6_ ?_ _));refine blk_far ?_ NB269_270.out _;(with_reducible repeat (first|refine kN6_ ?_ _|refine kD6_ ?_|refine kA6_ ?_ _));exact BK269.out⟩,⟨by (with_reducible repeat (first|refine kN6_ ?_ _|refine kD6_ ?_|refine kA6_ ?_ _));refine blk_put (cs:=#[.int .i64 a0_0,.int .i64 a0_1,.int .i64 a0_2,u271003,.int .i64 (-1),.int .i64 0,.bool false,.int .i64 0]) ?_ 3 _ rfl;(with_reducible repeat (first|refine kN6_ ?_ _|refine kD6_ ?_|refine kA6_ ?_ _));exact BK270.out⟩,⟨by repeat (first|(with_reducible first|exact HB.out|apply bA6_|apply bN6_|apply bD6_|refine bS6_ ?_ GE268.out|refine bS6_ ?_ GE269.out|refine bS6_ ?_ GE270.out)|exact HB.out)⟩⟩
            · rw [if_neg c16] at H
              exact absurd H (by simp)
          · rw [if_neg c15] at H
            exact absurd H (by simp)
        · rw [if_neg c14] at H
          exact absurd H (by simp)
      · rw [if_neg c13] at H
        have c13b0 : decide (x8_1 < t271) = false := decide_eq_false c13
        clear c13
        simp only [Option.some.injEq, Prod.mk.injEq] at H
        obtain ⟨rfl, rfl, rfl, rfl, rfl, rfl, rfl, rfl⟩ := H
        have hnb24 := NB270_268.out
        have hnc24 := NB268_270.out
        have hnb25 := NB270_269.out
        have hnc25 := NB269_270.out
        have hcz26_0:wr.cell? ⟨gb270,0,none⟩=some (.int .i64 a0_0):=(blk_cell BK270.out 0).trans rfl
        have hcz26_1:wr.cell? ⟨gb270,1,none⟩=some (.int .i64 a0_1):=(blk_cell BK270.out 1).trans rfl
        have hcz26_2:wr.cell? ⟨gb270,2,none⟩=some (.int .i64 a0_2):=(blk_cell BK270.out 2).trans rfl
        have hcz26_3:wr.cell? ⟨gb270,3,none⟩=some (u271003):=(blk_cell BK270.out 3).trans rfl
        have hcz26_4:wr.cell? ⟨gb270,4,none⟩=some (.int .i64 (-1)):=(blk_cell BK270.out 4).trans rfl
        have hcz26_5:wr.cell? ⟨gb270,5,none⟩=some (.int .i64 0):=(blk_cell BK270.out 5).trans rfl
        have hcz26_6:wr.cell? ⟨gb270,6,none⟩=some (.bool false):=(blk_cell BK270.out 6).trans rfl
        have hcz26_7:wr.cell? ⟨gb270,7,none⟩=some (.int .i64 0):=(blk_cell BK270.out 7).trans rfl
        have hfz26_0 := blk_frozen BK270.out 0
        have hfz26_1 := blk_frozen BK270.out 1
        have hfz26_2 := blk_frozen BK270.out 2
        have hfz26_3 := blk_frozen BK270.out 3
        have hfz26_4 := blk_frozen BK270.out 4
        have hfz26_5 := blk_frozen BK270.out 5
        have hfz26_6 := blk_frozen BK270.out 6
        have hfz26_7 := blk_frozen BK270.out 7
        have hnb27 := NB269_268.out
        have hnc27 := NB268_269.out
        have hcz28_0:wr.cell? ⟨gb269,0,none⟩=some (.int .i64 0):=(blk_cell BK269.out 0).trans rfl
        have hcz28_1:wr.cell? ⟨gb269,1,none⟩=some (.int .i64 0):=(blk_cell BK269.out 1).trans rfl
        have hcz28_2:wr.cell? ⟨gb269,2,none⟩=some (.int .i64 0):=(blk_cell BK269.out 2).trans rfl
        have hcz28_3:wr.cell? ⟨gb269,3,none⟩=some (.slice none 0 0):=(blk_cell BK269.out 3).trans rfl
        have hcz28_4:wr.cell? ⟨gb269,4,none⟩=some (.int .i64 0):=(blk_cell BK269.out 4).trans rfl
        have hcz28_5:wr.cell? ⟨gb269,5,none⟩=some (.int .i64 0):=(blk_cell BK269.out 5).trans rfl
        have hcz28_6:wr.cell? ⟨gb269,6,none⟩=some (.bool false):=(blk_cell BK269.out 6).trans rfl
        have hcz28_7:wr.cell? ⟨gb269,7,none⟩=some (.int .i64 0):=(blk_cell BK269.out 7).trans rfl
        have hfz28_0 := blk_frozen BK269.out 0
        have hfz28_1 := blk_frozen BK269.out 1
        have hfz28_2 := blk_frozen BK269.out 2
        have hfz28_3 := blk_frozen BK269.out 3
        have hfz28_4 := blk_frozen BK269.out 4
        have hfz28_5 := blk_frozen BK269.out 5
        have hfz28_6 := blk_frozen BK269.out 6
        have hfz28_7 := blk_frozen BK269.out 7
        obtain ⟨Ao29, co29, eo29⟩ := Kd.S_slice HO_271003.out
        subst eo29
        go_wp2
        refine bodyPost_ret (results_cell_row rfl _ _ gb269 40 #[.int .i64 a0_0,.int .i64 a0_1,.int .i64 a0_2,.slice Ao29 x271003_1.length co29,.int .i64 (-1),.int .i64 0,.bool false,.int .i64 0] (0,0) _ rfl (by (with_reducible repeat (first|refine kN6_ ?_ _|refine kD6_ ?_|refine kA6_ ?_ _));refine blk_put (cs:=#[.int .i64 a0_0,.int .i64 a0_1,.int .i64 a0_2,.slice Ao29 x271003_1.length co29,.int .i64 (-1),.int .i64 0,.bool false,.int .i64 0]) ?_ 7 _ rfl;(with_reducible repeat (first|refine kN6_ ?_ _|refine kD6_ ?_|refine kA6_ ?_ _));refine blk_put (cs:=#[.int .i64 a0_0,.int .i64 a0_1,.int .i64 a0_2,.slice Ao29 x271003_1.length co29,.int .i64 (-1),.int .i64 0,.bool false,.int .i64 0]) ?_ 6 _ rfl;(with_reducible repeat (first|refine kN6_ ?_ _|refine kD6_ ?_|refine kA6_ ?_ _));refine blk_put (cs:=#[.int .i64 a0_0,.int .i64 a0_1,.int .i64 a0_2,.slice Ao29 x271003_1.length co29,.int .i64 (-1),.int .i64 0,.bool false,.int .i64 0]) ?_ 5 _ rfl;(with_reducible repeat (first|refine kN6_ ?_ _|refine kD6_ ?_|refine kA6_ ?_ _));refine blk_put (cs:=#[.int .i64 a0_0,.int .i64 a0_1,.int .i64 a0_2,.slice Ao29 x271003_1.length co29,.int .i64 0,.int .i64 0,.bool false,.int .i64 0]) ?_ 4 _ rfl;(with_reducible repeat (first|refine kN6_ ?_ _|refine kD6_ ?_|refine kA6_ ?_ _));refine blk_put (cs:=#[.int .i64 a0_0,.int .i64 a0_1,.int .i64 a0_2,.slice none 0 0,.int .i64 0,.int .i64 0,.bool false,.int .i64 0]) ?_ 3 _ rfl;(with_reducible repeat (first|refine kN6_ ?_ _|refine kD6_ ?_|refine kA6_ ?_ _));refine blk_put (cs:=#[.int .i64 a0_0,.int .i64 a0_1,.int .i64 0,.slice none 0 0,.int .i64 0,.int .i64 0,.bool false,.int .i64 0]) ?_ 2 _ rfl;(with_reducible repeat (first|refine kN6_ ?_ _|refine kD6_ ?_|refine kA6_ ?_ _));refine blk_put (cs:=#[.int .i64 a0_0,.int .i64 0,.int .i64 0,.slice none 0 0,.int .i64 0,.int .i64 0,.bool false,.int .i64 0]) ?_ 1 _ rfl;(with_reducible repeat (first|refine kN6_ ?_ _|refine kD6_ ?_|refine kA6_ ?_ _));refine blk_put (cs:=#[.int .i64 0,.int .i64 0,.int .i64 0,.slice none 0 0,.int .i64 0,.int .i64 0,.bool false,.int .i64 0]) ?_ 0 _ rfl;(with_reducible repeat (first|refine kN6_ ?_ _|refine kD6_ ?_|refine kA6_ ?_ _));exact BK269.out) Try.underlying40 rfl (by kernel_rfl)) rfl ?_
        exact ⟨_,by first|rfl|(simp [errW_none,errW_some] <;> rfl)|(simp [*,errW_none,errW_some] <;> rfl),by (with_reducible repeat (first|apply sA6_|apply Kd.S_drewN|apply Kd.S_drew));exact Kd.S_mono (Kd.S_far (p:=⟨gb269,7,none⟩) (Kd.S_far (p:=⟨gb269,6,none⟩) (Kd.S_far (p:=⟨gb269,5,none⟩) (Kd.S_far (p:=⟨gb269,4,none⟩) (Kd.S_far (p:=⟨gb269,3,none⟩) (Kd.S_far (p:=⟨gb269,2,none⟩) (Kd.S_far (p:=⟨gb269,1,none⟩) (Kd.S_far (p:=⟨gb269,0,none⟩) (Kd.S_types HO_271003.out BK269.out (by decide)) (fun _ hk=>hk.2) (.int .i64 a0_0)) (fun _ hk=>hk.2) (.int .i64 a0_1)) (fun _ hk=>hk.2) (.int .i64 a0_2)) (fun _ hk=>hk.2) (.slice Ao29 x271003_1.length co29)) (fun _ hk=>hk.2) (.int .i64 (-1))) (fun _ hk=>hk.2) (.int .i64 0)) (fun _ hk=>hk.2) (.bool false)) (fun _ hk=>hk.2) (.int .i64 0)) (fun _ hk=>trivial),by repeat (first|(with_reducible first|exact HB.out|apply bA6_|apply bN6_|apply bD6_|refine bS6_ ?_ GE268.out|refine bS6_ ?_ GE269.out|refine bS6_ ?_ GE270.out)|exact HB.out)⟩

end Go.Proofs.Ytaecdlhomihejaa.Q
