/- The program's functions as Lean functions,and for each the proof that the machine's call comes to what its function says. Conditions: those that stand before each theorem. -/
import Derived.Test.YtaecdlhomihejaaQ0
import Derived.Test.YtaecdlhomihejaaQ6
import Derived.Test.YtaecdlhomihejaaXRepeatI
import Derived.Test.YtaecdlhomihejaaXSizeOk
namespace Go.Proofs.Ytaecdlhomihejaa.Q
open Go.RowKit Go.Proofs.YtaecdlhomihejaaW.PrintWords Go.Proofs.YtaecdlhomihejaaW.PrintLast Go.Proofs.YtaecdlhomihejaaW.PrintMore
abbrev kN14_ := @blk_drewN
abbrev kD14_ := @blk_drew
abbrev kA14_ := @blk_alloc
abbrev rA14_ := @Kd.R_alloc
abbrev rD14_ := @Kd.R_drew
abbrev bA14_ := @below_alloc
abbrev bN14_ := @pw_below_drewN
abbrev bD14_ := @below_drew1
abbrev bS14_ := @below_set
abbrev mk14_ := @Aside0.mk
abbrev fZ14_ := @blk_frozen
abbrev sA14_ := @Kd.S_alloc
abbrev sB14_ := @Kd.S_below
abbrev bT14_ := @below_step
abbrev bZ14_ := @below_size
attribute [local go_sem] min2_int min_two
set_option linter.unusedVariables false
set_option linter.unusedSimpArgs false

-- BREAK
def impl_newMap.f (a0:Int) (a1:Int) (a2:Int):Option (Int × Int × List Int × List Bool × Bool):=(impl_within.f a0 1 48).bind fun t222=>(if t222=true then ((impl_sizeOk.f a1 a2).bind fun t223=>(if t223=true then ((slices_Repeat_int64_int64.f (([(-1)]:List Int)) a0).bind fun t227=>(if 0≤a0 then (if (a0:Int).toNat≤281474976710656 then (some (a1,a2,t227,(List.replicate (a0:Int).toNat false),true)) else (none)) else (none))) else (some (0,0,([]:List Int),([]:List Bool),false)))) else (some (0,0,([]:List Int),([]:List Bool),false)))
def impl_newMap.T3:Bool × List (List Nat × List Nat):=(true,[([],[]),([],[]),([],[]),([],[]),([2,3],[2,3]),([],[]),([5,5],[5]),([0,1,4,6],[0,1,4,6]),([7,4,0,1,2,3,4,5,6,7],[7]),([8,0,1,2,3,4,5,6,7,8],[])])
def impl_newMap.B3 : List Nat := [0, 0, 0, 0, 12, 0, 32, 127, 255, 511]
theorem impl_newMap.tab3 : rtab .any (opsOf Try.f175 3) = impl_newMap.T3 := by kernel_rfl
theorem impl_newMap.bits3 : waitsOk impl_newMap.T3.2 impl_newMap.B3 = true := by kernel_rfl
set_option maxHeartbeats 8000000 in
set_option maxRecDepth 100000 in
theorem impl_newMap.calls (a0:Int) (a1:Int) (a2:Int) (r1:Int) (r2:Int) (r3:List Int) (r4:List Bool) (r5:Bool) (w:World) (h:impl_newMap.f a0 a1 a2=some (r1,r2,r3,r4,r5)) :
    Calls Try.prog 175 #[.int .i64 a0,.int .i64 a1,.int .i64 a2] w fun e w'=>∃ v2_ v3_:Value,e=.returned (.tuple #[.agg #[.int .i64 r1,.int .i64 r2,v2_,v3_],.bool r5])∧Kd.R (Kd.int .i64) 2 w' w.heap.size (fun _=>True) v2_ r3∧Kd.R Kd.bool 4 w' w.heap.size (fun _=>True) v3_ r4∧Below w.heap.size w w':=by
  have hu41 := Try.underlying41
  have HB := Aside0.mk (Below.refl w.heap.size w)
  have H:((impl_within.f a0 1 48).bind fun t222=>(if t222=true then ((impl_sizeOk.f a1 a2).bind fun t223=>(if t223=true then ((slices_Repeat_int64_int64.f (([(-1)]:List Int)) a0).bind fun t227=>(if 0≤a0 then (if (a0:Int).toNat≤281474976710656 then (some (a1,a2,t227,(List.replicate (a0:Int).toNat false),true)) else (none)) else (none))) else (some (0,0,([]:List Int),([]:List Bool),false)))) else (some (0,0,([]:List Int),([]:List Bool),false))))=some (r1,r2,r3,r4,r5):=h
  clear h
  replace H := Option.bind_eq_some_iff.mp H
  obtain ⟨t222, A40, H⟩ := H
  replace H:(if t222=true then ((impl_sizeOk.f a1 a2).bind fun t223=>(if t223=true then ((slices_Repeat_int64_int64.f (([(-1)]:List Int)) a0).bind fun t227=>(if 0≤a0 then (if (a0:Int).toNat≤281474976710656 then (some (a1,a2,t227,(List.replicate (a0:Int).toNat false),true)) else (none)) else (none))) else (some (0,0,([]:List Int),([]:List Bool),false)))) else (some (0,0,([]:List Int),([]:List Bool),false)))=some (r1,r2,r3,r4,r5):=H
  have A4 := Aside0.mk A40
  clear A40
  by_cases c5 : t222 = true
  · subst c5
    have H1:((impl_sizeOk.f a1 a2).bind fun t223=>(if t223=true then ((slices_Repeat_int64_int64.f (([(-1)]:List Int)) a0).bind fun t227=>(if 0≤a0 then (if (a0:Int).toNat≤281474976710656 then (some (a1,a2,t227,(List.replicate (a0:Int).toNat false),true)) else (none)) else (none))) else (some (0,0,([]:List Int),([]:List Bool),false))))=some (r1,r2,r3,r4,r5):=by rw [if_pos rfl] at H;exact H
    clear H
    have H := H1
    clear H1
    replace H := Option.bind_eq_some_iff.mp H
    obtain ⟨t223, A60, H⟩ := H
    replace H:(if t223=true then ((slices_Repeat_int64_int64.f (([(-1)]:List Int)) a0).bind fun t227=>(if 0≤a0 then (if (a0:Int).toNat≤281474976710656 then (some (a1,a2,t227,(List.replicate (a0:Int).toNat false),true)) else (none)) else (none))) else (some (0,0,([]:List Int),([]:List Bool),false)))=some (r1,r2,r3,r4,r5):=H
    have A6 := Aside0.mk A60
    clear A60
    by_cases c7 : t223 = true
    · subst c7
      have H1:((slices_Repeat_int64_int64.f (([(-1)]:List Int)) a0).bind fun t227=>(if 0≤a0 then (if (a0:Int).toNat≤281474976710656 then (some (a1,a2,t227,(List.replicate (a0:Int).toNat false),true)) else (none)) else (none)))=some (r1,r2,r3,r4,r5):=by rw [if_pos rfl] at H;exact H
      clear H
      have H := H1
      clear H1
      obtain ⟨y224, hy224⟩ : ∃ y_ : List Int, y_ = (([(-1)] : List Int)) := ⟨_, rfl⟩
      replace H:((slices_Repeat_int64_int64.f y224 a0).bind fun t227=>(if 0≤a0 then (if (a0:Int).toNat≤281474976710656 then (some (a1,a2,t227,(List.replicate (a0:Int).toNat false),true)) else (none)) else (none)))=some (r1,r2,r3,r4,r5):=by first|(rw [hy224];with_reducible exact H)|(have H2_:=(Option.bind_some _ _).symm.trans H;rw [hy224];with_reducible exact H2_)|(have H2_:=(Option.bind_some _ _).symm.trans H;with_reducible exact H2_)|with_reducible exact H|(rw [hy224];exact H)|exact H
      have Ny224 := Aside0.mk hy224
      clear hy224
      replace H := Option.bind_eq_some_iff.mp H
      obtain ⟨t227, A80, H⟩ := H
      replace H:(if 0≤a0 then (if (a0:Int).toNat≤281474976710656 then (some (a1,a2,t227,(List.replicate (a0:Int).toNat false),true)) else (none)) else (none))=some (r1,r2,r3,r4,r5):=H
      have A8 := Aside0.mk A80
      clear A80
      by_cases c9 : 0 ≤ a0
      · rw [if_pos c9] at H
        have c9b0 := eq_true c9
        have c9b1 : decide (0 ≤ a0) = true := decide_eq_true c9
        clear c9
        by_cases c10 : (a0 : Int).toNat ≤ 281474976710656
        · rw [if_pos c10] at H
          have c10b0 := eq_true c10
          have c10b1 : decide ((a0 : Int).toNat ≤ 281474976710656) = true := decide_eq_true c10
          clear c10
          obtain ⟨y230,hy230⟩:∃ y_:List Bool,y_=(List.replicate (a0:Int).toNat false):=⟨_,rfl⟩
          replace H:(some (a1,a2,t227,y230,true))=some (r1,r2,r3,r4,r5):=by first|(rw [hy230];with_reducible exact H)|(have H2_:=(Option.bind_some _ _).symm.trans H;rw [hy230];with_reducible exact H2_)|(have H2_:=(Option.bind_some _ _).symm.trans H;with_reducible exact H2_)|with_reducible exact H|(rw [hy230];exact H)|exact H
          have Ny230 := Aside0.mk hy230
          clear hy230
          simp only [Option.some.injEq, Prod.mk.injEq] at H
          obtain ⟨rfl, rfl, rfl, rfl, rfl⟩ := H
          go_enter Try.func175, Try.ntmps175
          try go_wp2_with (first|((with_reducible refine gate_dst (N:=6) rfl ?_);refine box_event ?hg (N:=6) ?hd (cs:=#[.int .i64 0,.int .i64 0,.slice none 0 0,.slice none 0 0]) (t:=41) ?hr ?_;(case hd=>rfl);(case hg=>rfl);(case hr=>first|(go_simp;done)|(go_simp;rfl));intro gb221 hg w11 hbox hb;have n0_:=mk14_ (bT14_ (by repeat (first|(with_reducible first|exact HB.out|apply bA14_|apply bN14_|apply bD14_)|exact HB.out)) hb);have n1_:=mk14_ (hbox);have n2_:=mk14_ ((by rw [hg];exact (bZ14_ (by repeat (first|(with_reducible first|exact HB.out|apply bA14_|apply bN14_|apply bD14_)|exact HB.out))):w.heap.size≤gb221));have n3_:=mk14_ ((by rw [hg];exact (bZ14_ (by repeat (first|(with_reducible first|exact HB.out|apply bA14_|apply bN14_|apply bD14_)|exact HB.out))):w.heap.size≤gb221));clear HB;have HB:=n0_;have BK221:=n1_;have GW221:=n2_;have GE221:=n3_;clear n0_ n1_ n2_ n3_;clear hb hbox hg)|((with_reducible refine gate_callee (f:=92) rfl ?_);refine goesL_ (some 9) rfl rfl Try.func92 (by kernel_rfl) rfl #[.int .i64 a0,.int .i64 1,.int .i64 48] rfl (by (try simp only [List.map_toArray,List.map_cons,List.map_nil]);first|done|rfl|(simp only [List.length_drop,List.length_take];rfl)) ?_;(with_reducible refine (impl_within.calls a0 1 48 true _ A4.out).mono ?_);rintro e w' ⟨rfl,⟨nd,rfl⟩⟩;refine ⟨_,rfl,?_⟩;(try (rw [drewN_self w11];generalize hq_:World.drewN w11 _=w11;have n0_:Aside0 (w11.heap[gb221]?=some (.cells #[.int .i64 0,.int .i64 0,.slice none 0 0,.slice none 0 0] 41 (0,0))):=⟨by rw [← hq_];exact (by (with_reducible repeat (first|refine kN14_ ?_ _|refine kD14_ ?_|refine kA14_ ?_ _));exact BK221.out)⟩;have n1_:Aside0 (Below w.heap.size w w11):=⟨by rw [← hq_];exact (by repeat (first|(with_reducible first|exact HB.out|apply bA14_|apply bN14_|apply bD14_|refine bS14_ ?_ GE221.out)|exact HB.out))⟩;clear BK221 HB hq_;have BK221:=n0_;have HB:=n1_;clear n0_ n1_)))|(go_at_call 178;(with_reducible refine (impl_sizeOk.calls a1 a2 true _ A6.out).mono ?_);rintro e w' ⟨rfl,⟨nd,rfl⟩⟩;(try (rw [drewN_self w11];generalize hq_:World.drewN w11 _=w11;have n0_:Aside0 (w11.heap[gb221]?=some (.cells #[.int .i64 0,.int .i64 0,.slice none 0 0,.slice none 0 0] 41 (0,0))):=⟨by rw [← hq_];exact (by (with_reducible repeat (first|refine kN14_ ?_ _|refine kD14_ ?_|refine kA14_ ?_ _));exact BK221.out)⟩;have n1_:Aside0 (Below w.heap.size w w11):=⟨by rw [← hq_];exact (by repeat (first|(with_reducible first|exact HB.out|apply bA14_|apply bN14_|apply bD14_|refine bS14_ ?_ GE221.out)|exact HB.out))⟩;clear BK221 HB hq_;have BK221:=n0_;have HB:=n1_;clear n0_ n1_))))
          have n0_ := Aside0.mk (blk_drew BK221.out)
          have n1_ := Aside0.mk (below_drew1 HB.out)
          clear BK221
          clear HB
          have BK221 := n0_
          have HB := n1_
          clear n0_ n1_
          refine start_ (n:=10) (S:=fun w'=>True) (ds:=[]) #[false,false,false,false,false,false,false,false,false,false] (by kernel_rfl) rfl rfl trivial (fun hHeld=>?_);refine with_tabW impl_newMap.tab3 impl_newMap.bits3 (fun HT_ HW_=>?_)
          generalize w11.drew = w12 at BK221 HB hHeld ⊢
          refine pure_ (i:=0) (N:=some 18) (v:=?_) (a':=?_) #[true,false,false,false,false,false,false,false,false,false] rfl rfl (any_of HT_.out (by kernel_rfl)) (fun _ _ _ h=>h) (Or.inl ⟨by rfl,?_⟩) ?_ ?_
          rotate_left
          · intro w'
            go_simp
            with_reducible rfl
          rotate_left
          · simp only [Act.put,List.setIfInBounds_toArray,List.set_cons_zero,List.set_cons_succ,i64_w,i32_w]
            rfl
          refine pure_ (i:=1) (N:=some 19) (v:=?_) (a':=?_) #[true,true,false,false,false,false,false,false,false,false] rfl rfl (any_of HT_.out (by kernel_rfl)) (fun _ _ _ h=>h) (Or.inl ⟨by rfl,?_⟩) ?_ ?_
          rotate_left
          · intro w'
            go_simp
            with_reducible rfl
          rotate_left
          · simp only [Act.put,List.setIfInBounds_toArray,List.set_cons_zero,List.set_cons_succ,i64_w,i32_w]
            rfl
          refine pure_ (i:=3) (N:=some 21) (v:=?_) (a':=?_) #[true,true,false,true,false,false,false,false,false,false] rfl rfl (any_of HT_.out (by kernel_rfl)) (fun _ _ _ h=>h) (Or.inl ⟨by rfl,?_⟩) ?_ ?_
          rotate_left
          · intro w'
            go_simp
            with_reducible rfl
          rotate_left
          · simp only [Act.put,List.setIfInBounds_toArray,List.set_cons_zero,List.set_cons_succ,i64_w,i32_w]
            rfl
          refine pure_ (i:=5) (N:=some 23) (v:=?_) (a':=?_) #[true,true,false,true,false,true,false,false,false,false] rfl rfl (any_of HT_.out (by kernel_rfl)) (fun _ _ _ h=>h) (Or.inl ⟨by rfl,?_⟩) ?_ ?_
          rotate_left
          · intro w'
            go_simp
            with_reducible rfl
          rotate_left
          · simp only [Act.put,List.setIfInBounds_toArray,List.set_cons_zero,List.set_cons_succ,i64_w,i32_w]
            rfl
          refine join_ (σ:=Value × Value × Value) 3 #[true,true,true,true,true,true,true,false,false,false] (fun s_=>[(20,s_.1),(22,s_.2.1),(24,s_.2.2)]) (fun s_ w'=>(Kd.R (Kd.int .i64) 2 w' w.heap.size (fun k_=>some k_≠(s_.2.1:Value).ownBlock) s_.1 y224)∧(Kd.R (Kd.int .i64) 2 w' w.heap.size (fun k_=>some k_≠(s_.1:Value).ownBlock) s_.2.1 t227)∧(Kd.R Kd.bool 4 w' w.heap.size (fun _=>True) s_.2.2 y230)∧(w'.heap[gb221]?=some (.cells #[.int .i64 0,.int .i64 0,.slice none 0 0,.slice none 0 0] 41 (0,0)))∧(Below w.heap.size w w')) ?_ ?_
          rotate_left
          · intro hCont
            refine two_ (i:=2) (j:=6) (Ni:=some 20) (Nj:=some 24) #[true,true,true,true,false,true,false,false,false,false] #[true,true,false,true,false,true,true,false,false,false] rfl rfl rfl rfl (two_of HT_.out (by kernel_rfl)) (by decide) (by decide) (fun K hK=>?_) (fun K hK=>?_)
            · skip
              refine Kd.R_lit_step (Kd.int .i64) _ 2 ?hg (N:=20) ?hd (xs:=([(-1)]:List Int)) (inner:=[.int .i64 (-1)]) (ok:=fun _=>True) (okp:=fun _=>True) ?hr ?hp (fun _ hk=>hk) trivial (Below.refl _ _) (Nat.le_refl _) (by simp) ?_;(case hd=>rfl);(case hg=>rfl);(case hr=>first|(go_simp;done)|(go_simp;rfl));(case hp=>exact (Reps.one (show Kd.M (Kd.int .i64) _ _ _ (-1) [.int .i64 (-1)] from rfl) (Reps.none _ _)))
              intro v225 w13 ho14 hb hg_ hnew_
              clear hg_ hnew_
              (first|rw [← Ny224.out] at ho14|(simp only [Int.reduceToNat] at ho14;rw [← Ny224.out] at ho14))
              have n0_:=mk14_ (Kd.R_lower ho14 (bZ14_ (by repeat (first|(with_reducible first|exact HB.out|apply bA14_|apply bN14_|apply bD14_|refine bS14_ ?_ GE221.out)|exact HB.out))))
              have n1_:=mk14_ (blk_below (g:=gb221) (o:=.cells #[.int .i64 0,.int .i64 0,.slice none 0 0,.slice none 0 0] 41 (0,0)) (by (with_reducible repeat (first|refine kN14_ ?_ _|refine kD14_ ?_|refine kA14_ ?_ _));exact BK221.out) hb)
              have n2_:=mk14_ (bT14_ (by repeat (first|(with_reducible first|exact HB.out|apply bA14_|apply bN14_|apply bD14_|refine bS14_ ?_ GE221.out)|exact HB.out)) hb)
              clear BK221
              clear HB
              have HO226 := n0_
              have BK221 := n1_
              have HB := n2_
              clear n0_ n1_ n2_
              clear hb ho14
              obtain ⟨Ao15, co15, eo15⟩ := Kd.R_slice HO226.out
              (first|subst eo15|(injection eo15 with f1_ f2_ f3_;have f4_:=f1_.symm;have f5_:=f3_.symm;clear f1_ f2_ f3_;subst f4_;subst f5_))
              refine hK.out _ _ trivial (fun hHeld => ?_)
              clear hK K
              refine norm_ (a' := ?_) ?_ ?_
              rotate_left
              · show Act.put _ (some 20) _ = _
                simp only [Act.put,List.setIfInBounds_toArray,List.set_cons_zero,List.set_cons_succ,i64_w,i32_w]
                rfl
              refine two_ (i:=4) (j:=6) (Ni:=some 22) (Nj:=some 24) #[true,true,true,true,true,true,false,false,false,false] #[true,true,true,true,false,true,true,false,false,false] rfl rfl rfl rfl (two_of HT_.out (by kernel_rfl)) (by decide) (by decide) (fun K hK=>?_) (fun K hK=>?_)
              · skip
                refine goes_ Try.func190 (by kernel_rfl) rfl #[.slice Ao15 y224.length co15,.int .i64 a0] (by rfl) rfl rfl (by (try simp only [List.map_toArray,List.map_cons,List.map_nil]);first|done|rfl|(simp only [List.length_drop,List.length_take];rfl)) ?_
                with_reducible refine (slices_Repeat_int64_int64.calls _ _ y224 a0 t227 _ ?side1 ?side2 A8.out).mono ?_
                (case side1=>repeat (first|exact (Kd.R_reads' HO226.out).2.2|(with_reducible refine Kd.C_alloc ?_ _)|(with_reducible refine Kd.C_drewN ?_ _)|(with_reducible refine Kd.C_drew ?_)))
                (case side2 => exact (Kd.R_reads' HO226.out).2.1)
                rintro e w16 ⟨v228, rfl, ho0, hb⟩
                refine ⟨_, rfl, ?_⟩
                have n0_:=mk14_ (Kd.R_elder' (by (with_reducible repeat (first|apply rA14_|apply Kd.R_drewN|apply rD14_));exact HO226.out) (Kd.R_base ho0) hb)
                have n1_:=mk14_ (Kd.R_lower (Kd.R_new' ho0 (Kd.R_lt (by (with_reducible repeat (first|apply rA14_|apply Kd.R_drewN|apply rD14_));exact HO226.out))) (bZ14_ (by repeat (first|(with_reducible first|exact HB.out|apply bA14_|apply bN14_|apply bD14_|refine bS14_ ?_ GE221.out)|exact HB.out))))
                have n2_:=mk14_ (blk_below (g:=gb221) (o:=.cells #[.int .i64 0,.int .i64 0,.slice none 0 0,.slice none 0 0] 41 (0,0)) (by (with_reducible repeat (first|refine kN14_ ?_ _|refine kD14_ ?_|refine kA14_ ?_ _));exact BK221.out) hb)
                have n3_:=mk14_ (bT14_ (by repeat (first|(with_reducible first|exact HB.out|apply bA14_|apply bN14_|apply bD14_|refine bS14_ ?_ GE221.out)|exact HB.out)) hb)
                clear HO226
                clear BK221
                clear HB
                have HO226 := n0_
                have HO229 := n1_
                have BK221 := n2_
                have HB := n3_
                clear n0_ n1_ n2_ n3_
                (try clear hb)
                (try clear hb2)
                (try clear hk)
                (try clear hi)
                (try clear ho0)
                refine hK.out _ _ trivial (fun hHeld => ?_)
                clear hK K
                refine norm_ (a' := ?_) ?_ ?_
                rotate_left
                · show Act.put _ (some 22) _ = _
                  simp only [Act.put,List.setIfInBounds_toArray,List.set_cons_zero,List.set_cons_succ,i64_w,i32_w]
                  rfl
                refine one_ (i:=6) (N:=some 24) #[true,true,true,true,true,true,true,false,false,false] rfl rfl (one_of HT_.out (by kernel_rfl)) (by decide) (fun K hK=>?_)
                refine Kd.R_make_step Kd.bool _ 4 (by rfl) (N:=24) rfl 28 _ _ rfl a0 rfl rfl Try.underlying28 (.bool false) 1 info4 rfl (by decide) (by omega) false (ok:=fun _=>True) (okp:=fun _=>True) rfl (fun _ hk=>hk) trivial (of_decide_eq_true (by first|(with_reducible assumption)|assumption)) (Nat.le_trans (Nat.mul_le_mul_right _ (of_decide_eq_true (by first|(with_reducible assumption)|assumption):a0.toNat≤281474976710656)) (by omega)) (Below.refl _ _) (Nat.le_refl _) ?_
                intro v231 w17 ho18 hb hg_ hnew_
                clear hg_ hnew_
                (first|rw [← Ny230.out] at ho18|(simp only [Int.reduceToNat] at ho18;rw [← Ny230.out] at ho18))
                have n0_:=mk14_ (Kd.R_below (by (with_reducible repeat (first|apply rA14_|apply Kd.R_drewN|apply rD14_));exact HO226.out) hb)
                have n1_:=mk14_ (Kd.R_below (by (with_reducible repeat (first|apply rA14_|apply Kd.R_drewN|apply rD14_));exact HO229.out) hb)
                have n2_:=mk14_ (Kd.R_lower ho18 (bZ14_ (by repeat (first|(with_reducible first|exact HB.out|apply bA14_|apply bN14_|apply bD14_|refine bS14_ ?_ GE221.out)|exact HB.out))))
                have n3_:=mk14_ (blk_below (g:=gb221) (o:=.cells #[.int .i64 0,.int .i64 0,.slice none 0 0,.slice none 0 0] 41 (0,0)) (by (with_reducible repeat (first|refine kN14_ ?_ _|refine kD14_ ?_|refine kA14_ ?_ _));exact BK221.out) hb)
                have n4_:=mk14_ (bT14_ (by repeat (first|(with_reducible first|exact HB.out|apply bA14_|apply bN14_|apply bD14_|refine bS14_ ?_ GE221.out)|exact HB.out)) hb)
                clear HO226
                clear HO229
                clear BK221
                clear HB
                have HO226 := n0_
                have HO229 := n1_
                have HO232 := n2_
                have BK221 := n3_
                have HB := n4_
                clear n0_ n1_ n2_ n3_ n4_
                clear hb ho18
                obtain ⟨Ao19, co19, eo19⟩ := Kd.R_slice HO232.out
                (first|subst eo19|(injection eo19 with f1_ f2_ f3_;have f4_:=f1_.symm;have f5_:=f3_.symm;clear f1_ f2_ f3_;subst f4_;subst f5_))
                obtain ⟨Ao20, co20, eo20⟩ := Kd.R_slice HO229.out
                (first|subst eo20|(injection eo20 with f1_ f2_ f3_;have f4_:=f1_.symm;have f5_:=f3_.symm;clear f1_ f2_ f3_;subst f4_;subst f5_))
                refine hK.out _ _ trivial (fun hHeld => ?_)
                clear hK K
                refine norm_ (a' := ?_) ?_ ?_
                rotate_left
                · show Act.put _ (some 24) _ = _
                  simp only [Act.put,List.setIfInBounds_toArray,List.set_cons_zero,List.set_cons_succ,i64_w,i32_w]
                  rfl
                exact norm_ (by simp only [putAll,Act.put,List.setIfInBounds_toArray,List.set_cons_zero,List.set_cons_succ]) (hCont (.slice Ao15 y224.length co15,.slice Ao20 t227.length co20,.slice Ao19 y230.length co19) _ ⟨(by (with_reducible repeat (first|apply rA14_|apply Kd.R_drewN|apply rD14_));exact Kd.R_mono HO226.out (fun _ hk=>hk.2)),(by (with_reducible repeat (first|apply rA14_|apply Kd.R_drewN|apply rD14_));exact Kd.R_mono HO229.out (fun _ hk=>hk.2)),(by (with_reducible repeat (first|apply rA14_|apply Kd.R_drewN|apply rD14_));exact HO232.out),(by (with_reducible repeat (first|refine kN14_ ?_ _|refine kD14_ ?_|refine kA14_ ?_ _));exact BK221.out),(by repeat (first|(with_reducible first|exact HB.out|apply bA14_|apply bN14_|apply bD14_|refine bS14_ ?_ GE221.out)|exact HB.out))⟩)
              · skip
                refine Kd.R_make_step Kd.bool _ 4 (by rfl) (N:=24) rfl 28 _ _ rfl a0 rfl rfl Try.underlying28 (.bool false) 1 info4 rfl (by decide) (by omega) false (ok:=fun _=>True) (okp:=fun _=>True) rfl (fun _ hk=>hk) trivial (of_decide_eq_true (by first|(with_reducible assumption)|assumption)) (Nat.le_trans (Nat.mul_le_mul_right _ (of_decide_eq_true (by first|(with_reducible assumption)|assumption):a0.toNat≤281474976710656)) (by omega)) (Below.refl _ _) (Nat.le_refl _) ?_
                intro v231 w15 ho16 hb hg_ hnew_
                clear hg_ hnew_
                (first|rw [← Ny230.out] at ho16|(simp only [Int.reduceToNat] at ho16;rw [← Ny230.out] at ho16))
                have n0_:=mk14_ (Kd.R_below (by (with_reducible repeat (first|apply rA14_|apply Kd.R_drewN|apply rD14_));exact HO226.out) hb)
                have n1_:=mk14_ (Kd.R_lower ho16 (bZ14_ (by repeat (first|(with_reducible first|exact HB.out|apply bA14_|apply bN14_|apply bD14_|refine bS14_ ?_ GE221.out)|exact HB.out))))
                have n2_:=mk14_ (blk_below (g:=gb221) (o:=.cells #[.int .i64 0,.int .i64 0,.slice none 0 0,.slice none 0 0] 41 (0,0)) (by (with_reducible repeat (first|refine kN14_ ?_ _|refine kD14_ ?_|refine kA14_ ?_ _));exact BK221.out) hb)
                have n3_:=mk14_ (bT14_ (by repeat (first|(with_reducible first|exact HB.out|apply bA14_|apply bN14_|apply bD14_|refine bS14_ ?_ GE221.out)|exact HB.out)) hb)
                clear HO226
                clear BK221
                clear HB
                have HO226 := n0_
                have HO232 := n1_
                have BK221 := n2_
                have HB := n3_
                clear n0_ n1_ n2_ n3_
                clear hb ho16
                obtain ⟨Ao17, co17, eo17⟩ := Kd.R_slice HO226.out
                (first|subst eo17|(injection eo17 with f1_ f2_ f3_;have f4_:=f1_.symm;have f5_:=f3_.symm;clear f1_ f2_ f3_;subst f4_;subst f5_))
                refine hK.out _ _ trivial (fun hHeld => ?_)
                clear hK K
                refine norm_ (a' := ?_) ?_ ?_
                rotate_left
                · show Act.put _ (some 24) _ = _
                  simp only [Act.put,List.setIfInBounds_toArray,List.set_cons_zero,List.set_cons_succ,i64_w,i32_w]
                  rfl
                refine one_ (i:=4) (N:=some 22) #[true,true,true,true,true,true,true,false,false,false] rfl rfl (one_of HT_.out (by kernel_rfl)) (by decide) (fun K hK=>?_)
                refine goes_ Try.func190 (by kernel_rfl) rfl #[.slice Ao17 y224.length co17,.int .i64 a0] (by rfl) rfl rfl (by (try simp only [List.map_toArray,List.map_cons,List.map_nil]);first|done|rfl|(simp only [List.length_drop,List.length_take];rfl)) ?_
                with_reducible refine (slices_Repeat_int64_int64.calls _ _ y224 a0 t227 _ ?side1 ?side2 A8.out).mono ?_
                (case side1=>repeat (first|exact (Kd.R_reads' HO226.out).2.2|(with_reducible refine Kd.C_alloc ?_ _)|(with_reducible refine Kd.C_drewN ?_ _)|(with_reducible refine Kd.C_drew ?_)))
                (case side2 => exact (Kd.R_reads' HO226.out).2.1)
                rintro e w18 ⟨v228, rfl, ho0, hb⟩
                refine ⟨_, rfl, ?_⟩
                have n0_:=mk14_ (Kd.R_elder' (by (with_reducible repeat (first|apply rA14_|apply Kd.R_drewN|apply rD14_));exact HO226.out) (Kd.R_base ho0) hb)
                have n1_:=mk14_ (Kd.R_below (by (with_reducible repeat (first|apply rA14_|apply Kd.R_drewN|apply rD14_));exact HO232.out) hb)
                have n2_:=mk14_ (Kd.R_lower (Kd.R_new' ho0 (Kd.R_lt (by (with_reducible repeat (first|apply rA14_|apply Kd.R_drewN|apply rD14_));exact HO226.out))) (bZ14_ (by repeat (first|(with_reducible first|exact HB.out|apply bA14_|apply bN14_|apply bD14_|refine bS14_ ?_ GE221.out)|exact HB.out))))
                have n3_:=mk14_ (blk_below (g:=gb221) (o:=.cells #[.int .i64 0,.int .i64 0,.slice none 0 0,.slice none 0 0] 41 (0,0)) (by (with_reducible repeat (first|refine kN14_ ?_ _|refine kD14_ ?_|refine kA14_ ?_ _));exact BK221.out) hb)
                have n4_:=mk14_ (bT14_ (by repeat (first|(with_reducible first|exact HB.out|apply bA14_|apply bN14_|apply bD14_|refine bS14_ ?_ GE221.out)|exact HB.out)) hb)
                clear HO226
                clear HO232
                clear BK221
                clear HB
                have HO226 := n0_
                have HO232 := n1_
                have HO229 := n2_
                have BK221 := n3_
                have HB := n4_
                clear n0_ n1_ n2_ n3_ n4_
                (try clear hb)
                (try clear hb2)
                (try clear hk)
                (try clear hi)
                (try clear ho0)
                obtain ⟨Ao19, co19, eo19⟩ := Kd.R_slice HO232.out
                (first|subst eo19|(injection eo19 with f1_ f2_ f3_;have f4_:=f1_.symm;have f5_:=f3_.symm;clear f1_ f2_ f3_;subst f4_;subst f5_))
                obtain ⟨Ao20, co20, eo20⟩ := Kd.R_slice HO229.out
                (first|subst eo20|(injection eo20 with f1_ f2_ f3_;have f4_:=f1_.symm;have f5_:=f3_.symm;clear f1_ f2_ f3_;subst f4_;subst f5_))
                refine hK.out _ _ trivial (fun hHeld => ?_)
                clear hK K
                refine norm_ (a' := ?_) ?_ ?_
                rotate_left
                · show Act.put _ (some 22) _ = _
                  simp only [Act.put,List.setIfInBounds_toArray,List.set_cons_zero,List.set_cons_succ,i64_w,i32_w]
                  rfl
                exact norm_ (by simp only [putAll,Act.put,List.setIfInBounds_toArray,List.set_cons_zero,List.set_cons_succ]) (hCont (.slice Ao17 y224.length co17,.slice Ao20 t227.length co20,.slice Ao19 y230.length co19) _ ⟨(by (with_reducible repeat (first|apply rA14_|apply Kd.R_drewN|apply rD14_));exact Kd.R_mono HO226.out (fun _ hk=>hk.2)),(by (with_reducible repeat (first|apply rA14_|apply Kd.R_drewN|apply rD14_));exact Kd.R_mono HO229.out (fun _ hk=>hk.2)),(by (with_reducible repeat (first|apply rA14_|apply Kd.R_drewN|apply rD14_));exact HO232.out),(by (with_reducible repeat (first|refine kN14_ ?_ _|refine kD14_ ?_|refine kA14_ ?_ _));exact BK221.out),(by repeat (first|(with_reducible first|exact HB.out|apply bA14_|apply bN14_|apply bD14_|refine bS14_ ?_ GE221.out)|exact HB.out))⟩)
            · skip
              refine Kd.R_make_step Kd.bool _ 4 (by rfl) (N:=24) rfl 28 _ _ rfl a0 rfl rfl Try.underlying28 (.bool false) 1 info4 rfl (by decide) (by omega) false (ok:=fun _=>True) (okp:=fun _=>True) rfl (fun _ hk=>hk) trivial (of_decide_eq_true (by first|(with_reducible assumption)|assumption)) (Nat.le_trans (Nat.mul_le_mul_right _ (of_decide_eq_true (by first|(with_reducible assumption)|assumption):a0.toNat≤281474976710656)) (by omega)) (Below.refl _ _) (Nat.le_refl _) ?_
              intro v231 w13 ho14 hb hg_ hnew_
              clear hg_ hnew_
              (first|rw [← Ny230.out] at ho14|(simp only [Int.reduceToNat] at ho14;rw [← Ny230.out] at ho14))
              have n0_:=mk14_ (Kd.R_lower ho14 (bZ14_ (by repeat (first|(with_reducible first|exact HB.out|apply bA14_|apply bN14_|apply bD14_|refine bS14_ ?_ GE221.out)|exact HB.out))))
              have n1_:=mk14_ (blk_below (g:=gb221) (o:=.cells #[.int .i64 0,.int .i64 0,.slice none 0 0,.slice none 0 0] 41 (0,0)) (by (with_reducible repeat (first|refine kN14_ ?_ _|refine kD14_ ?_|refine kA14_ ?_ _));exact BK221.out) hb)
              have n2_:=mk14_ (bT14_ (by repeat (first|(with_reducible first|exact HB.out|apply bA14_|apply bN14_|apply bD14_|refine bS14_ ?_ GE221.out)|exact HB.out)) hb)
              clear BK221
              clear HB
              have HO232 := n0_
              have BK221 := n1_
              have HB := n2_
              clear n0_ n1_ n2_
              clear hb ho14
              refine hK.out _ _ trivial (fun hHeld => ?_)
              clear hK K
              refine norm_ (a' := ?_) ?_ ?_
              rotate_left
              · show Act.put _ (some 24) _ = _
                simp only [Act.put,List.setIfInBounds_toArray,List.set_cons_zero,List.set_cons_succ,i64_w,i32_w]
                rfl
              refine one_ (i:=2) (N:=some 20) #[true,true,true,true,false,true,true,false,false,false] rfl rfl (one_of HT_.out (by kernel_rfl)) (by decide) (fun K hK=>?_)
              refine Kd.R_lit_step (Kd.int .i64) _ 2 ?hg (N:=20) ?hd (xs:=([(-1)]:List Int)) (inner:=[.int .i64 (-1)]) (ok:=fun _=>True) (okp:=fun _=>True) ?hr ?hp (fun _ hk=>hk) trivial (Below.refl _ _) (Nat.le_refl _) (by simp) ?_;(case hd=>rfl);(case hg=>rfl);(case hr=>first|(go_simp;done)|(go_simp;rfl));(case hp=>exact (Reps.one (show Kd.M (Kd.int .i64) _ _ _ (-1) [.int .i64 (-1)] from rfl) (Reps.none _ _)))
              intro v225 w15 ho16 hb hg_ hnew_
              clear hg_ hnew_
              (first|rw [← Ny224.out] at ho16|(simp only [Int.reduceToNat] at ho16;rw [← Ny224.out] at ho16))
              have n0_:=mk14_ (Kd.R_below (by (with_reducible repeat (first|apply rA14_|apply Kd.R_drewN|apply rD14_));exact HO232.out) hb)
              have n1_:=mk14_ (Kd.R_lower ho16 (bZ14_ (by repeat (first|(with_reducible first|exact HB.out|apply bA14_|apply bN14_|apply bD14_|refine bS14_ ?_ GE221.out)|exact HB.out))))
              have n2_:=mk14_ (blk_below (g:=gb221) (o:=.cells #[.int .i64 0,.int .i64 0,.slice none 0 0,.slice none 0 0] 41 (0,0)) (by (with_reducible repeat (first|refine kN14_ ?_ _|refine kD14_ ?_|refine kA14_ ?_ _));exact BK221.out) hb)
              have n3_:=mk14_ (bT14_ (by repeat (first|(with_reducible first|exact HB.out|apply bA14_|apply bN14_|apply bD14_|refine bS14_ ?_ GE221.out)|exact HB.out)) hb)
              clear HO232
              clear BK221
              clear HB
              have HO232 := n0_
              have HO226 := n1_
              have BK221 := n2_
              have HB := n3_
              clear n0_ n1_ n2_ n3_
              clear hb ho16
              obtain ⟨Ao17, co17, eo17⟩ := Kd.R_slice HO226.out
              (first|subst eo17|(injection eo17 with f1_ f2_ f3_;have f4_:=f1_.symm;have f5_:=f3_.symm;clear f1_ f2_ f3_;subst f4_;subst f5_))
              refine hK.out _ _ trivial (fun hHeld => ?_)
              clear hK K
              refine norm_ (a' := ?_) ?_ ?_
              rotate_left
              · show Act.put _ (some 20) _ = _
                simp only [Act.put,List.setIfInBounds_toArray,List.set_cons_zero,List.set_cons_succ,i64_w,i32_w]
                rfl
              refine one_ (i:=4) (N:=some 22) #[true,true,true,true,true,true,true,false,false,false] rfl rfl (one_of HT_.out (by kernel_rfl)) (by decide) (fun K hK=>?_)
              refine goes_ Try.func190 (by kernel_rfl) rfl #[.slice Ao17 y224.length co17,.int .i64 a0] (by rfl) rfl rfl (by (try simp only [List.map_toArray,List.map_cons,List.map_nil]);first|done|rfl|(simp only [List.length_drop,List.length_take];rfl)) ?_
              with_reducible refine (slices_Repeat_int64_int64.calls _ _ y224 a0 t227 _ ?side1 ?side2 A8.out).mono ?_
              (case side1=>repeat (first|exact (Kd.R_reads' HO226.out).2.2|(with_reducible refine Kd.C_alloc ?_ _)|(with_reducible refine Kd.C_drewN ?_ _)|(with_reducible refine Kd.C_drew ?_)))
              (case side2 => exact (Kd.R_reads' HO226.out).2.1)
              rintro e w18 ⟨v228, rfl, ho0, hb⟩
              refine ⟨_, rfl, ?_⟩
              have n0_:=mk14_ (Kd.R_below (by (with_reducible repeat (first|apply rA14_|apply Kd.R_drewN|apply rD14_));exact HO232.out) hb)
              have n1_:=mk14_ (Kd.R_elder' (by (with_reducible repeat (first|apply rA14_|apply Kd.R_drewN|apply rD14_));exact HO226.out) (Kd.R_base ho0) hb)
              have n2_:=mk14_ (Kd.R_lower (Kd.R_new' ho0 (Kd.R_lt (by (with_reducible repeat (first|apply rA14_|apply Kd.R_drewN|apply rD14_));exact HO226.out))) (bZ14_ (by repeat (first|(with_reducible first|exact HB.out|apply bA14_|apply bN14_|apply bD14_|refine bS14_ ?_ GE221.out)|exact HB.out))))
              have n3_:=mk14_ (blk_below (g:=gb221) (o:=.cells #[.int .i64 0,.int .i64 0,.slice none 0 0,.slice none 0 0] 41 (0,0)) (by (with_reducible repeat (first|refine kN14_ ?_ _|refine kD14_ ?_|refine kA14_ ?_ _));exact BK221.out) hb)
              have n4_:=mk14_ (bT14_ (by repeat (first|(with_reducible first|exact HB.out|apply bA14_|apply bN14_|apply bD14_|refine bS14_ ?_ GE221.out)|exact HB.out)) hb)
              clear HO232
              clear HO226
              clear BK221
              clear HB
              have HO232 := n0_
              have HO226 := n1_
              have HO229 := n2_
              have BK221 := n3_
              have HB := n4_
              clear n0_ n1_ n2_ n3_ n4_
              (try clear hb)
              (try clear hb2)
              (try clear hk)
              (try clear hi)
              (try clear ho0)
              obtain ⟨Ao19, co19, eo19⟩ := Kd.R_slice HO232.out
              (first|subst eo19|(injection eo19 with f1_ f2_ f3_;have f4_:=f1_.symm;have f5_:=f3_.symm;clear f1_ f2_ f3_;subst f4_;subst f5_))
              obtain ⟨Ao20, co20, eo20⟩ := Kd.R_slice HO229.out
              (first|subst eo20|(injection eo20 with f1_ f2_ f3_;have f4_:=f1_.symm;have f5_:=f3_.symm;clear f1_ f2_ f3_;subst f4_;subst f5_))
              refine hK.out _ _ trivial (fun hHeld => ?_)
              clear hK K
              refine norm_ (a' := ?_) ?_ ?_
              rotate_left
              · show Act.put _ (some 22) _ = _
                simp only [Act.put,List.setIfInBounds_toArray,List.set_cons_zero,List.set_cons_succ,i64_w,i32_w]
                rfl
              exact norm_ (by simp only [putAll,Act.put,List.setIfInBounds_toArray,List.set_cons_zero,List.set_cons_succ]) (hCont (.slice Ao17 y224.length co17,.slice Ao20 t227.length co20,.slice Ao19 y230.length co19) _ ⟨(by (with_reducible repeat (first|apply rA14_|apply Kd.R_drewN|apply rD14_));exact Kd.R_mono HO226.out (fun _ hk=>hk.2)),(by (with_reducible repeat (first|apply rA14_|apply Kd.R_drewN|apply rD14_));exact Kd.R_mono HO229.out (fun _ hk=>hk.2)),(by (with_reducible repeat (first|apply rA14_|apply Kd.R_drewN|apply rD14_));exact HO232.out),(by (with_reducible repeat (first|refine kN14_ ?_ _|refine kD14_ ?_|refine kA14_ ?_ _));exact BK221.out),(by repeat (first|(with_reducible first|exact HB.out|apply bA14_|apply bN14_|apply bD14_|refine bS14_ ?_ GE221.out)|exact HB.out))⟩)
          rintro ⟨v225, v228, v231⟩ w21 ⟨h0_, h1_, h2_, h3_, h4_⟩
          have n0_:Aside0 (Kd.R (Kd.int .i64) 2 w21 w.heap.size (fun k_=>some k_≠(v228:Value).ownBlock) v225 y224):=⟨h0_⟩
          have n1_:Aside0 (Kd.R (Kd.int .i64) 2 w21 w.heap.size (fun k_=>some k_≠(v225:Value).ownBlock) v228 t227):=⟨h1_⟩
          have n2_ : Aside0 (Kd.R Kd.bool 4 w21 w.heap.size (fun _ => True) v231 y230) := ⟨h2_⟩
          have n3_:Aside0 (w21.heap[gb221]?=some (.cells #[.int .i64 0,.int .i64 0,.slice none 0 0,.slice none 0 0] 41 (0,0))):=⟨h3_⟩
          have n4_ : Aside0 (Below w.heap.size w w21) := ⟨h4_⟩
          clear BK221
          clear HB
          clear h0_ h1_ h2_ h3_ h4_
          have HO226 := n0_
          have HO229 := n1_
          have HO232 := n2_
          have BK221 := n3_
          have HB := n4_
          clear n0_ n1_ n2_ n3_ n4_
          have hHeld := trivial
          obtain ⟨Ao22, co22, eo22⟩ := Kd.R_slice HO232.out
          (first|subst eo22|(injection eo22 with f1_ f2_ f3_;have f4_:=f1_.symm;have f5_:=f3_.symm;clear f1_ f2_ f3_;subst f4_;subst f5_))
          obtain ⟨Ao23, co23, eo23⟩ := Kd.R_slice HO229.out
          (first|subst eo23|(injection eo23 with f1_ f2_ f3_;have f4_:=f1_.symm;have f5_:=f3_.symm;clear f1_ f2_ f3_;subst f4_;subst f5_))
          refine norm_ (a' := ?_) ?_ ?_
          rotate_left
          · simp only [putAll,Act.put,List.setIfInBounds_toArray,List.set_cons_zero,List.set_cons_succ]
            rfl
          refine pure_ (i:=7) (N:=some 25) (v:=?_) (a':=?_) #[true,true,true,true,true,true,true,true,false,false] rfl rfl (any_of HT_.out (by kernel_rfl)) (fun _ _ _ h=>h) (Or.inl ⟨by rfl,?_⟩) ?_ ?_
          rotate_left
          · intro w'
            go_simp
            with_reducible rfl
          rotate_left
          · simp only [Act.put,List.setIfInBounds_toArray,List.set_cons_zero,List.set_cons_succ,i64_w,i32_w]
            rfl
          refine one_ (i:=8) (N:=none) #[true,true,true,true,true,true,true,true,true,false] rfl rfl (one_of HT_.out (by kernel_rfl)) (by decide) (fun K hK=>?_)
          have hs24:w21.cell? ⟨gb221,0,none⟩=some (.int .i64 0):=(blk_cell BK221.out 0).trans rfl
          have hfs24 := blk_frozen BK221.out 0
          have hs25:w21.cell? ⟨gb221,1,none⟩=some (.int .i64 0):=(blk_cell BK221.out 1).trans rfl
          have hfs25 := blk_frozen BK221.out 1
          have hs26:w21.cell? ⟨gb221,2,none⟩=some (.slice none 0 0):=(blk_cell BK221.out 2).trans rfl
          have hfs26 := blk_frozen BK221.out 2
          have hs27:w21.cell? ⟨gb221,3,none⟩=some (.slice none 0 0):=(blk_cell BK221.out 3).trans rfl
          have hfs27 := blk_frozen BK221.out 3
          refine skip_ (w1 := ?_) (by rfl) rfl ?_ ?_
          rotate_left
          · go_simp
            rfl
          refine hK.out _ _ trivial (fun hHeld => ?_)
          clear hK K
          refine pure_ (i:=9) (N:=some 7) (v:=?_) (a':=?_) #[true,true,true,true,true,true,true,true,true,true] rfl rfl (any_of HT_.out (by kernel_rfl)) (fun _ _ _ h=>h) (Or.inl ⟨by rfl,?_⟩) ?_ ?_
          rotate_left
          · intro w'
            go_simp
            with_reducible rfl
          rotate_left
          · simp only [Act.put,List.setIfInBounds_toArray,List.set_cons_zero,List.set_cons_succ,i64_w,i32_w]
            rfl
          refine done_ (done_of HT_.out (by kernel_rfl)) ?_
          try go_wp2
          refine bodyPost_ret (results_ct rfl _ _ gb221 41 #[.int .i64 a1,.int .i64 a2,.slice Ao23 t227.length co23,.slice Ao22 y230.length co22] (0,0) _ rfl (by (with_reducible repeat (first|refine kN14_ ?_ _|refine kD14_ ?_|refine kA14_ ?_ _));refine blk_put (cs:=#[.int .i64 a1,.int .i64 a2,.slice Ao23 t227.length co23,.slice none 0 0]) ?_ 3 _ rfl;(with_reducible repeat (first|refine kN14_ ?_ _|refine kD14_ ?_|refine kA14_ ?_ _));refine blk_put (cs:=#[.int .i64 a1,.int .i64 a2,.slice none 0 0,.slice none 0 0]) ?_ 2 _ rfl;(with_reducible repeat (first|refine kN14_ ?_ _|refine kD14_ ?_|refine kA14_ ?_ _));refine blk_put (cs:=#[.int .i64 a1,.int .i64 0,.slice none 0 0,.slice none 0 0]) ?_ 1 _ rfl;(with_reducible repeat (first|refine kN14_ ?_ _|refine kD14_ ?_|refine kA14_ ?_ _));refine blk_put (cs:=#[.int .i64 0,.int .i64 0,.slice none 0 0,.slice none 0 0]) ?_ 0 _ rfl;(with_reducible repeat (first|refine kN14_ ?_ _|refine kD14_ ?_|refine kA14_ ?_ _));exact BK221.out) Try.underlying41 rfl (by kernel_rfl)) rfl ?_
          exact ⟨_,_,by first|rfl|(simp [errW_none,errW_some] <;> rfl)|(simp [*,errW_none,errW_some] <;> rfl),by (with_reducible repeat (first|apply rA14_|apply Kd.R_drewN|apply rD14_));exact Kd.R_mono (Kd.R_far (p:=⟨gb221,3,none⟩) (Kd.R_far (p:=⟨gb221,2,none⟩) (Kd.R_far (p:=⟨gb221,1,none⟩) (Kd.R_far (p:=⟨gb221,0,none⟩) (Kd.R_types HO229.out BK221.out (by decide)) (fun _ hk=>hk.2) (.int .i64 a1)) (fun _ hk=>hk.2) (.int .i64 a2)) (fun _ hk=>hk.2) (.slice Ao23 t227.length co23)) (fun _ hk=>hk.2) (.slice Ao22 y230.length co22)) (fun _ hk=>trivial),by (with_reducible repeat (first|apply rA14_|apply Kd.R_drewN|apply rD14_));exact Kd.R_mono (Kd.R_far (p:=⟨gb221,3,none⟩) (Kd.R_far (p:=⟨gb221,2,none⟩) (Kd.R_far (p:=⟨gb221,1,none⟩) (Kd.R_far (p:=⟨gb221,0,none⟩) (Kd.R_types HO232.out BK221.out (by decide)) (fun _ hk=>hk.2) (.int .i64 a1)) (fun _ hk=>hk.2) (.int .i64 a2)) (fun _ hk=>hk.2) (.slice Ao23 t227.length co23)) (fun _ hk=>hk.2) (.slice Ao22 y230.length co22)) (fun _ hk=>trivial),by repeat (first|(with_reducible first|exact HB.out|apply bA14_|apply bN14_|apply bD14_|refine bS14_ ?_ GE221.out)|exact HB.out)⟩
        · rw [if_neg c10] at H
          exact absurd H (by simp)
      · rw [if_neg c9] at H
        exact absurd H (by simp)
    · replace c7 := Bool.eq_false_iff.mpr c7
      subst c7
      have H1:(some (0,0,([]:List Int),([]:List Bool),false))=some (r1,r2,r3,r4,r5):=by rw [if_neg (show ¬ (false=true) by decide)] at H;exact H
      clear H
      have H := H1
      clear H1
      simp only [Option.some.injEq, Prod.mk.injEq] at H
      obtain ⟨rfl, rfl, rfl, rfl, rfl⟩ := H
      go_enter Try.func175, Try.ntmps175
      go_wp2_with (first|((with_reducible refine gate_dst (N:=6) rfl ?_);refine box_event ?hg (N:=6) ?hd (cs:=#[.int .i64 0,.int .i64 0,.slice none 0 0,.slice none 0 0]) (t:=41) ?hr ?_;(case hd=>rfl);(case hg=>rfl);(case hr=>first|(go_simp;done)|(go_simp;rfl));intro gb221 hg w28 hbox hb;have n0_:=mk14_ (bT14_ (by repeat (first|(with_reducible first|exact HB.out|apply bA14_|apply bN14_|apply bD14_)|exact HB.out)) hb);have n1_:=mk14_ (hbox);have n2_:=mk14_ ((by rw [hg];exact (bZ14_ (by repeat (first|(with_reducible first|exact HB.out|apply bA14_|apply bN14_|apply bD14_)|exact HB.out))):w.heap.size≤gb221));have n3_:=mk14_ ((by rw [hg];exact (bZ14_ (by repeat (first|(with_reducible first|exact HB.out|apply bA14_|apply bN14_|apply bD14_)|exact HB.out))):w.heap.size≤gb221));clear HB;have HB:=n0_;have BK221:=n1_;have GW221:=n2_;have GE221:=n3_;clear n0_ n1_ n2_ n3_;clear hb hbox hg)|((with_reducible refine gate_callee (f:=92) rfl ?_);refine goesL_ (some 9) rfl rfl Try.func92 (by kernel_rfl) rfl #[.int .i64 a0,.int .i64 1,.int .i64 48] rfl (by (try simp only [List.map_toArray,List.map_cons,List.map_nil]);first|done|rfl|(simp only [List.length_drop,List.length_take];rfl)) ?_;(with_reducible refine (impl_within.calls a0 1 48 true _ A4.out).mono ?_);rintro e w' ⟨rfl,⟨nd,rfl⟩⟩;refine ⟨_,rfl,?_⟩;(try (rw [drewN_self w28];generalize hq_:World.drewN w28 _=w28;have n0_:Aside0 (w28.heap[gb221]?=some (.cells #[.int .i64 0,.int .i64 0,.slice none 0 0,.slice none 0 0] 41 (0,0))):=⟨by rw [← hq_];exact (by (with_reducible repeat (first|refine kN14_ ?_ _|refine kD14_ ?_|refine kA14_ ?_ _));exact BK221.out)⟩;have n1_:Aside0 (Below w.heap.size w w28):=⟨by rw [← hq_];exact (by repeat (first|(with_reducible first|exact HB.out|apply bA14_|apply bN14_|apply bD14_|refine bS14_ ?_ GE221.out)|exact HB.out))⟩;clear BK221 HB hq_;have BK221:=n0_;have HB:=n1_;clear n0_ n1_)))|(go_at_call 178;(with_reducible refine (impl_sizeOk.calls a1 a2 false _ A6.out).mono ?_);rintro e w' ⟨rfl,⟨nd,rfl⟩⟩;(try (rw [drewN_self w28];generalize hq_:World.drewN w28 _=w28;have n0_:Aside0 (w28.heap[gb221]?=some (.cells #[.int .i64 0,.int .i64 0,.slice none 0 0,.slice none 0 0] 41 (0,0))):=⟨by rw [← hq_];exact (by (with_reducible repeat (first|refine kN14_ ?_ _|refine kD14_ ?_|refine kA14_ ?_ _));exact BK221.out)⟩;have n1_:Aside0 (Below w.heap.size w w28):=⟨by rw [← hq_];exact (by repeat (first|(with_reducible first|exact HB.out|apply bA14_|apply bN14_|apply bD14_|refine bS14_ ?_ GE221.out)|exact HB.out))⟩;clear BK221 HB hq_;have BK221:=n0_;have HB:=n1_;clear n0_ n1_));have hcz29_0:w28.cell? ⟨gb221,0,none⟩=some (.int .i64 0):=(blk_cell BK221.out 0).trans rfl;have hcz29_1:w28.cell? ⟨gb221,1,none⟩=some (.int .i64 0):=(blk_cell BK221.out 1).trans rfl;have hcz29_2:w28.cell? ⟨gb221,2,none⟩=some (.slice none 0 0):=(blk_cell BK221.out 2).trans rfl;have hcz29_3:w28.cell? ⟨gb221,3,none⟩=some (.slice none 0 0):=(blk_cell BK221.out 3).trans rfl;have hfz29_0:=fZ14_ BK221.out 0;have hfz29_1:=fZ14_ BK221.out 1;have hfz29_2:=fZ14_ BK221.out 2;have hfz29_3:=fZ14_ BK221.out 3))
      refine bodyPost_ret (results_ct rfl _ _ gb221 41 #[.int .i64 0,.int .i64 0,.slice none 0 0,.slice none 0 0] (0,0) _ rfl (by (with_reducible repeat (first|refine kN14_ ?_ _|refine kD14_ ?_|refine kA14_ ?_ _));refine blk_put (cs:=#[.int .i64 0,.int .i64 0,.slice none 0 0,.slice none 0 0]) ?_ 3 _ rfl;(with_reducible repeat (first|refine kN14_ ?_ _|refine kD14_ ?_|refine kA14_ ?_ _));refine blk_put (cs:=#[.int .i64 0,.int .i64 0,.slice none 0 0,.slice none 0 0]) ?_ 2 _ rfl;(with_reducible repeat (first|refine kN14_ ?_ _|refine kD14_ ?_|refine kA14_ ?_ _));refine blk_put (cs:=#[.int .i64 0,.int .i64 0,.slice none 0 0,.slice none 0 0]) ?_ 1 _ rfl;(with_reducible repeat (first|refine kN14_ ?_ _|refine kD14_ ?_|refine kA14_ ?_ _));refine blk_put (cs:=#[.int .i64 0,.int .i64 0,.slice none 0 0,.slice none 0 0]) ?_ 0 _ rfl;(with_reducible repeat (first|refine kN14_ ?_ _|refine kD14_ ?_|refine kA14_ ?_ _));exact BK221.out) Try.underlying41 rfl (by kernel_rfl)) rfl ?_
      exact ⟨_,_,by first|rfl|(simp [errW_none,errW_some] <;> rfl)|(simp [*,errW_none,errW_some] <;> rfl),by first|exact Kd.R_nil _ _ _ _ _|exact Kd.N_nil _ _ _ _ _|exact Kd.V_nil _ _ _ _ _|exact Kd.Q_nil _ _ _ _ _|exact Kd.S_nil _ _ _ _ _,by first|exact Kd.R_nil _ _ _ _ _|exact Kd.N_nil _ _ _ _ _|exact Kd.V_nil _ _ _ _ _|exact Kd.Q_nil _ _ _ _ _|exact Kd.S_nil _ _ _ _ _,by repeat (first|(with_reducible first|exact HB.out|apply bA14_|apply bN14_|apply bD14_|refine bS14_ ?_ GE221.out)|exact HB.out)⟩
  · replace c5 := Bool.eq_false_iff.mpr c5
    subst c5
    have H1:(some (0,0,([]:List Int),([]:List Bool),false))=some (r1,r2,r3,r4,r5):=by rw [if_neg (show ¬ (false=true) by decide)] at H;exact H
    clear H
    have H := H1
    clear H1
    simp only [Option.some.injEq, Prod.mk.injEq] at H
    obtain ⟨rfl, rfl, rfl, rfl, rfl⟩ := H
    go_enter Try.func175, Try.ntmps175
    go_wp2_with (first|((with_reducible refine gate_dst (N:=6) rfl ?_);refine box_event ?hg (N:=6) ?hd (cs:=#[.int .i64 0,.int .i64 0,.slice none 0 0,.slice none 0 0]) (t:=41) ?hr ?_;(case hd=>rfl);(case hg=>rfl);(case hr=>first|(go_simp;done)|(go_simp;rfl));intro gb221 hg w30 hbox hb;have n0_:=mk14_ (bT14_ (by repeat (first|(with_reducible first|exact HB.out|apply bA14_|apply bN14_|apply bD14_)|exact HB.out)) hb);have n1_:=mk14_ (hbox);have n2_:=mk14_ ((by rw [hg];exact (bZ14_ (by repeat (first|(with_reducible first|exact HB.out|apply bA14_|apply bN14_|apply bD14_)|exact HB.out))):w.heap.size≤gb221));have n3_:=mk14_ ((by rw [hg];exact (bZ14_ (by repeat (first|(with_reducible first|exact HB.out|apply bA14_|apply bN14_|apply bD14_)|exact HB.out))):w.heap.size≤gb221));clear HB;have HB:=n0_;have BK221:=n1_;have GW221:=n2_;have GE221:=n3_;clear n0_ n1_ n2_ n3_;clear hb hbox hg)|((with_reducible refine gate_callee (f:=92) rfl ?_);refine goesL_ (some 9) rfl rfl Try.func92 (by kernel_rfl) rfl #[.int .i64 a0,.int .i64 1,.int .i64 48] rfl (by (try simp only [List.map_toArray,List.map_cons,List.map_nil]);first|done|rfl|(simp only [List.length_drop,List.length_take];rfl)) ?_;(with_reducible refine (impl_within.calls a0 1 48 false _ A4.out).mono ?_);rintro e w' ⟨rfl,⟨nd,rfl⟩⟩;refine ⟨_,rfl,?_⟩;(try (rw [drewN_self w30];generalize hq_:World.drewN w30 _=w30;have n0_:Aside0 (w30.heap[gb221]?=some (.cells #[.int .i64 0,.int .i64 0,.slice none 0 0,.slice none 0 0] 41 (0,0))):=⟨by rw [← hq_];exact (by (with_reducible repeat (first|refine kN14_ ?_ _|refine kD14_ ?_|refine kA14_ ?_ _));exact BK221.out)⟩;have n1_:Aside0 (Below w.heap.size w w30):=⟨by rw [← hq_];exact (by repeat (first|(with_reducible first|exact HB.out|apply bA14_|apply bN14_|apply bD14_|refine bS14_ ?_ GE221.out)|exact HB.out))⟩;clear BK221 HB hq_;have BK221:=n0_;have HB:=n1_;clear n0_ n1_));have hcz31_0:w30.cell? ⟨gb221,0,none⟩=some (.int .i64 0):=(blk_cell BK221.out 0).trans rfl;have hcz31_1:w30.cell? ⟨gb221,1,none⟩=some (.int .i64 0):=(blk_cell BK221.out 1).trans rfl;have hcz31_2:w30.cell? ⟨gb221,2,none⟩=some (.slice none 0 0):=(blk_cell BK221.out 2).trans rfl;have hcz31_3:w30.cell? ⟨gb221,3,none⟩=some (.slice none 0 0):=(blk_cell BK221.out 3).trans rfl;have hfz31_0:=fZ14_ BK221.out 0;have hfz31_1:=fZ14_ BK221.out 1;have hfz31_2:=fZ14_ BK221.out 2;have hfz31_3:=fZ14_ BK221.out 3))
    refine bodyPost_ret (results_ct rfl _ _ gb221 41 #[.int .i64 0,.int .i64 0,.slice none 0 0,.slice none 0 0] (0,0) _ rfl (by (with_reducible repeat (first|refine kN14_ ?_ _|refine kD14_ ?_|refine kA14_ ?_ _));refine blk_put (cs:=#[.int .i64 0,.int .i64 0,.slice none 0 0,.slice none 0 0]) ?_ 3 _ rfl;(with_reducible repeat (first|refine kN14_ ?_ _|refine kD14_ ?_|refine kA14_ ?_ _));refine blk_put (cs:=#[.int .i64 0,.int .i64 0,.slice none 0 0,.slice none 0 0]) ?_ 2 _ rfl;(with_reducible repeat (first|refine kN14_ ?_ _|refine kD14_ ?_|refine kA14_ ?_ _));refine blk_put (cs:=#[.int .i64 0,.int .i64 0,.slice none 0 0,.slice none 0 0]) ?_ 1 _ rfl;(with_reducible repeat (first|refine kN14_ ?_ _|refine kD14_ ?_|refine kA14_ ?_ _));refine blk_put (cs:=#[.int .i64 0,.int .i64 0,.slice none 0 0,.slice none 0 0]) ?_ 0 _ rfl;(with_reducible repeat (first|refine kN14_ ?_ _|refine kD14_ ?_|refine kA14_ ?_ _));exact BK221.out) Try.underlying41 rfl (by kernel_rfl)) rfl ?_
    exact ⟨_,_,by first|rfl|(simp [errW_none,errW_some] <;> rfl)|(simp [*,errW_none,errW_some] <;> rfl),by first|exact Kd.R_nil _ _ _ _ _|exact Kd.N_nil _ _ _ _ _|exact Kd.V_nil _ _ _ _ _|exact Kd.Q_nil _ _ _ _ _|exact Kd.S_nil _ _ _ _ _,by first|exact Kd.R_nil _ _ _ _ _|exact Kd.N_nil _ _ _ _ _|exact Kd.V_nil _ _ _ _ _|exact Kd.Q_nil _ _ _ _ _|exact Kd.S_nil _ _ _ _ _,by repeat (first|(with_reducible first|exact HB.out|apply bA14_|apply bN14_|apply bD14_|refine bS14_ ?_ GE221.out)|exact HB.out)⟩

end Go.Proofs.Ytaecdlhomihejaa.Q
