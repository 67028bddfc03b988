/- The program's ValidFTL: the walks over the known answers of its calls,second part. Conditions: those before each theorem. -/
import Derived.Test.YtajocpalpnpmdaaXFtlCoreA
namespace Go.Proofs.Ytajocpalpnpmdaa.Q
open Go.RowKit Go.Proofs.YtajocpalpnpmdaaW.PrintWords Go.Proofs.YtajocpalpnpmdaaW.PrintMore Go.Proofs.YtajocpalpnpmdaaW.PrintLast
abbrev lSXFtlCoreB_ := @List.setIfInBounds_toArray
abbrev lZXFtlCoreB_ := @List.set_cons_zero
abbrev lCXFtlCoreB_ := @List.set_cons_succ
abbrev mAXFtlCoreB_ := @List.map_toArray
set_option linter.unusedVariables false
set_option linter.unusedSimpArgs false
set_option maxHeartbeats 16000000 in
set_option maxRecDepth 100000 in
theorem ftlI_on (d b p:Int) (A3:Option Addr) (n3 c3:Nat) (u v:Int) (o:Bool) (z mb mp:Int) (A10:Option Addr) (n10 c10:Nat) (A11:Option Addr) (n11 c11:Nat) (A12:Option Addr) (n12 c12:Nat) (hn sq:Int) (A15:Option Addr) (n15 c15:Nat) (A16:Option Addr) (n16 c16:Nat) (bd po:Int) (bP:Bool) (bH bL bS bO bN bX r:Bool) (w:World)
  (hF:∀ W,Below w.heap.size w W→Calls Try.prog 25 #[.agg #[.int .i64 d,.int .i64 b,.int .i64 p,.slice A3 n3 c3,.int .i64 u,.int .i64 v,.bool o,.int .i64 z]] W fun e w'=>e=.returned (.bool true)∧Below W.heap.size W w')
  (hM:∀ W,Below w.heap.size w W→Calls Try.prog 26 #[.agg #[.int .i64 mb,.int .i64 mp,.slice A10 n10 c10,.slice A11 n11 c11]] W fun e w'=>e=.returned (.bool true)∧Below W.heap.size W w')
  (hA:∀ W,Calls Try.prog 27 #[.agg #[.int .i64 d,.int .i64 b,.int .i64 p]] W fun e w'=>e=.returned (.int .i64 (wrap64 (d * b)))∧Below W.heap.size W w')
  (hH:∀ W,Below w.heap.size w W→Calls Try.prog 28 #[.agg #[.slice A12 n12 c12,.int .i64 hn]] W fun e w'=>e=.returned (.bool bH)∧Below W.heap.size W w')
  (hS:∀ W,Calls Try.prog 29 #[.int .i64 sq,.int .i64 1,.int .i64 1000001] W fun e w'=>e=.returned (.bool bS)∧Below W.heap.size W w')
  (hO:∀ W,Below w.heap.size w W→Calls Try.prog 30 #[.agg #[.int .i64 d,.int .i64 b,.int .i64 p,.slice A3 n3 c3,.int .i64 u,.int .i64 v,.bool o,.int .i64 z,.int .i64 mb,.int .i64 mp,.slice A10 n10 c10,.slice A11 n11 c11,.slice A12 n12 c12,.int .i64 hn,.int .i64 sq,.slice A15 n15 c15,.slice A16 n16 c16,.int .i64 bd,.int .i64 po]] W fun e w'=>e=.returned (.bool bO)∧Below W.heap.size W w')
  (hX:∀ W,Below w.heap.size w W→Calls Try.prog 31 #[.slice A16 n16 c16,.int .i64 0,.int .i64 1000000] W fun e w'=>e=.returned (.bool bX)∧Below W.heap.size W w')
  (hP:∀ W,Calls Try.prog 32 #[.int .i64 bd,.int .i64 po] W fun e w'=>e=.returned (.bool bP)∧Below W.heap.size W w')
  (qE : (mb == wrap64 (d * b)) = true)
  (qQ : (mp == p) = true)
  (qL : ((n12 : Int) == (n10 : Int)) = bL)
  (qN : ((n16 : Int) == wrap64 (d * b)) = bN)
  (hr : (bH && (bL && (bS && (bO && (bN && (bX && bP)))))) = r) :
  Calls Try.prog 8 #[.agg #[.int .i64 d,.int .i64 b,.int .i64 p,.slice A3 n3 c3,.int .i64 u,.int .i64 v,.bool o,.int .i64 z,.int .i64 mb,.int .i64 mp,.slice A10 n10 c10,.slice A11 n11 c11,.slice A12 n12 c12,.int .i64 hn,.int .i64 sq,.slice A15 n15 c15,.slice A16 n16 c16,.int .i64 bd,.int .i64 po]] w fun e w'=>e=.returned (.bool (r))∧Below w.heap.size w w':=by
 have HF := Aside0.mk hF
 have HM := Aside0.mk hM
 have HA := Aside0.mk hA
 have HH := Aside0.mk hH
 have HIS := Aside0.mk hS
 have HO := Aside0.mk hO
 have HX := Aside0.mk hX
 have HP := Aside0.mk hP
 have KQ:=Aside0.mk (And.intro qE (And.intro qQ (And.intro qL qN)))
 clear hF hM hA hH hS hO hX hP qE qQ qL qN
 generalize hnn : wrap64 (d * b) = nn at HA KQ
 clear hnn
 go_enter Try.func8, Try.ntmps8
 go_upto_region 1 with (first|((with_reducible refine gate_dst (N:=1) rfl ?_);(try (refine gate_guard (by rfl) ?_;dsimp only));refine box_event ?hg (N:=1) ?hd (cs:=#[.int .i64 d,.int .i64 b,.int .i64 p,.slice A3 n3 c3,.int .i64 u,.int .i64 v,.bool o,.int .i64 z,.int .i64 mb,.int .i64 mp,.slice A10 n10 c10,.slice A11 n11 c11,.slice A12 n12 c12,.int .i64 hn,.int .i64 sq,.slice A15 n15 c15,.slice A16 n16 c16,.int .i64 bd,.int .i64 po]) (t:=44) ?hr ?_;(case hd=>rfl);(case hg=>rfl);(case hr=>first|(go_simp;done)|(go_simp;rfl));intro gb hg W1 hbox hb;have HT:Aside0 (∀ W,Below W1.heap.size W1 W→Below w.heap.size w W):=⟨fun W h=>hb.trans (h.mono hb.size)⟩;have BK:=Aside0.mk hbox;have LG:=Aside0.mk (blk_lt hbox);clear hb hbox hg))
 (try simp only [Act.put,lSXFtlCoreB_,lZXFtlCoreB_,lCXFtlCoreB_])
 have HS1:Aside0 (∀ w',Below W1.heap.size W1 w'→(w'.cell? ⟨gb,0,none⟩=some (.int .i64 d)∧w'.cell? ⟨gb,1,none⟩=some (.int .i64 b)∧w'.cell? ⟨gb,2,none⟩=some (.int .i64 p)∧w'.cell? ⟨gb,3,none⟩=some (.slice A3 n3 c3)∧w'.cell? ⟨gb,4,none⟩=some (.int .i64 u)∧w'.cell? ⟨gb,5,none⟩=some (.int .i64 v)∧w'.cell? ⟨gb,6,none⟩=some (.bool o)∧w'.cell? ⟨gb,7,none⟩=some (.int .i64 z)∧w'.cell? ⟨gb,8,none⟩=some (.int .i64 mb)∧w'.cell? ⟨gb,9,none⟩=some (.int .i64 mp)∧w'.cell? ⟨gb,10,none⟩=some (.slice A10 n10 c10)∧w'.cell? ⟨gb,11,none⟩=some (.slice A11 n11 c11))):=⟨fun w' hb=>⟨(hb.cell LG.out).trans ((blk_cell BK.out 0).trans rfl),(hb.cell LG.out).trans ((blk_cell BK.out 1).trans rfl),(hb.cell LG.out).trans ((blk_cell BK.out 2).trans rfl),(hb.cell LG.out).trans ((blk_cell BK.out 3).trans rfl),(hb.cell LG.out).trans ((blk_cell BK.out 4).trans rfl),(hb.cell LG.out).trans ((blk_cell BK.out 5).trans rfl),(hb.cell LG.out).trans ((blk_cell BK.out 6).trans rfl),(hb.cell LG.out).trans ((blk_cell BK.out 7).trans rfl),(hb.cell LG.out).trans ((blk_cell BK.out 8).trans rfl),(hb.cell LG.out).trans ((blk_cell BK.out 9).trans rfl),(hb.cell LG.out).trans ((blk_cell BK.out 10).trans rfl),(hb.cell LG.out).trans ((blk_cell BK.out 11).trans rfl)⟩⟩
 have HS3:Aside0 (∀ w',Below W1.heap.size W1 w'→vS3 gb d b p A3 n3 c3 u v o z mb mp A10 n10 c10 A11 n11 c11 A12 n12 c12 hn sq A15 n15 c15 A16 n16 c16 bd po w'):=⟨fun w' hb=>⟨blk_below BK.out hb,(hb.cell LG.out).trans ((blk_cell BK.out 0).trans rfl),(hb.cell LG.out).trans ((blk_cell BK.out 1).trans rfl),(hb.cell LG.out).trans ((blk_cell BK.out 2).trans rfl),(hb.cell LG.out).trans ((blk_cell BK.out 3).trans rfl),(hb.cell LG.out).trans ((blk_cell BK.out 4).trans rfl),(hb.cell LG.out).trans ((blk_cell BK.out 5).trans rfl),(hb.cell LG.out).trans ((blk_cell BK.out 6).trans rfl),(hb.cell LG.out).trans ((blk_cell BK.out 7).trans rfl),(hb.cell LG.out).trans ((blk_cell BK.out 8).trans rfl),(hb.cell LG.out).trans ((blk_cell BK.out 9).trans rfl),(hb.cell LG.out).trans ((blk_cell BK.out 10).trans rfl),(hb.cell LG.out).trans ((blk_cell BK.out 11).trans rfl),(hb.cell LG.out).trans ((blk_cell BK.out 12).trans rfl),(hb.cell LG.out).trans ((blk_cell BK.out 13).trans rfl),(hb.cell LG.out).trans ((blk_cell BK.out 14).trans rfl),(hb.cell LG.out).trans ((blk_cell BK.out 15).trans rfl),(hb.cell LG.out).trans ((blk_cell BK.out 16).trans rfl),(hb.cell LG.out).trans ((blk_cell BK.out 17).trans rfl),(hb.cell LG.out).trans ((blk_cell BK.out 18).trans rfl)⟩⟩
 have HB := Aside0.mk (Below.refl W1.heap.size W1)
 clear BK LG
 obtain ⟨qE, qQ, qL, qN⟩ := KQ.out
 clear qL qN
 have qE1 : (mb == nn) = true := qE
 have qE2 : (mb != nn) = false := by rw [bne, qE]; rfl
 have qQ1 : (mp == p) = true := qQ
 have qQ2 : (mp != p) = false := by rw [bne, qQ]; rfl
 have n0_ := Aside0.mk (below_drew1 HB.out)
 clear HB
 have HB := n0_
 clear n0_
 refine start_ (n:=30) (S:=fun w'=>w'.cell? ⟨gb,0,none⟩=some (.int .i64 d)∧w'.cell? ⟨gb,1,none⟩=some (.int .i64 b)∧w'.cell? ⟨gb,2,none⟩=some (.int .i64 p)∧w'.cell? ⟨gb,3,none⟩=some (.slice A3 n3 c3)∧w'.cell? ⟨gb,4,none⟩=some (.int .i64 u)∧w'.cell? ⟨gb,5,none⟩=some (.int .i64 v)∧w'.cell? ⟨gb,6,none⟩=some (.bool o)∧w'.cell? ⟨gb,7,none⟩=some (.int .i64 z)∧w'.cell? ⟨gb,8,none⟩=some (.int .i64 mb)∧w'.cell? ⟨gb,9,none⟩=some (.int .i64 mp)∧w'.cell? ⟨gb,10,none⟩=some (.slice A10 n10 c10)∧w'.cell? ⟨gb,11,none⟩=some (.slice A11 n11 c11)) (ds:=[]) #[false,false,false,false,false,false,false,false,false,false,false,false,false,false,false,false,false,false,false,false,false,false,false,false,false,false,false,false,false,false] (by kernel_rfl) rfl rfl (HS1.out _ HB.out) (fun hHeld=>?_)
 refine with_tabW vftlr1.tab vftlr1.bits (fun HT_ HW_ => ?_)
 generalize World.drew _ = W5 at HB hHeld ⊢
 refine ord_ [(1, 0, some 3), (2, 1, some 4)] ?_
 repeat (first|(refine Ord.pureL (v:=?_) (l':=?_) (t':=?_) rfl rfl (fun _ _ _ h=>h) (by kernel_rfl) ?_ ?_ ?_ ?_ ?_;rotate_left 3;dsimp only [s0,s1];rfl;exact any_of HT_.out (by kernel_rfl);intro w';go_simp;(try simp only [i64_w]);with_reducible rfl;dsimp only [s0,s1];rfl)|(refine Ord.takeL (v:=?_) (l':=?_) (t':=?_) rfl rfl (fun _ _ _ h=>h) hHeld (by kernel_rfl) ?_ ?_ ?_ ?_ ?_;rotate_left 3;dsimp only [s0,s1];rfl;exact take_ofW HT_.out HW_.out (by kernel_rfl);rintro w' ⟨s0,s1,s2,s3,s4,s5,s6,s7,s8,s9,s10,s11⟩;go_simp;with_reducible rfl;dsimp only [s0,s1];rfl))
 refine Ord.nil ?_
 refine one_ (i:=2) (N:=some 5) #[true,true,true,false,false,false,false,false,false,false,false,false,false,false,false,false,false,false,false,false,false,false,false,false,false,false,false,false,false,false] rfl rfl (one_of HT_.out (by kernel_rfl)) (by decide) (fun K hK=>?_)
 refine goes_ Try.func25 (by kernel_rfl) rfl #[.agg #[.int .i64 d,.int .i64 b,.int .i64 p,.slice A3 n3 c3,.int .i64 u,.int .i64 v,.bool o,.int .i64 z]] (by rfl) rfl rfl (by simp only [mAXFtlCoreB_,List.map_cons,List.map_nil];rfl) ?_
 with_reducible refine (HF.out _ (HT.out _ HB.out)).mono ?_
 rintro e W6 ⟨rfl, hb⟩
 refine ⟨_, rfl, ?_⟩
 have n0_ := Aside0.mk (below_step HB.out hb)
 clear HB hb
 have HB := n0_
 clear n0_
 refine hK.out _ _ (HS1.out _ HB.out) (fun hHeld => ?_)
 clear hK K
 refine norm_ (a' := ?_) ?_ ?_
 rotate_left
 ·show Act.put _ (some 5) _ = _
  simp only [Act.put,lSXFtlCoreB_,lZXFtlCoreB_,lCXFtlCoreB_,i64_w,i32_w]
  rfl
 refine ord_ [(1,3,some 6),(1,4,some 7),(1,5,some 8),(2,6,some 9)] ?_
 repeat (first|(refine Ord.pureL (v:=?_) (l':=?_) (t':=?_) rfl rfl (fun _ _ _ h=>h) (by kernel_rfl) ?_ ?_ ?_ ?_ ?_;rotate_left 3;dsimp only [s0,s1];rfl;exact any_of HT_.out (by kernel_rfl);intro w';go_simp;(try simp only [i64_w]);with_reducible rfl;dsimp only [s0,s1];rfl)|(refine Ord.takeL (v:=?_) (l':=?_) (t':=?_) rfl rfl (fun _ _ _ h=>h) hHeld (by kernel_rfl) ?_ ?_ ?_ ?_ ?_;rotate_left 3;dsimp only [s0,s1];rfl;exact take_ofW HT_.out HW_.out (by kernel_rfl);rintro w' ⟨s0,s1,s2,s3,s4,s5,s6,s7,s8,s9,s10,s11⟩;go_simp;with_reducible rfl;dsimp only [s0,s1];rfl))
 refine Ord.nil ?_
 refine one_ (i:=7) (N:=some 10) #[true,true,true,true,true,true,true,true,false,false,false,false,false,false,false,false,false,false,false,false,false,false,false,false,false,false,false,false,false,false] rfl rfl (one_of HT_.out (by kernel_rfl)) (by decide) (fun K hK=>?_)
 refine goes_ Try.func26 (by kernel_rfl) rfl #[.agg #[.int .i64 mb,.int .i64 mp,.slice A10 n10 c10,.slice A11 n11 c11]] (by rfl) rfl rfl (by simp only [mAXFtlCoreB_,List.map_cons,List.map_nil];rfl) ?_
 with_reducible refine (HM.out _ (HT.out _ HB.out)).mono ?_
 rintro e W7 ⟨rfl, hb⟩
 refine ⟨_, rfl, ?_⟩
 have n0_ := Aside0.mk (below_step HB.out hb)
 clear HB hb
 have HB := n0_
 clear n0_
 refine hK.out _ _ (HS1.out _ HB.out) (fun hHeld => ?_)
 clear hK K
 refine norm_ (a' := ?_) ?_ ?_
 rotate_left
 ·show Act.put _ (some 10) _ = _
  simp only [Act.put,lSXFtlCoreB_,lZXFtlCoreB_,lCXFtlCoreB_,i64_w,i32_w]
  rfl
 refine ord_ [(1,8,some 11),(1,9,some 12),(1,10,some 13),(1,11,some 14),(1,12,some 15),(1,14,some 17),(1,15,some 18),(2,13,some 16),(2,16,some 19)] ?_
 repeat (first|(refine Ord.pureL (v:=?_) (l':=?_) (t':=?_) rfl rfl (fun _ _ _ h=>h) (by kernel_rfl) ?_ ?_ ?_ ?_ ?_;rotate_left 3;dsimp only [s0,s1];rfl;exact any_of HT_.out (by kernel_rfl);intro w';go_simp;(try simp only [i64_w]);with_reducible rfl;dsimp only [s0,s1];rfl)|(refine Ord.takeL (v:=?_) (l':=?_) (t':=?_) rfl rfl (fun _ _ _ h=>h) hHeld (by kernel_rfl) ?_ ?_ ?_ ?_ ?_;rotate_left 3;dsimp only [s0,s1];rfl;exact take_ofW HT_.out HW_.out (by kernel_rfl);rintro w' ⟨s0,s1,s2,s3,s4,s5,s6,s7,s8,s9,s10,s11⟩;go_simp;with_reducible rfl;dsimp only [s0,s1];rfl))
 refine Ord.nil ?_
 refine one_ (i:=17) (N:=some 20) #[true,true,true,true,true,true,true,true,true,true,true,true,true,true,true,true,true,true,false,false,false,false,false,false,false,false,false,false,false,false] rfl rfl (one_of HT_.out (by kernel_rfl)) (by decide) (fun K hK=>?_)
 refine goes_ Try.func27 (by kernel_rfl) rfl #[.agg #[.int .i64 d,.int .i64 b,.int .i64 p]] (by rfl) rfl rfl (by simp only [mAXFtlCoreB_,List.map_cons,List.map_nil];rfl) ?_
 with_reducible refine (HA.out _).mono ?_
 rintro e W8 ⟨rfl, hb⟩
 refine ⟨_, rfl, ?_⟩
 have n0_ := Aside0.mk (below_step HB.out hb)
 clear HB hb
 have HB := n0_
 clear n0_
 refine hK.out _ _ (HS1.out _ HB.out) (fun hHeld => ?_)
 clear hK K
 refine norm_ (a' := ?_) ?_ ?_
 rotate_left
 ·show Act.put _ (some 20) _ = _
  simp only [Act.put,lSXFtlCoreB_,lZXFtlCoreB_,lCXFtlCoreB_,i64_w,i32_w]
  rfl
 refine ord_ [(1,18,some 21),(1,19,some 22),(1,20,some 23),(1,21,some 24),(1,22,some 25),(1,24,some 27),(1,25,some 28),(1,26,some 29),(2,23,some 26),(2,27,some 30),(1,28,some 31),(1,29,some 32)] ?_
 repeat (first|(refine Ord.pureL (v:=?_) (l':=?_) (t':=?_) rfl rfl (fun _ _ _ h=>h) (by kernel_rfl) ?_ ?_ ?_ ?_ ?_;rotate_left 3;dsimp only [s0,s1];rfl;exact any_of HT_.out (by kernel_rfl);intro w';go_simp;(try simp only [i64_w]);with_reducible rfl;dsimp only [s0,s1];rfl)|(refine Ord.takeL (v:=?_) (l':=?_) (t':=?_) rfl rfl (fun _ _ _ h=>h) hHeld (by kernel_rfl) ?_ ?_ ?_ ?_ ?_;rotate_left 3;dsimp only [s0,s1];rfl;exact take_ofW HT_.out HW_.out (by kernel_rfl);rintro w' ⟨s0,s1,s2,s3,s4,s5,s6,s7,s8,s9,s10,s11⟩;go_simp;with_reducible rfl;dsimp only [s0,s1];rfl))
 refine Ord.nil ?_
 refine done_ (done_of HT_.out (by kernel_rfl)) ?_
 clear hHeld qE qE1 qE2 qQ qQ1 qQ2 HF HM HS1
 go_upto_region 3 with (fail)
 (try simp only [Act.put,lSXFtlCoreB_,lZXFtlCoreB_,lCXFtlCoreB_])
 cases bH with
 | false =>
  obtain ⟨qE, qQ, qL, qN⟩ := KQ.out
  clear qE qQ
  obtain rfl : r = false := hr.symm.trans (by first | rfl | simp)
  clear hr
  have n0_ := Aside0.mk (below_drew1 HB.out)
  clear HB
  have HB := n0_
  clear n0_
  refine start_ (n:=46) (S:=vS3 gb d b p A3 n3 c3 u v o z mb mp A10 n10 c10 A11 n11 c11 A12 n12 c12 hn sq A15 n15 c15 A16 n16 c16 bd po) (ds:=[]) #[false,false,false,false,false,false,false,false,false,false,false,false,false,false,false,false,false,false,false,false,false,false,false,false,false,false,false,false,false,false,false,false,false,false,false,false,false,false,false,false,false,false,false,false,false,false] (by kernel_rfl) rfl rfl (HS3.out _ HB.out) (fun hHeld=>?_)
  refine with_tabW vftlr3.tab vftlr3.bits (fun HT_ HW_ => ?_)
  generalize World.drew _ = W5 at HB hHeld ⊢
  refine ord_ [(1, 0, some 33), (2, 1, some 34)] ?_
  repeat (first|(refine Ord.pureL (v:=?_) (l':=?_) (t':=?_) rfl rfl (fun _ _ _ h=>h) (by kernel_rfl) ?_ ?_ ?_ ?_ ?_;rotate_left 3;dsimp only [s0,s1];rfl;exact any_of HT_.out (by kernel_rfl);intro w';go_simp;(try simp only [i64_w]);with_reducible rfl;dsimp only [s0,s1];rfl)|(refine Ord.takeL (v:=?_) (l':=?_) (t':=?_) rfl rfl (fun _ _ _ h=>h) hHeld (by kernel_rfl) ?_ ?_ ?_ ?_ ?_;rotate_left 3;dsimp only [s0,s1];rfl;exact take_ofW HT_.out HW_.out (by kernel_rfl);rintro w' ⟨sb,s1,s2,s3,s4,s5,s6,s7,s8,s9,s10,s11,s12,s13,s14,s15,s16,s17,s18,s19⟩;clear sb;go_simp;with_reducible rfl;dsimp only [s0,s1];rfl))
  refine Ord.nil ?_
  refine one_ (i:=2) (N:=some 35) #[true,true,true,false,false,false,false,false,false,false,false,false,false,false,false,false,false,false,false,false,false,false,false,false,false,false,false,false,false,false,false,false,false,false,false,false,false,false,false,false,false,false,false,false,false,false] rfl rfl (one_of HT_.out (by kernel_rfl)) (by decide) (fun K hK=>?_)
  refine goes_ Try.func28 (by kernel_rfl) rfl #[.agg #[.slice A12 n12 c12,.int .i64 hn]] (by rfl) rfl rfl (by simp only [mAXFtlCoreB_,List.map_cons,List.map_nil];rfl) ?_
  with_reducible refine (HH.out _ (HT.out _ HB.out)).mono ?_
  rintro e W6 ⟨rfl, hb⟩
  refine ⟨_, rfl, ?_⟩
  have n0_ := Aside0.mk (below_step HB.out hb)
  clear HB hb
  have HB := n0_
  clear n0_
  refine hK.out _ _ (HS3.out _ HB.out) (fun hHeld => ?_)
  clear hK K
  refine norm_ (a' := ?_) ?_ ?_
  rotate_left
  ·show Act.put _ (some 35) _ = _
   simp only [Act.put,lSXFtlCoreB_,lZXFtlCoreB_,lCXFtlCoreB_,i64_w,i32_w]
   rfl
  refine ord_ [(1,3,some 36),(0,4,some 37),(0,5,some 38),(0,6,some 39),(0,7,some 40),(0,8,some 41),(0,9,some 42),(0,10,some 43),(0,11,some 44),(0,12,some 45),(1,13,some 46),(1,14,some 47),(0,15,some 48),(0,16,some 49),(0,17,some 50),(1,18,some 51),(1,19,some 52),(0,20,some 53),(0,21,some 54),(1,22,some 55),(1,23,some 56),(0,24,some 57),(0,25,some 58),(0,26,some 59),(0,27,some 60),(0,28,some 61),(0,29,some 62),(0,30,some 63),(0,31,some 64),(1,32,some 65),(1,33,some 66),(0,34,some 67),(0,35,some 68),(0,36,some 69),(1,37,some 70),(1,38,some 71),(0,39,some 72),(0,40,some 73),(0,41,some 74),(0,42,some 75),(0,43,some 76),(1,44,some 77),(1,45,some 2)] ?_
  repeat (first|(refine Ord.offL (l':=?_) (t':=?_) rfl rfl (fun _ _ _ h=>h) (by kernel_rfl) ?_ ?_ ?_ ?_;rotate_left 2;dsimp only [s0,s1];rfl;exact any_of HT_.out (by kernel_rfl);dsimp only [s0,s1];rfl)|(refine Ord.pureL (v:=?_) (l':=?_) (t':=?_) rfl rfl (fun _ _ _ h=>h) (by kernel_rfl) ?_ ?_ ?_ ?_ ?_;rotate_left 3;dsimp only [s0,s1];rfl;exact any_of HT_.out (by kernel_rfl);intro w';go_simp;(try simp only [i64_w]);with_reducible rfl;dsimp only [s0,s1];rfl))
  refine Ord.nil ?_
  refine done_ (done_of HT_.out (by kernel_rfl)) ?_
  clear hHeld
  try go_wp2
  go_ret
  exact ⟨rfl, HT.out _ HB.out⟩
 | true =>
  cases bL with
  | false =>
   obtain ⟨qE, qQ, qL, qN⟩ := KQ.out
   clear qE qQ
   have qL1 : ((n12 : Int) == (n10 : Int)) = false := qL
   have qL2:((n12:Int) != (n10:Int))=true:=by rw [bne,qL];rfl
   have qL3:(n12 == n10)=false:=by rw [← qL];first|exact natbeqI _ _|simp
   obtain rfl : r = false := hr.symm.trans (by first | rfl | simp)
   clear hr
   have n0_ := Aside0.mk (below_drew1 HB.out)
   clear HB
   have HB := n0_
   clear n0_
   refine start_ (n:=46) (S:=vS3 gb d b p A3 n3 c3 u v o z mb mp A10 n10 c10 A11 n11 c11 A12 n12 c12 hn sq A15 n15 c15 A16 n16 c16 bd po) (ds:=[]) #[false,false,false,false,false,false,false,false,false,false,false,false,false,false,false,false,false,false,false,false,false,false,false,false,false,false,false,false,false,false,false,false,false,false,false,false,false,false,false,false,false,false,false,false,false,false] (by kernel_rfl) rfl rfl (HS3.out _ HB.out) (fun hHeld=>?_)
   refine with_tabW vftlr3.tab vftlr3.bits (fun HT_ HW_ => ?_)
   generalize World.drew _ = W5 at HB hHeld ⊢
   refine ord_ [(1, 0, some 33), (2, 1, some 34)] ?_
   repeat (first|(refine Ord.pureL (v:=?_) (l':=?_) (t':=?_) rfl rfl (fun _ _ _ h=>h) (by kernel_rfl) ?_ ?_ ?_ ?_ ?_;rotate_left 3;dsimp only [s0,s1];rfl;exact any_of HT_.out (by kernel_rfl);intro w';go_simp;(try simp only [i64_w]);with_reducible rfl;dsimp only [s0,s1];rfl)|(refine Ord.takeL (v:=?_) (l':=?_) (t':=?_) rfl rfl (fun _ _ _ h=>h) hHeld (by kernel_rfl) ?_ ?_ ?_ ?_ ?_;rotate_left 3;dsimp only [s0,s1];rfl;exact take_ofW HT_.out HW_.out (by kernel_rfl);rintro w' ⟨sb,s1,s2,s3,s4,s5,s6,s7,s8,s9,s10,s11,s12,s13,s14,s15,s16,s17,s18,s19⟩;clear sb;go_simp;with_reducible rfl;dsimp only [s0,s1];rfl))
   refine Ord.nil ?_
   refine one_ (i:=2) (N:=some 35) #[true,true,true,false,false,false,false,false,false,false,false,false,false,false,false,false,false,false,false,false,false,false,false,false,false,false,false,false,false,false,false,false,false,false,false,false,false,false,false,false,false,false,false,false,false,false] rfl rfl (one_of HT_.out (by kernel_rfl)) (by decide) (fun K hK=>?_)
   refine goes_ Try.func28 (by kernel_rfl) rfl #[.agg #[.slice A12 n12 c12,.int .i64 hn]] (by rfl) rfl rfl (by simp only [mAXFtlCoreB_,List.map_cons,List.map_nil];rfl) ?_
   with_reducible refine (HH.out _ (HT.out _ HB.out)).mono ?_
   rintro e W6 ⟨rfl, hb⟩
   refine ⟨_, rfl, ?_⟩
   have n0_ := Aside0.mk (below_step HB.out hb)
   clear HB hb
   have HB := n0_
   clear n0_
   refine hK.out _ _ (HS3.out _ HB.out) (fun hHeld => ?_)
   clear hK K
   refine norm_ (a' := ?_) ?_ ?_
   rotate_left
   ·show Act.put _ (some 35) _ = _
    simp only [Act.put,lSXFtlCoreB_,lZXFtlCoreB_,lCXFtlCoreB_,i64_w,i32_w]
    rfl
   refine ord_ [(1,3,some 36),(1,4,some 37),(1,5,some 38),(1,8,some 41),(1,9,some 42),(2,6,some 39),(1,7,some 40),(2,10,some 43),(1,11,some 44),(1,12,some 45),(1,13,some 46),(1,14,some 47),(0,15,some 48),(0,16,some 49),(0,17,some 50),(1,18,some 51),(1,19,some 52),(0,20,some 53),(0,21,some 54),(1,22,some 55),(1,23,some 56),(0,24,some 57),(0,25,some 58),(0,26,some 59),(0,27,some 60),(0,28,some 61),(0,29,some 62),(0,30,some 63),(0,31,some 64),(1,32,some 65),(1,33,some 66),(0,34,some 67),(0,35,some 68),(0,36,some 69),(1,37,some 70),(1,38,some 71),(0,39,some 72),(0,40,some 73),(0,41,some 74),(0,42,some 75),(0,43,some 76),(1,44,some 77),(1,45,some 2)] ?_
   repeat (first|(refine Ord.offL (l':=?_) (t':=?_) rfl rfl (fun _ _ _ h=>h) (by kernel_rfl) ?_ ?_ ?_ ?_;rotate_left 2;dsimp only [s0,s1];rfl;exact any_of HT_.out (by kernel_rfl);dsimp only [s0,s1];rfl)|(refine Ord.pureL (v:=?_) (l':=?_) (t':=?_) rfl rfl (fun _ _ _ h=>h) (by kernel_rfl) ?_ ?_ ?_ ?_ ?_;rotate_left 3;dsimp only [s0,s1];rfl;exact any_of HT_.out (by kernel_rfl);intro w';go_simp;(try simp only [i64_w]);with_reducible rfl;dsimp only [s0,s1];rfl)|(refine Ord.takeL (v:=?_) (l':=?_) (t':=?_) rfl rfl (fun _ _ _ h=>h) hHeld (by kernel_rfl) ?_ ?_ ?_ ?_ ?_;rotate_left 3;dsimp only [s0,s1];rfl;exact take_ofW HT_.out HW_.out (by kernel_rfl);rintro w' ⟨sb,s1,s2,s3,s4,s5,s6,s7,s8,s9,s10,s11,s12,s13,s14,s15,s16,s17,s18,s19⟩;clear sb;go_simp;with_reducible rfl;dsimp only [s0,s1];rfl))
   refine Ord.nil ?_
   refine done_ (done_of HT_.out (by kernel_rfl)) ?_
   clear hHeld
   try go_wp2
   go_ret
   exact ⟨rfl, HT.out _ HB.out⟩
  | true =>
   cases bS with
   | false =>
    obtain ⟨qE, qQ, qL, qN⟩ := KQ.out
    clear qE qQ
    have qL1 : ((n12 : Int) == (n10 : Int)) = true := qL
    have qL2:((n12:Int) != (n10:Int))=false:=by rw [bne,qL];rfl
    have qL3:(n12 == n10)=true:=by rw [← qL];first|exact natbeqI _ _|simp
    obtain rfl:r=false:=hr.symm.trans (by first|rfl|simp)
    clear hr
    have n0_ := Aside0.mk (below_drew1 HB.out)
    clear HB
    have HB := n0_
    clear n0_
    refine start_ (n:=46) (S:=vS3 gb d b p A3 n3 c3 u v o z mb mp A10 n10 c10 A11 n11 c11 A12 n12 c12 hn sq A15 n15 c15 A16 n16 c16 bd po) (ds:=[]) #[false,false,false,false,false,false,false,false,false,false,false,false,false,false,false,false,false,false,false,false,false,false,false,false,false,false,false,false,false,false,false,false,false,false,false,false,false,false,false,false,false,false,false,false,false,false] (by kernel_rfl) rfl rfl (HS3.out _ HB.out) (fun hHeld=>?_)
    refine with_tabW vftlr3.tab vftlr3.bits (fun HT_ HW_ => ?_)
    generalize World.drew _ = W5 at HB hHeld ⊢
    refine ord_ [(1, 0, some 33), (2, 1, some 34)] ?_
    repeat (first|(refine Ord.pureL (v:=?_) (l':=?_) (t':=?_) rfl rfl (fun _ _ _ h=>h) (by kernel_rfl) ?_ ?_ ?_ ?_ ?_;rotate_left 3;dsimp only [s0,s1];rfl;exact any_of HT_.out (by kernel_rfl);intro w';go_simp;(try simp only [i64_w]);with_reducible rfl;dsimp only [s0,s1];rfl)|(refine Ord.takeL (v:=?_) (l':=?_) (t':=?_) rfl rfl (fun _ _ _ h=>h) hHeld (by kernel_rfl) ?_ ?_ ?_ ?_ ?_;rotate_left 3;dsimp only [s0,s1];rfl;exact take_ofW HT_.out HW_.out (by kernel_rfl);rintro w' ⟨sb,s1,s2,s3,s4,s5,s6,s7,s8,s9,s10,s11,s12,s13,s14,s15,s16,s17,s18,s19⟩;clear sb;go_simp;with_reducible rfl;dsimp only [s0,s1];rfl))
    refine Ord.nil ?_
    refine one_ (i:=2) (N:=some 35) #[true,true,true,false,false,false,false,false,false,false,false,false,false,false,false,false,false,false,false,false,false,false,false,false,false,false,false,false,false,false,false,false,false,false,false,false,false,false,false,false,false,false,false,false,false,false] rfl rfl (one_of HT_.out (by kernel_rfl)) (by decide) (fun K hK=>?_)
    refine goes_ Try.func28 (by kernel_rfl) rfl #[.agg #[.slice A12 n12 c12,.int .i64 hn]] (by rfl) rfl rfl (by simp only [mAXFtlCoreB_,List.map_cons,List.map_nil];rfl) ?_
    with_reducible refine (HH.out _ (HT.out _ HB.out)).mono ?_
    rintro e W6 ⟨rfl, hb⟩
    refine ⟨_, rfl, ?_⟩
    have n0_ := Aside0.mk (below_step HB.out hb)
    clear HB hb
    have HB := n0_
    clear n0_
    refine hK.out _ _ (HS3.out _ HB.out) (fun hHeld => ?_)
    clear hK K
    refine norm_ (a' := ?_) ?_ ?_
    rotate_left
    ·show Act.put _ (some 35) _ = _
     simp only [Act.put,lSXFtlCoreB_,lZXFtlCoreB_,lCXFtlCoreB_,i64_w,i32_w]
     rfl
    refine ord_ [(1,3,some 36),(1,4,some 37),(1,5,some 38),(1,8,some 41),(1,9,some 42),(2,6,some 39),(1,7,some 40),(2,10,some 43),(1,11,some 44),(1,12,some 45),(1,13,some 46),(1,14,some 47),(1,15,some 48),(2,16,some 49)] ?_
    repeat (first|(refine Ord.pureL (v:=?_) (l':=?_) (t':=?_) rfl rfl (fun _ _ _ h=>h) (by kernel_rfl) ?_ ?_ ?_ ?_ ?_;rotate_left 3;dsimp only [s0,s1];rfl;exact any_of HT_.out (by kernel_rfl);intro w';go_simp;(try simp only [i64_w]);with_reducible rfl;dsimp only [s0,s1];rfl)|(refine Ord.takeL (v:=?_) (l':=?_) (t':=?_) rfl rfl (fun _ _ _ h=>h) hHeld (by kernel_rfl) ?_ ?_ ?_ ?_ ?_;rotate_left 3;dsimp only [s0,s1];rfl;exact take_ofW HT_.out HW_.out (by kernel_rfl);rintro w' ⟨sb,s1,s2,s3,s4,s5,s6,s7,s8,s9,s10,s11,s12,s13,s14,s15,s16,s17,s18,s19⟩;clear sb;go_simp;with_reducible rfl;dsimp only [s0,s1];rfl))
    refine Ord.nil ?_
    refine one_ (i:=17) (N:=some 50) #[true,true,true,true,true,true,true,true,true,true,true,true,true,true,true,true,true,true,false,false,false,false,false,false,false,false,false,false,false,false,false,false,false,false,false,false,false,false,false,false,false,false,false,false,false,false] rfl rfl (one_of HT_.out (by kernel_rfl)) (by decide) (fun K hK=>?_)
    refine goes_ Try.func29 (by kernel_rfl) rfl #[.int .i64 sq,.int .i64 1,.int .i64 1000001] (by rfl) rfl rfl (by simp only [mAXFtlCoreB_,List.map_cons,List.map_nil];rfl) ?_
    with_reducible refine (HIS.out _).mono ?_
    rintro e W7 ⟨rfl, hb⟩
    refine ⟨_, rfl, ?_⟩
    have n0_ := Aside0.mk (below_step HB.out hb)
    clear HB hb
    have HB := n0_
    clear n0_
    refine hK.out _ _ (HS3.out _ HB.out) (fun hHeld => ?_)
    clear hK K
    refine norm_ (a' := ?_) ?_ ?_
    rotate_left
    ·show Act.put _ (some 50) _ = _
     simp only [Act.put,lSXFtlCoreB_,lZXFtlCoreB_,lCXFtlCoreB_,i64_w,i32_w]
     rfl
    refine ord_ [(1,18,some 51),(1,19,some 52),(0,20,some 53),(0,21,some 54),(1,22,some 55),(1,23,some 56),(0,24,some 57),(0,25,some 58),(0,26,some 59),(0,27,some 60),(0,28,some 61),(0,29,some 62),(0,30,some 63),(0,31,some 64),(1,32,some 65),(1,33,some 66),(0,34,some 67),(0,35,some 68),(0,36,some 69),(1,37,some 70),(1,38,some 71),(0,39,some 72),(0,40,some 73),(0,41,some 74),(0,42,some 75),(0,43,some 76),(1,44,some 77),(1,45,some 2)] ?_
    repeat (first|(refine Ord.offL (l':=?_) (t':=?_) rfl rfl (fun _ _ _ h=>h) (by kernel_rfl) ?_ ?_ ?_ ?_;rotate_left 2;dsimp only [s0,s1];rfl;exact any_of HT_.out (by kernel_rfl);dsimp only [s0,s1];rfl)|(refine Ord.pureL (v:=?_) (l':=?_) (t':=?_) rfl rfl (fun _ _ _ h=>h) (by kernel_rfl) ?_ ?_ ?_ ?_ ?_;rotate_left 3;dsimp only [s0,s1];rfl;exact any_of HT_.out (by kernel_rfl);intro w';go_simp;(try simp only [i64_w]);with_reducible rfl;dsimp only [s0,s1];rfl))
    refine Ord.nil ?_
    refine done_ (done_of HT_.out (by kernel_rfl)) ?_
    clear hHeld
    try go_wp2
    go_ret
    exact ⟨rfl, HT.out _ HB.out⟩
   | true =>
    cases bO with
    | false =>
     obtain ⟨qE, qQ, qL, qN⟩ := KQ.out
     clear qE qQ
     have qL1 : ((n12 : Int) == (n10 : Int)) = true := qL
     have qL2:((n12:Int) != (n10:Int))=false:=by rw [bne,qL];rfl
     have qL3:(n12 == n10)=true:=by rw [← qL];first|exact natbeqI _ _|simp
     obtain rfl:r=false:=hr.symm.trans (by first|rfl|simp)
     clear hr
     have n0_ := Aside0.mk (below_drew1 HB.out)
     clear HB
     have HB := n0_
     clear n0_
     refine start_ (n:=46) (S:=vS3 gb d b p A3 n3 c3 u v o z mb mp A10 n10 c10 A11 n11 c11 A12 n12 c12 hn sq A15 n15 c15 A16 n16 c16 bd po) (ds:=[]) #[false,false,false,false,false,false,false,false,false,false,false,false,false,false,false,false,false,false,false,false,false,false,false,false,false,false,false,false,false,false,false,false,false,false,false,false,false,false,false,false,false,false,false,false,false,false] (by kernel_rfl) rfl rfl (HS3.out _ HB.out) (fun hHeld=>?_)
     refine with_tabW vftlr3.tab vftlr3.bits (fun HT_ HW_ => ?_)
     generalize World.drew _ = W5 at HB hHeld ⊢
     refine ord_ [(1, 0, some 33), (2, 1, some 34)] ?_
     repeat (first|(refine Ord.pureL (v:=?_) (l':=?_) (t':=?_) rfl rfl (fun _ _ _ h=>h) (by kernel_rfl) ?_ ?_ ?_ ?_ ?_;rotate_left 3;dsimp only [s0,s1];rfl;exact any_of HT_.out (by kernel_rfl);intro w';go_simp;(try simp only [i64_w]);with_reducible rfl;dsimp only [s0,s1];rfl)|(refine Ord.takeL (v:=?_) (l':=?_) (t':=?_) rfl rfl (fun _ _ _ h=>h) hHeld (by kernel_rfl) ?_ ?_ ?_ ?_ ?_;rotate_left 3;dsimp only [s0,s1];rfl;exact take_ofW HT_.out HW_.out (by kernel_rfl);rintro w' ⟨sb,s1,s2,s3,s4,s5,s6,s7,s8,s9,s10,s11,s12,s13,s14,s15,s16,s17,s18,s19⟩;clear sb;go_simp;with_reducible rfl;dsimp only [s0,s1];rfl))
     refine Ord.nil ?_
     refine one_ (i:=2) (N:=some 35) #[true,true,true,false,false,false,false,false,false,false,false,false,false,false,false,false,false,false,false,false,false,false,false,false,false,false,false,false,false,false,false,false,false,false,false,false,false,false,false,false,false,false,false,false,false,false] rfl rfl (one_of HT_.out (by kernel_rfl)) (by decide) (fun K hK=>?_)
     refine goes_ Try.func28 (by kernel_rfl) rfl #[.agg #[.slice A12 n12 c12,.int .i64 hn]] (by rfl) rfl rfl (by simp only [mAXFtlCoreB_,List.map_cons,List.map_nil];rfl) ?_
     with_reducible refine (HH.out _ (HT.out _ HB.out)).mono ?_
     rintro e W6 ⟨rfl, hb⟩
     refine ⟨_, rfl, ?_⟩
     have n0_ := Aside0.mk (below_step HB.out hb)
     clear HB hb
     have HB := n0_
     clear n0_
     refine hK.out _ _ (HS3.out _ HB.out) (fun hHeld => ?_)
     clear hK K
     refine norm_ (a' := ?_) ?_ ?_
     rotate_left
     ·show Act.put _ (some 35) _ = _
      simp only [Act.put,lSXFtlCoreB_,lZXFtlCoreB_,lCXFtlCoreB_,i64_w,i32_w]
      rfl
     refine ord_ [(1,3,some 36),(1,4,some 37),(1,5,some 38),(1,8,some 41),(1,9,some 42),(2,6,some 39),(1,7,some 40),(2,10,some 43),(1,11,some 44),(1,12,some 45),(1,13,some 46),(1,14,some 47),(1,15,some 48),(2,16,some 49)] ?_
     repeat (first|(refine Ord.pureL (v:=?_) (l':=?_) (t':=?_) rfl rfl (fun _ _ _ h=>h) (by kernel_rfl) ?_ ?_ ?_ ?_ ?_;rotate_left 3;dsimp only [s0,s1];rfl;exact any_of HT_.out (by kernel_rfl);intro w';go_simp;(try simp only [i64_w]);with_reducible rfl;dsimp only [s0,s1];rfl)|(refine Ord.takeL (v:=?_) (l':=?_) (t':=?_) rfl rfl (fun _ _ _ h=>h) hHeld (by kernel_rfl) ?_ ?_ ?_ ?_ ?_;rotate_left 3;dsimp only [s0,s1];rfl;exact take_ofW HT_.out HW_.out (by kernel_rfl);rintro w' ⟨sb,s1,s2,s3,s4,s5,s6,s7,s8,s9,s10,s11,s12,s13,s14,s15,s16,s17,s18,s19⟩;clear sb;go_simp;with_reducible rfl;dsimp only [s0,s1];rfl))
     refine Ord.nil ?_
     refine one_ (i:=17) (N:=some 50) #[true,true,true,true,true,true,true,true,true,true,true,true,true,true,true,true,true,true,false,false,false,false,false,false,false,false,false,false,false,false,false,false,false,false,false,false,false,false,false,false,false,false,false,false,false,false] rfl rfl (one_of HT_.out (by kernel_rfl)) (by decide) (fun K hK=>?_)
     refine goes_ Try.func29 (by kernel_rfl) rfl #[.int .i64 sq,.int .i64 1,.int .i64 1000001] (by rfl) rfl rfl (by simp only [mAXFtlCoreB_,List.map_cons,List.map_nil];rfl) ?_
     with_reducible refine (HIS.out _).mono ?_
     rintro e W7 ⟨rfl, hb⟩
     refine ⟨_, rfl, ?_⟩
     have n0_ := Aside0.mk (below_step HB.out hb)
     clear HB hb
     have HB := n0_
     clear n0_
     refine hK.out _ _ (HS3.out _ HB.out) (fun hHeld => ?_)
     clear hK K
     refine norm_ (a' := ?_) ?_ ?_
     rotate_left
     ·show Act.put _ (some 50) _ = _
      simp only [Act.put,lSXFtlCoreB_,lZXFtlCoreB_,lCXFtlCoreB_,i64_w,i32_w]
      rfl
     refine ord_ [(1,18,some 51),(1,19,some 52),(3,20,some 53)] ?_
     repeat (first|(refine Ord.pureL (v:=?_) (l':=?_) (t':=?_) rfl rfl (fun _ _ _ h=>h) (by kernel_rfl) ?_ ?_ ?_ ?_ ?_;rotate_left 3;dsimp only [s0,s1];rfl;exact any_of HT_.out (by kernel_rfl);intro w';go_simp;(try simp only [i64_w]);with_reducible rfl;dsimp only [s0,s1];rfl)|(refine Ord.midL (i:=20) (v:=.agg #[.int .i64 d,.int .i64 b,.int .i64 p,.slice A3 n3 c3,.int .i64 u,.int .i64 v,.bool o,.int .i64 z,.int .i64 mb,.int .i64 mp,.slice A10 n10 c10,.slice A11 n11 c11,.slice A12 n12 c12,.int .i64 hn,.int .i64 sq,.slice A15 n15 c15,.slice A16 n16 c16,.int .i64 bd,.int .i64 po]) (l':=?_) (t':=?_) rfl rfl (fun _ _ _ h=>h) (yieldsIf_load_mid rfl 44 (.tmp 1) rfl gb 0 rfl [.int .i64 d,.int .i64 b,.int .i64 p,.slice A3 n3 c3,.int .i64 u,.int .i64 v,.bool o,.int .i64 z,.int .i64 mb,.int .i64 mp,.slice A10 n10 c10,.slice A11 n11 c11,.slice A12 n12 c12,.int .i64 hn,.int .i64 sq,.slice A15 n15 c15,.slice A16 n16 c16,.int .i64 bd,.int .i64 po] _ (fun w' h=>range_of_blk h.1) Try.underlying44 rfl (by kernel_rfl)) hHeld ?_ ?_ ?_ ?_;rotate_left 2;dsimp only [s0,s1];rfl;exact take_ofW HT_.out HW_.out (by kernel_rfl);dsimp only [s0,s1];rfl))
     refine Ord.nil ?_
     refine one_ (i:=21) (N:=some 54) #[true,true,true,true,true,true,true,true,true,true,true,true,true,true,true,true,true,true,true,true,true,true,false,false,false,false,false,false,false,false,false,false,false,false,false,false,false,false,false,false,false,false,false,false,false,false] rfl rfl (one_of HT_.out (by kernel_rfl)) (by decide) (fun K hK=>?_)
     refine goes_ Try.func30 (by kernel_rfl) rfl #[.agg #[.int .i64 d,.int .i64 b,.int .i64 p,.slice A3 n3 c3,.int .i64 u,.int .i64 v,.bool o,.int .i64 z,.int .i64 mb,.int .i64 mp,.slice A10 n10 c10,.slice A11 n11 c11,.slice A12 n12 c12,.int .i64 hn,.int .i64 sq,.slice A15 n15 c15,.slice A16 n16 c16,.int .i64 bd,.int .i64 po]] (by rfl) rfl rfl (by simp only [mAXFtlCoreB_,List.map_cons,List.map_nil];rfl) ?_
     with_reducible refine (HO.out _ (HT.out _ HB.out)).mono ?_
     rintro e W8 ⟨rfl, hb⟩
     refine ⟨_, rfl, ?_⟩
     have n0_ := Aside0.mk (below_step HB.out hb)
     clear HB hb
     have HB := n0_
     clear n0_
     refine hK.out _ _ (HS3.out _ HB.out) (fun hHeld => ?_)
     clear hK K
     refine norm_ (a' := ?_) ?_ ?_
     rotate_left
     ·show Act.put _ (some 54) _ = _
      simp only [Act.put,lSXFtlCoreB_,lZXFtlCoreB_,lCXFtlCoreB_,i64_w,i32_w]
      rfl
     refine ord_ [(1,22,some 55),(1,23,some 56),(0,24,some 57),(0,25,some 58),(0,26,some 59),(0,27,some 60),(0,28,some 61),(0,29,some 62),(0,30,some 63),(0,31,some 64),(1,32,some 65),(1,33,some 66),(0,34,some 67),(0,35,some 68),(0,36,some 69),(1,37,some 70),(1,38,some 71),(0,39,some 72),(0,40,some 73),(0,41,some 74),(0,42,some 75),(0,43,some 76),(1,44,some 77),(1,45,some 2)] ?_
     repeat (first|(refine Ord.offL (l':=?_) (t':=?_) rfl rfl (fun _ _ _ h=>h) (by kernel_rfl) ?_ ?_ ?_ ?_;rotate_left 2;dsimp only [s0,s1];rfl;exact any_of HT_.out (by kernel_rfl);dsimp only [s0,s1];rfl)|(refine Ord.pureL (v:=?_) (l':=?_) (t':=?_) rfl rfl (fun _ _ _ h=>h) (by kernel_rfl) ?_ ?_ ?_ ?_ ?_;rotate_left 3;dsimp only [s0,s1];rfl;exact any_of HT_.out (by kernel_rfl);intro w';go_simp;(try simp only [i64_w]);with_reducible rfl;dsimp only [s0,s1];rfl))
     refine Ord.nil ?_
     refine done_ (done_of HT_.out (by kernel_rfl)) ?_
     clear hHeld
     try go_wp2
     go_ret
     exact ⟨rfl, HT.out _ HB.out⟩
    | true =>
     cases bN with
     | false =>
      obtain ⟨qE, qQ, qL, qN⟩ := KQ.out
      clear qE qQ
      have qL1 : ((n12 : Int) == (n10 : Int)) = true := qL
      have qL2:((n12:Int) != (n10:Int))=false:=by rw [bne,qL];rfl
      have qL3:(n12 == n10)=true:=by rw [← qL];first|exact natbeqI _ _|simp
      have qN1 : ((n16 : Int) == nn) = false := qN
      have qN2:((n16:Int) != nn)=true:=by rw [bne,qN];rfl
      obtain rfl:r=false:=hr.symm.trans (by first|rfl|simp)
      clear hr
      have n0_ := Aside0.mk (below_drew1 HB.out)
      clear HB
      have HB := n0_
      clear n0_
      refine start_ (n:=46) (S:=vS3 gb d b p A3 n3 c3 u v o z mb mp A10 n10 c10 A11 n11 c11 A12 n12 c12 hn sq A15 n15 c15 A16 n16 c16 bd po) (ds:=[]) #[false,false,false,false,false,false,false,false,false,false,false,false,false,false,false,false,false,false,false,false,false,false,false,false,false,false,false,false,false,false,false,false,false,false,false,false,false,false,false,false,false,false,false,false,false,false] (by kernel_rfl) rfl rfl (HS3.out _ HB.out) (fun hHeld=>?_)
      refine with_tabW vftlr3.tab vftlr3.bits (fun HT_ HW_=>?_)
      generalize World.drew _ = W5 at HB hHeld ⊢
      refine ord_ [(1, 0, some 33), (2, 1, some 34)] ?_
      repeat (first|(refine Ord.pureL (v:=?_) (l':=?_) (t':=?_) rfl rfl (fun _ _ _ h=>h) (by kernel_rfl) ?_ ?_ ?_ ?_ ?_;rotate_left 3;dsimp only [s0,s1];rfl;exact any_of HT_.out (by kernel_rfl);intro w';go_simp;(try simp only [i64_w]);with_reducible rfl;dsimp only [s0,s1];rfl)|(refine Ord.takeL (v:=?_) (l':=?_) (t':=?_) rfl rfl (fun _ _ _ h=>h) hHeld (by kernel_rfl) ?_ ?_ ?_ ?_ ?_;rotate_left 3;dsimp only [s0,s1];rfl;exact take_ofW HT_.out HW_.out (by kernel_rfl);rintro w' ⟨sb,s1,s2,s3,s4,s5,s6,s7,s8,s9,s10,s11,s12,s13,s14,s15,s16,s17,s18,s19⟩;clear sb;go_simp;with_reducible rfl;dsimp only [s0,s1];rfl))
      refine Ord.nil ?_
      refine one_ (i:=2) (N:=some 35) #[true,true,true,false,false,false,false,false,false,false,false,false,false,false,false,false,false,false,false,false,false,false,false,false,false,false,false,false,false,false,false,false,false,false,false,false,false,false,false,false,false,false,false,false,false,false] rfl rfl (one_of HT_.out (by kernel_rfl)) (by decide) (fun K hK=>?_)
      refine goes_ Try.func28 (by kernel_rfl) rfl #[.agg #[.slice A12 n12 c12,.int .i64 hn]] (by rfl) rfl rfl (by simp only [mAXFtlCoreB_,List.map_cons,List.map_nil];rfl) ?_
      with_reducible refine (HH.out _ (HT.out _ HB.out)).mono ?_
      rintro e W6 ⟨rfl, hb⟩
      refine ⟨_, rfl, ?_⟩
      have n0_ := Aside0.mk (below_step HB.out hb)
      clear HB hb
      have HB := n0_
      clear n0_
      refine hK.out _ _ (HS3.out _ HB.out) (fun hHeld => ?_)
      clear hK K
      refine norm_ (a' := ?_) ?_ ?_
      rotate_left
      ·show Act.put _ (some 35) _ = _
       simp only [Act.put,lSXFtlCoreB_,lZXFtlCoreB_,lCXFtlCoreB_,i64_w,i32_w]
       rfl
      refine ord_ [(1,3,some 36),(1,4,some 37),(1,5,some 38),(1,8,some 41),(1,9,some 42),(2,6,some 39),(1,7,some 40),(2,10,some 43),(1,11,some 44),(1,12,some 45),(1,13,some 46),(1,14,some 47),(1,15,some 48),(2,16,some 49)] ?_
      repeat (first|(refine Ord.pureL (v:=?_) (l':=?_) (t':=?_) rfl rfl (fun _ _ _ h=>h) (by kernel_rfl) ?_ ?_ ?_ ?_ ?_;rotate_left 3;dsimp only [s0,s1];rfl;exact any_of HT_.out (by kernel_rfl);intro w';go_simp;(try simp only [i64_w]);with_reducible rfl;dsimp only [s0,s1];rfl)|(refine Ord.takeL (v:=?_) (l':=?_) (t':=?_) rfl rfl (fun _ _ _ h=>h) hHeld (by kernel_rfl) ?_ ?_ ?_ ?_ ?_;rotate_left 3;dsimp only [s0,s1];rfl;exact take_ofW HT_.out HW_.out (by kernel_rfl);rintro w' ⟨sb,s1,s2,s3,s4,s5,s6,s7,s8,s9,s10,s11,s12,s13,s14,s15,s16,s17,s18,s19⟩;clear sb;go_simp;with_reducible rfl;dsimp only [s0,s1];rfl))
      refine Ord.nil ?_
      refine one_ (i:=17) (N:=some 50) #[true,true,true,true,true,true,true,true,true,true,true,true,true,true,true,true,true,true,false,false,false,false,false,false,false,false,false,false,false,false,false,false,false,false,false,false,false,false,false,false,false,false,false,false,false,false] rfl rfl (one_of HT_.out (by kernel_rfl)) (by decide) (fun K hK=>?_)
      refine goes_ Try.func29 (by kernel_rfl) rfl #[.int .i64 sq,.int .i64 1,.int .i64 1000001] (by rfl) rfl rfl (by simp only [mAXFtlCoreB_,List.map_cons,List.map_nil];rfl) ?_
      with_reducible refine (HIS.out _).mono ?_
      rintro e W7 ⟨rfl, hb⟩
      refine ⟨_, rfl, ?_⟩
      have n0_ := Aside0.mk (below_step HB.out hb)
      clear HB hb
      have HB := n0_
      clear n0_
      refine hK.out _ _ (HS3.out _ HB.out) (fun hHeld => ?_)
      clear hK K
      refine norm_ (a' := ?_) ?_ ?_
      rotate_left
      ·show Act.put _ (some 50) _ = _
       simp only [Act.put,lSXFtlCoreB_,lZXFtlCoreB_,lCXFtlCoreB_,i64_w,i32_w]
       rfl
      refine ord_ [(1,18,some 51),(1,19,some 52),(3,20,some 53)] ?_
      repeat (first|(refine Ord.pureL (v:=?_) (l':=?_) (t':=?_) rfl rfl (fun _ _ _ h=>h) (by kernel_rfl) ?_ ?_ ?_ ?_ ?_;rotate_left 3;dsimp only [s0,s1];rfl;exact any_of HT_.out (by kernel_rfl);intro w';go_simp;(try simp only [i64_w]);with_reducible rfl;dsimp only [s0,s1];rfl)|(refine Ord.midL (i:=20) (v:=.agg #[.int .i64 d,.int .i64 b,.int .i64 p,.slice A3 n3 c3,.int .i64 u,.int .i64 v,.bool o,.int .i64 z,.int .i64 mb,.int .i64 mp,.slice A10 n10 c10,.slice A11 n11 c11,.slice A12 n12 c12,.int .i64 hn,.int .i64 sq,.slice A15 n15 c15,.slice A16 n16 c16,.int .i64 bd,.int .i64 po]) (l':=?_) (t':=?_) rfl rfl (fun _ _ _ h=>h) (yieldsIf_load_mid rfl 44 (.tmp 1) rfl gb 0 rfl [.int .i64 d,.int .i64 b,.int .i64 p,.slice A3 n3 c3,.int .i64 u,.int .i64 v,.bool o,.int .i64 z,.int .i64 mb,.int .i64 mp,.slice A10 n10 c10,.slice A11 n11 c11,.slice A12 n12 c12,.int .i64 hn,.int .i64 sq,.slice A15 n15 c15,.slice A16 n16 c16,.int .i64 bd,.int .i64 po] _ (fun w' h=>range_of_blk h.1) Try.underlying44 rfl (by kernel_rfl)) hHeld ?_ ?_ ?_ ?_;rotate_left 2;dsimp only [s0,s1];rfl;exact take_ofW HT_.out HW_.out (by kernel_rfl);dsimp only [s0,s1];rfl))
      refine Ord.nil ?_
      refine one_ (i:=21) (N:=some 54) #[true,true,true,true,true,true,true,true,true,true,true,true,true,true,true,true,true,true,true,true,true,true,false,false,false,false,false,false,false,false,false,false,false,false,false,false,false,false,false,false,false,false,false,false,false,false] rfl rfl (one_of HT_.out (by kernel_rfl)) (by decide) (fun K hK=>?_)
      refine goes_ Try.func30 (by kernel_rfl) rfl #[.agg #[.int .i64 d,.int .i64 b,.int .i64 p,.slice A3 n3 c3,.int .i64 u,.int .i64 v,.bool o,.int .i64 z,.int .i64 mb,.int .i64 mp,.slice A10 n10 c10,.slice A11 n11 c11,.slice A12 n12 c12,.int .i64 hn,.int .i64 sq,.slice A15 n15 c15,.slice A16 n16 c16,.int .i64 bd,.int .i64 po]] (by rfl) rfl rfl (by simp only [mAXFtlCoreB_,List.map_cons,List.map_nil];rfl) ?_
      with_reducible refine (HO.out _ (HT.out _ HB.out)).mono ?_
      rintro e W8 ⟨rfl, hb⟩
      refine ⟨_, rfl, ?_⟩
      have n0_ := Aside0.mk (below_step HB.out hb)
      clear HB hb
      have HB := n0_
      clear n0_
      refine hK.out _ _ (HS3.out _ HB.out) (fun hHeld => ?_)
      clear hK K
      refine norm_ (a' := ?_) ?_ ?_
      rotate_left
      ·show Act.put _ (some 54) _ = _
       simp only [Act.put,lSXFtlCoreB_,lZXFtlCoreB_,lCXFtlCoreB_,i64_w,i32_w]
       rfl
      refine ord_ [(1,22,some 55),(1,23,some 56),(1,24,some 57),(1,27,some 60),(1,28,some 61),(2,25,some 58),(1,26,some 59),(2,29,some 62)] ?_
      repeat (first|(refine Ord.pureL (v:=?_) (l':=?_) (t':=?_) rfl rfl (fun _ _ _ h=>h) (by kernel_rfl) ?_ ?_ ?_ ?_ ?_;rotate_left 3;dsimp only [s0,s1];rfl;exact any_of HT_.out (by kernel_rfl);intro w';go_simp;(try simp only [i64_w]);with_reducible rfl;dsimp only [s0,s1];rfl)|(refine Ord.takeL (v:=?_) (l':=?_) (t':=?_) rfl rfl (fun _ _ _ h=>h) hHeld (by kernel_rfl) ?_ ?_ ?_ ?_ ?_;rotate_left 3;dsimp only [s0,s1];rfl;exact take_ofW HT_.out HW_.out (by kernel_rfl);rintro w' ⟨sb,s1,s2,s3,s4,s5,s6,s7,s8,s9,s10,s11,s12,s13,s14,s15,s16,s17,s18,s19⟩;clear sb;go_simp;with_reducible rfl;dsimp only [s0,s1];rfl))
      refine Ord.nil ?_
      refine one_ (i:=30) (N:=some 63) #[true,true,true,true,true,true,true,true,true,true,true,true,true,true,true,true,true,true,true,true,true,true,true,true,true,true,true,true,true,true,true,false,false,false,false,false,false,false,false,false,false,false,false,false,false,false] rfl rfl (one_of HT_.out (by kernel_rfl)) (by decide) (fun K hK=>?_)
      refine goes_ Try.func27 (by kernel_rfl) rfl #[.agg #[.int .i64 d,.int .i64 b,.int .i64 p]] (by rfl) rfl rfl (by simp only [mAXFtlCoreB_,List.map_cons,List.map_nil];rfl) ?_
      with_reducible refine (HA.out _).mono ?_
      rintro e W9 ⟨rfl, hb⟩
      refine ⟨_, rfl, ?_⟩
      have n0_ := Aside0.mk (below_step HB.out hb)
      clear HB hb
      have HB := n0_
      clear n0_
      refine hK.out _ _ (HS3.out _ HB.out) (fun hHeld => ?_)
      clear hK K
      refine norm_ (a' := ?_) ?_ ?_
      rotate_left
      ·show Act.put _ (some 63) _ = _
       simp only [Act.put,lSXFtlCoreB_,lZXFtlCoreB_,lCXFtlCoreB_,i64_w,i32_w]
       rfl
      refine ord_ [(1,31,some 64),(1,32,some 65),(1,33,some 66),(0,34,some 67),(0,35,some 68),(0,36,some 69),(1,37,some 70),(1,38,some 71),(0,39,some 72),(0,40,some 73),(0,41,some 74),(0,42,some 75),(0,43,some 76),(1,44,some 77),(1,45,some 2)] ?_
      repeat (first|(refine Ord.offL (l':=?_) (t':=?_) rfl rfl (fun _ _ _ h=>h) (by kernel_rfl) ?_ ?_ ?_ ?_;rotate_left 2;dsimp only [s0,s1];rfl;exact any_of HT_.out (by kernel_rfl);dsimp only [s0,s1];rfl)|(refine Ord.pureL (v:=?_) (l':=?_) (t':=?_) rfl rfl (fun _ _ _ h=>h) (by kernel_rfl) ?_ ?_ ?_ ?_ ?_;rotate_left 3;dsimp only [s0,s1];rfl;exact any_of HT_.out (by kernel_rfl);intro w';go_simp;(try simp only [i64_w]);with_reducible rfl;dsimp only [s0,s1];rfl))
      refine Ord.nil ?_
      refine done_ (done_of HT_.out (by kernel_rfl)) ?_
      clear hHeld
      try go_wp2
      go_ret
      exact ⟨rfl, HT.out _ HB.out⟩
     | true =>
      cases bX with
      | false =>
       obtain ⟨qE, qQ, qL, qN⟩ := KQ.out
       clear qE qQ
       have qL1 : ((n12 : Int) == (n10 : Int)) = true := qL
       have qL2:((n12:Int) != (n10:Int))=false:=by rw [bne,qL];rfl
       have qL3:(n12 == n10)=true:=by rw [← qL];first|exact natbeqI _ _|simp
       have qN1 : ((n16 : Int) == nn) = true := qN
       have qN2:((n16:Int) != nn)=false:=by rw [bne,qN];rfl
       obtain rfl:r=false:=hr.symm.trans (by first|rfl|simp)
       clear hr
       have n0_ := Aside0.mk (below_drew1 HB.out)
       clear HB
       have HB := n0_
       clear n0_
       refine start_ (n:=46) (S:=vS3 gb d b p A3 n3 c3 u v o z mb mp A10 n10 c10 A11 n11 c11 A12 n12 c12 hn sq A15 n15 c15 A16 n16 c16 bd po) (ds:=[]) #[false,false,false,false,false,false,false,false,false,false,false,false,false,false,false,false,false,false,false,false,false,false,false,false,false,false,false,false,false,false,false,false,false,false,false,false,false,false,false,false,false,false,false,false,false,false] (by kernel_rfl) rfl rfl (HS3.out _ HB.out) (fun hHeld=>?_)
       refine with_tabW vftlr3.tab vftlr3.bits (fun HT_ HW_=>?_)
       generalize World.drew _ = W5 at HB hHeld ⊢
       refine ord_ [(1, 0, some 33), (2, 1, some 34)] ?_
       repeat (first|(refine Ord.pureL (v:=?_) (l':=?_) (t':=?_) rfl rfl (fun _ _ _ h=>h) (by kernel_rfl) ?_ ?_ ?_ ?_ ?_;rotate_left 3;dsimp only [s0,s1];rfl;exact any_of HT_.out (by kernel_rfl);intro w';go_simp;(try simp only [i64_w]);with_reducible rfl;dsimp only [s0,s1];rfl)|(refine Ord.takeL (v:=?_) (l':=?_) (t':=?_) rfl rfl (fun _ _ _ h=>h) hHeld (by kernel_rfl) ?_ ?_ ?_ ?_ ?_;rotate_left 3;dsimp only [s0,s1];rfl;exact take_ofW HT_.out HW_.out (by kernel_rfl);rintro w' ⟨sb,s1,s2,s3,s4,s5,s6,s7,s8,s9,s10,s11,s12,s13,s14,s15,s16,s17,s18,s19⟩;clear sb;go_simp;with_reducible rfl;dsimp only [s0,s1];rfl))
       refine Ord.nil ?_
       refine one_ (i:=2) (N:=some 35) #[true,true,true,false,false,false,false,false,false,false,false,false,false,false,false,false,false,false,false,false,false,false,false,false,false,false,false,false,false,false,false,false,false,false,false,false,false,false,false,false,false,false,false,false,false,false] rfl rfl (one_of HT_.out (by kernel_rfl)) (by decide) (fun K hK=>?_)
       refine goes_ Try.func28 (by kernel_rfl) rfl #[.agg #[.slice A12 n12 c12,.int .i64 hn]] (by rfl) rfl rfl (by simp only [mAXFtlCoreB_,List.map_cons,List.map_nil];rfl) ?_
       with_reducible refine (HH.out _ (HT.out _ HB.out)).mono ?_
       rintro e W6 ⟨rfl, hb⟩
       refine ⟨_, rfl, ?_⟩
       have n0_ := Aside0.mk (below_step HB.out hb)
       clear HB hb
       have HB := n0_
       clear n0_
       refine hK.out _ _ (HS3.out _ HB.out) (fun hHeld => ?_)
       clear hK K
       refine norm_ (a' := ?_) ?_ ?_
       rotate_left
       ·show Act.put _ (some 35) _ = _
        simp only [Act.put,lSXFtlCoreB_,lZXFtlCoreB_,lCXFtlCoreB_,i64_w,i32_w]
        rfl
       refine ord_ [(1,3,some 36),(1,4,some 37),(1,5,some 38),(1,8,some 41),(1,9,some 42),(2,6,some 39),(1,7,some 40),(2,10,some 43),(1,11,some 44),(1,12,some 45),(1,13,some 46),(1,14,some 47),(1,15,some 48),(2,16,some 49)] ?_
       repeat (first|(refine Ord.pureL (v:=?_) (l':=?_) (t':=?_) rfl rfl (fun _ _ _ h=>h) (by kernel_rfl) ?_ ?_ ?_ ?_ ?_;rotate_left 3;dsimp only [s0,s1];rfl;exact any_of HT_.out (by kernel_rfl);intro w';go_simp;(try simp only [i64_w]);with_reducible rfl;dsimp only [s0,s1];rfl)|(refine Ord.takeL (v:=?_) (l':=?_) (t':=?_) rfl rfl (fun _ _ _ h=>h) hHeld (by kernel_rfl) ?_ ?_ ?_ ?_ ?_;rotate_left 3;dsimp only [s0,s1];rfl;exact take_ofW HT_.out HW_.out (by kernel_rfl);rintro w' ⟨sb,s1,s2,s3,s4,s5,s6,s7,s8,s9,s10,s11,s12,s13,s14,s15,s16,s17,s18,s19⟩;clear sb;go_simp;with_reducible rfl;dsimp only [s0,s1];rfl))
       refine Ord.nil ?_
       refine one_ (i:=17) (N:=some 50) #[true,true,true,true,true,true,true,true,true,true,true,true,true,true,true,true,true,true,false,false,false,false,false,false,false,false,false,false,false,false,false,false,false,false,false,false,false,false,false,false,false,false,false,false,false,false] rfl rfl (one_of HT_.out (by kernel_rfl)) (by decide) (fun K hK=>?_)
       refine goes_ Try.func29 (by kernel_rfl) rfl #[.int .i64 sq,.int .i64 1,.int .i64 1000001] (by rfl) rfl rfl (by simp only [mAXFtlCoreB_,List.map_cons,List.map_nil];rfl) ?_
       with_reducible refine (HIS.out _).mono ?_
       rintro e W7 ⟨rfl, hb⟩
       refine ⟨_, rfl, ?_⟩
       have n0_ := Aside0.mk (below_step HB.out hb)
       clear HB hb
       have HB := n0_
       clear n0_
       refine hK.out _ _ (HS3.out _ HB.out) (fun hHeld => ?_)
       clear hK K
       refine norm_ (a' := ?_) ?_ ?_
       rotate_left
       ·show Act.put _ (some 50) _ = _
        simp only [Act.put,lSXFtlCoreB_,lZXFtlCoreB_,lCXFtlCoreB_,i64_w,i32_w]
        rfl
       refine ord_ [(1,18,some 51),(1,19,some 52),(3,20,some 53)] ?_
       repeat (first|(refine Ord.pureL (v:=?_) (l':=?_) (t':=?_) rfl rfl (fun _ _ _ h=>h) (by kernel_rfl) ?_ ?_ ?_ ?_ ?_;rotate_left 3;dsimp only [s0,s1];rfl;exact any_of HT_.out (by kernel_rfl);intro w';go_simp;(try simp only [i64_w]);with_reducible rfl;dsimp only [s0,s1];rfl)|(refine Ord.midL (i:=20) (v:=.agg #[.int .i64 d,.int .i64 b,.int .i64 p,.slice A3 n3 c3,.int .i64 u,.int .i64 v,.bool o,.int .i64 z,.int .i64 mb,.int .i64 mp,.slice A10 n10 c10,.slice A11 n11 c11,.slice A12 n12 c12,.int .i64 hn,.int .i64 sq,.slice A15 n15 c15,.slice A16 n16 c16,.int .i64 bd,.int .i64 po]) (l':=?_) (t':=?_) rfl rfl (fun _ _ _ h=>h) (yieldsIf_load_mid rfl 44 (.tmp 1) rfl gb 0 rfl [.int .i64 d,.int .i64 b,.int .i64 p,.slice A3 n3 c3,.int .i64 u,.int .i64 v,.bool o,.int .i64 z,.int .i64 mb,.int .i64 mp,.slice A10 n10 c10,.slice A11 n11 c11,.slice A12 n12 c12,.int .i64 hn,.int .i64 sq,.slice A15 n15 c15,.slice A16 n16 c16,.int .i64 bd,.int .i64 po] _ (fun w' h=>range_of_blk h.1) Try.underlying44 rfl (by kernel_rfl)) hHeld ?_ ?_ ?_ ?_;rotate_left 2;dsimp only [s0,s1];rfl;exact take_ofW HT_.out HW_.out (by kernel_rfl);dsimp only [s0,s1];rfl))
       refine Ord.nil ?_
       refine one_ (i:=21) (N:=some 54) #[true,true,true,true,true,true,true,true,true,true,true,true,true,true,true,true,true,true,true,true,true,true,false,false,false,false,false,false,false,false,false,false,false,false,false,false,false,false,false,false,false,false,false,false,false,false] rfl rfl (one_of HT_.out (by kernel_rfl)) (by decide) (fun K hK=>?_)
       refine goes_ Try.func30 (by kernel_rfl) rfl #[.agg #[.int .i64 d,.int .i64 b,.int .i64 p,.slice A3 n3 c3,.int .i64 u,.int .i64 v,.bool o,.int .i64 z,.int .i64 mb,.int .i64 mp,.slice A10 n10 c10,.slice A11 n11 c11,.slice A12 n12 c12,.int .i64 hn,.int .i64 sq,.slice A15 n15 c15,.slice A16 n16 c16,.int .i64 bd,.int .i64 po]] (by rfl) rfl rfl (by simp only [mAXFtlCoreB_,List.map_cons,List.map_nil];rfl) ?_
       with_reducible refine (HO.out _ (HT.out _ HB.out)).mono ?_
       rintro e W8 ⟨rfl, hb⟩
       refine ⟨_, rfl, ?_⟩
       have n0_ := Aside0.mk (below_step HB.out hb)
       clear HB hb
       have HB := n0_
       clear n0_
       refine hK.out _ _ (HS3.out _ HB.out) (fun hHeld => ?_)
       clear hK K
       refine norm_ (a' := ?_) ?_ ?_
       rotate_left
       ·show Act.put _ (some 54) _ = _
        simp only [Act.put,lSXFtlCoreB_,lZXFtlCoreB_,lCXFtlCoreB_,i64_w,i32_w]
        rfl
       refine ord_ [(1,22,some 55),(1,23,some 56),(1,24,some 57),(1,27,some 60),(1,28,some 61),(2,25,some 58),(1,26,some 59),(2,29,some 62)] ?_
       repeat (first|(refine Ord.pureL (v:=?_) (l':=?_) (t':=?_) rfl rfl (fun _ _ _ h=>h) (by kernel_rfl) ?_ ?_ ?_ ?_ ?_;rotate_left 3;dsimp only [s0,s1];rfl;exact any_of HT_.out (by kernel_rfl);intro w';go_simp;(try simp only [i64_w]);with_reducible rfl;dsimp only [s0,s1];rfl)|(refine Ord.takeL (v:=?_) (l':=?_) (t':=?_) rfl rfl (fun _ _ _ h=>h) hHeld (by kernel_rfl) ?_ ?_ ?_ ?_ ?_;rotate_left 3;dsimp only [s0,s1];rfl;exact take_ofW HT_.out HW_.out (by kernel_rfl);rintro w' ⟨sb,s1,s2,s3,s4,s5,s6,s7,s8,s9,s10,s11,s12,s13,s14,s15,s16,s17,s18,s19⟩;clear sb;go_simp;with_reducible rfl;dsimp only [s0,s1];rfl))
       refine Ord.nil ?_
       refine one_ (i:=30) (N:=some 63) #[true,true,true,true,true,true,true,true,true,true,true,true,true,true,true,true,true,true,true,true,true,true,true,true,true,true,true,true,true,true,true,false,false,false,false,false,false,false,false,false,false,false,false,false,false,false] rfl rfl (one_of HT_.out (by kernel_rfl)) (by decide) (fun K hK=>?_)
       refine goes_ Try.func27 (by kernel_rfl) rfl #[.agg #[.int .i64 d,.int .i64 b,.int .i64 p]] (by rfl) rfl rfl (by simp only [mAXFtlCoreB_,List.map_cons,List.map_nil];rfl) ?_
       with_reducible refine (HA.out _).mono ?_
       rintro e W9 ⟨rfl, hb⟩
       refine ⟨_, rfl, ?_⟩
       have n0_ := Aside0.mk (below_step HB.out hb)
       clear HB hb
       have HB := n0_
       clear n0_
       refine hK.out _ _ (HS3.out _ HB.out) (fun hHeld => ?_)
       clear hK K
       refine norm_ (a' := ?_) ?_ ?_
       rotate_left
       ·show Act.put _ (some 63) _ = _
        simp only [Act.put,lSXFtlCoreB_,lZXFtlCoreB_,lCXFtlCoreB_,i64_w,i32_w]
        rfl
       refine ord_ [(1,31,some 64),(1,32,some 65),(1,33,some 66),(1,34,some 67),(2,35,some 68)] ?_
       repeat (first|(refine Ord.pureL (v:=?_) (l':=?_) (t':=?_) rfl rfl (fun _ _ _ h=>h) (by kernel_rfl) ?_ ?_ ?_ ?_ ?_;rotate_left 3;dsimp only [s0,s1];rfl;exact any_of HT_.out (by kernel_rfl);intro w';go_simp;(try simp only [i64_w]);with_reducible rfl;dsimp only [s0,s1];rfl)|(refine Ord.takeL (v:=?_) (l':=?_) (t':=?_) rfl rfl (fun _ _ _ h=>h) hHeld (by kernel_rfl) ?_ ?_ ?_ ?_ ?_;rotate_left 3;dsimp only [s0,s1];rfl;exact take_ofW HT_.out HW_.out (by kernel_rfl);rintro w' ⟨sb,s1,s2,s3,s4,s5,s6,s7,s8,s9,s10,s11,s12,s13,s14,s15,s16,s17,s18,s19⟩;clear sb;go_simp;with_reducible rfl;dsimp only [s0,s1];rfl))
       refine Ord.nil ?_
       refine one_ (i:=36) (N:=some 69) #[true,true,true,true,true,true,true,true,true,true,true,true,true,true,true,true,true,true,true,true,true,true,true,true,true,true,true,true,true,true,true,true,true,true,true,true,true,false,false,false,false,false,false,false,false,false] rfl rfl (one_of HT_.out (by kernel_rfl)) (by decide) (fun K hK=>?_)
       refine goes_ Try.func31 (by kernel_rfl) rfl #[.slice A16 n16 c16,.int .i64 0,.int .i64 1000000] (by rfl) rfl rfl (by simp only [mAXFtlCoreB_,List.map_cons,List.map_nil];rfl) ?_
       with_reducible refine (HX.out _ (HT.out _ HB.out)).mono ?_
       rintro e W10 ⟨rfl, hb⟩
       refine ⟨_, rfl, ?_⟩
       have n0_ := Aside0.mk (below_step HB.out hb)
       clear HB hb
       have HB := n0_
       clear n0_
       refine hK.out _ _ (HS3.out _ HB.out) (fun hHeld => ?_)
       clear hK K
       refine norm_ (a' := ?_) ?_ ?_
       rotate_left
       ·show Act.put _ (some 69) _ = _
        simp only [Act.put,lSXFtlCoreB_,lZXFtlCoreB_,lCXFtlCoreB_,i64_w,i32_w]
        rfl
       refine ord_ [(1,37,some 70),(1,38,some 71),(0,39,some 72),(0,40,some 73),(0,41,some 74),(0,42,some 75),(0,43,some 76),(1,44,some 77),(1,45,some 2)] ?_
       repeat (first|(refine Ord.offL (l':=?_) (t':=?_) rfl rfl (fun _ _ _ h=>h) (by kernel_rfl) ?_ ?_ ?_ ?_;rotate_left 2;dsimp only [s0,s1];rfl;exact any_of HT_.out (by kernel_rfl);dsimp only [s0,s1];rfl)|(refine Ord.pureL (v:=?_) (l':=?_) (t':=?_) rfl rfl (fun _ _ _ h=>h) (by kernel_rfl) ?_ ?_ ?_ ?_ ?_;rotate_left 3;dsimp only [s0,s1];rfl;exact any_of HT_.out (by kernel_rfl);intro w';go_simp;(try simp only [i64_w]);with_reducible rfl;dsimp only [s0,s1];rfl))
       refine Ord.nil ?_
       refine done_ (done_of HT_.out (by kernel_rfl)) ?_
       clear hHeld
       try go_wp2
       go_ret
       exact ⟨rfl, HT.out _ HB.out⟩
      | true =>
       obtain ⟨qE, qQ, qL, qN⟩ := KQ.out
       clear qE qQ
       have qL1 : ((n12 : Int) == (n10 : Int)) = true := qL
       have qL2:((n12:Int) != (n10:Int))=false:=by rw [bne,qL];rfl
       have qL3:(n12 == n10)=true:=by rw [← qL];first|exact natbeqI _ _|simp
       have qN1 : ((n16 : Int) == nn) = true := qN
       have qN2:((n16:Int) != nn)=false:=by rw [bne,qN];rfl
       obtain rfl:r=bP:=hr.symm.trans (by first|rfl|simp)
       clear hr
       have n0_ := Aside0.mk (below_drew1 HB.out)
       clear HB
       have HB := n0_
       clear n0_
       refine start_ (n:=46) (S:=vS3 gb d b p A3 n3 c3 u v o z mb mp A10 n10 c10 A11 n11 c11 A12 n12 c12 hn sq A15 n15 c15 A16 n16 c16 bd po) (ds:=[]) #[false,false,false,false,false,false,false,false,false,false,false,false,false,false,false,false,false,false,false,false,false,false,false,false,false,false,false,false,false,false,false,false,false,false,false,false,false,false,false,false,false,false,false,false,false,false] (by kernel_rfl) rfl rfl (HS3.out _ HB.out) (fun hHeld=>?_)
       refine with_tabW vftlr3.tab vftlr3.bits (fun HT_ HW_=>?_)
       generalize World.drew _ = W5 at HB hHeld ⊢
       refine ord_ [(1, 0, some 33), (2, 1, some 34)] ?_
       repeat (first|(refine Ord.pureL (v:=?_) (l':=?_) (t':=?_) rfl rfl (fun _ _ _ h=>h) (by kernel_rfl) ?_ ?_ ?_ ?_ ?_;rotate_left 3;dsimp only [s0,s1];rfl;exact any_of HT_.out (by kernel_rfl);intro w';go_simp;(try simp only [i64_w]);with_reducible rfl;dsimp only [s0,s1];rfl)|(refine Ord.takeL (v:=?_) (l':=?_) (t':=?_) rfl rfl (fun _ _ _ h=>h) hHeld (by kernel_rfl) ?_ ?_ ?_ ?_ ?_;rotate_left 3;dsimp only [s0,s1];rfl;exact take_ofW HT_.out HW_.out (by kernel_rfl);rintro w' ⟨sb,s1,s2,s3,s4,s5,s6,s7,s8,s9,s10,s11,s12,s13,s14,s15,s16,s17,s18,s19⟩;clear sb;go_simp;with_reducible rfl;dsimp only [s0,s1];rfl))
       refine Ord.nil ?_
       refine one_ (i:=2) (N:=some 35) #[true,true,true,false,false,false,false,false,false,false,false,false,false,false,false,false,false,false,false,false,false,false,false,false,false,false,false,false,false,false,false,false,false,false,false,false,false,false,false,false,false,false,false,false,false,false] rfl rfl (one_of HT_.out (by kernel_rfl)) (by decide) (fun K hK=>?_)
       refine goes_ Try.func28 (by kernel_rfl) rfl #[.agg #[.slice A12 n12 c12,.int .i64 hn]] (by rfl) rfl rfl (by simp only [mAXFtlCoreB_,List.map_cons,List.map_nil];rfl) ?_
       with_reducible refine (HH.out _ (HT.out _ HB.out)).mono ?_
       rintro e W6 ⟨rfl, hb⟩
       refine ⟨_, rfl, ?_⟩
       have n0_ := Aside0.mk (below_step HB.out hb)
       clear HB hb
       have HB := n0_
       clear n0_
       refine hK.out _ _ (HS3.out _ HB.out) (fun hHeld => ?_)
       clear hK K
       refine norm_ (a' := ?_) ?_ ?_
       rotate_left
       ·show Act.put _ (some 35) _ = _
        simp only [Act.put,lSXFtlCoreB_,lZXFtlCoreB_,lCXFtlCoreB_,i64_w,i32_w]
        rfl
       refine ord_ [(1,3,some 36),(1,4,some 37),(1,5,some 38),(1,8,some 41),(1,9,some 42),(2,6,some 39),(1,7,some 40),(2,10,some 43),(1,11,some 44),(1,12,some 45),(1,13,some 46),(1,14,some 47),(1,15,some 48),(2,16,some 49)] ?_
       repeat (first|(refine Ord.pureL (v:=?_) (l':=?_) (t':=?_) rfl rfl (fun _ _ _ h=>h) (by kernel_rfl) ?_ ?_ ?_ ?_ ?_;rotate_left 3;dsimp only [s0,s1];rfl;exact any_of HT_.out (by kernel_rfl);intro w';go_simp;(try simp only [i64_w]);with_reducible rfl;dsimp only [s0,s1];rfl)|(refine Ord.takeL (v:=?_) (l':=?_) (t':=?_) rfl rfl (fun _ _ _ h=>h) hHeld (by kernel_rfl) ?_ ?_ ?_ ?_ ?_;rotate_left 3;dsimp only [s0,s1];rfl;exact take_ofW HT_.out HW_.out (by kernel_rfl);rintro w' ⟨sb,s1,s2,s3,s4,s5,s6,s7,s8,s9,s10,s11,s12,s13,s14,s15,s16,s17,s18,s19⟩;clear sb;go_simp;with_reducible rfl;dsimp only [s0,s1];rfl))
       refine Ord.nil ?_
       refine one_ (i:=17) (N:=some 50) #[true,true,true,true,true,true,true,true,true,true,true,true,true,true,true,true,true,true,false,false,false,false,false,false,false,false,false,false,false,false,false,false,false,false,false,false,false,false,false,false,false,false,false,false,false,false] rfl rfl (one_of HT_.out (by kernel_rfl)) (by decide) (fun K hK=>?_)
       refine goes_ Try.func29 (by kernel_rfl) rfl #[.int .i64 sq,.int .i64 1,.int .i64 1000001] (by rfl) rfl rfl (by simp only [mAXFtlCoreB_,List.map_cons,List.map_nil];rfl) ?_
       with_reducible refine (HIS.out _).mono ?_
       rintro e W7 ⟨rfl, hb⟩
       refine ⟨_, rfl, ?_⟩
       have n0_ := Aside0.mk (below_step HB.out hb)
       clear HB hb
       have HB := n0_
       clear n0_
       refine hK.out _ _ (HS3.out _ HB.out) (fun hHeld => ?_)
       clear hK K
       refine norm_ (a' := ?_) ?_ ?_
       rotate_left
       ·show Act.put _ (some 50) _ = _
        simp only [Act.put,lSXFtlCoreB_,lZXFtlCoreB_,lCXFtlCoreB_,i64_w,i32_w]
        rfl
       refine ord_ [(1,18,some 51),(1,19,some 52),(3,20,some 53)] ?_
       repeat (first|(refine Ord.pureL (v:=?_) (l':=?_) (t':=?_) rfl rfl (fun _ _ _ h=>h) (by kernel_rfl) ?_ ?_ ?_ ?_ ?_;rotate_left 3;dsimp only [s0,s1];rfl;exact any_of HT_.out (by kernel_rfl);intro w';go_simp;(try simp only [i64_w]);with_reducible rfl;dsimp only [s0,s1];rfl)|(refine Ord.midL (i:=20) (v:=.agg #[.int .i64 d,.int .i64 b,.int .i64 p,.slice A3 n3 c3,.int .i64 u,.int .i64 v,.bool o,.int .i64 z,.int .i64 mb,.int .i64 mp,.slice A10 n10 c10,.slice A11 n11 c11,.slice A12 n12 c12,.int .i64 hn,.int .i64 sq,.slice A15 n15 c15,.slice A16 n16 c16,.int .i64 bd,.int .i64 po]) (l':=?_) (t':=?_) rfl rfl (fun _ _ _ h=>h) (yieldsIf_load_mid rfl 44 (.tmp 1) rfl gb 0 rfl [.int .i64 d,.int .i64 b,.int .i64 p,.slice A3 n3 c3,.int .i64 u,.int .i64 v,.bool o,.int .i64 z,.int .i64 mb,.int .i64 mp,.slice A10 n10 c10,.slice A11 n11 c11,.slice A12 n12 c12,.int .i64 hn,.int .i64 sq,.slice A15 n15 c15,.slice A16 n16 c16,.int .i64 bd,.int .i64 po] _ (fun w' h=>range_of_blk h.1) Try.underlying44 rfl (by kernel_rfl)) hHeld ?_ ?_ ?_ ?_;rotate_left 2;dsimp only [s0,s1];rfl;exact take_ofW HT_.out HW_.out (by kernel_rfl);dsimp only [s0,s1];rfl))
       refine Ord.nil ?_
       refine one_ (i:=21) (N:=some 54) #[true,true,true,true,true,true,true,true,true,true,true,true,true,true,true,true,true,true,true,true,true,true,false,false,false,false,false,false,false,false,false,false,false,false,false,false,false,false,false,false,false,false,false,false,false,false] rfl rfl (one_of HT_.out (by kernel_rfl)) (by decide) (fun K hK=>?_)
       refine goes_ Try.func30 (by kernel_rfl) rfl #[.agg #[.int .i64 d,.int .i64 b,.int .i64 p,.slice A3 n3 c3,.int .i64 u,.int .i64 v,.bool o,.int .i64 z,.int .i64 mb,.int .i64 mp,.slice A10 n10 c10,.slice A11 n11 c11,.slice A12 n12 c12,.int .i64 hn,.int .i64 sq,.slice A15 n15 c15,.slice A16 n16 c16,.int .i64 bd,.int .i64 po]] (by rfl) rfl rfl (by simp only [mAXFtlCoreB_,List.map_cons,List.map_nil];rfl) ?_
       with_reducible refine (HO.out _ (HT.out _ HB.out)).mono ?_
       rintro e W8 ⟨rfl, hb⟩
       refine ⟨_, rfl, ?_⟩
       have n0_ := Aside0.mk (below_step HB.out hb)
       clear HB hb
       have HB := n0_
       clear n0_
       refine hK.out _ _ (HS3.out _ HB.out) (fun hHeld => ?_)
       clear hK K
       refine norm_ (a' := ?_) ?_ ?_
       rotate_left
       ·show Act.put _ (some 54) _ = _
        simp only [Act.put,lSXFtlCoreB_,lZXFtlCoreB_,lCXFtlCoreB_,i64_w,i32_w]
        rfl
       refine ord_ [(1,22,some 55),(1,23,some 56),(1,24,some 57),(1,27,some 60),(1,28,some 61),(2,25,some 58),(1,26,some 59),(2,29,some 62)] ?_
       repeat (first|(refine Ord.pureL (v:=?_) (l':=?_) (t':=?_) rfl rfl (fun _ _ _ h=>h) (by kernel_rfl) ?_ ?_ ?_ ?_ ?_;rotate_left 3;dsimp only [s0,s1];rfl;exact any_of HT_.out (by kernel_rfl);intro w';go_simp;(try simp only [i64_w]);with_reducible rfl;dsimp only [s0,s1];rfl)|(refine Ord.takeL (v:=?_) (l':=?_) (t':=?_) rfl rfl (fun _ _ _ h=>h) hHeld (by kernel_rfl) ?_ ?_ ?_ ?_ ?_;rotate_left 3;dsimp only [s0,s1];rfl;exact take_ofW HT_.out HW_.out (by kernel_rfl);rintro w' ⟨sb,s1,s2,s3,s4,s5,s6,s7,s8,s9,s10,s11,s12,s13,s14,s15,s16,s17,s18,s19⟩;clear sb;go_simp;with_reducible rfl;dsimp only [s0,s1];rfl))
       refine Ord.nil ?_
       refine one_ (i:=30) (N:=some 63) #[true,true,true,true,true,true,true,true,true,true,true,true,true,true,true,true,true,true,true,true,true,true,true,true,true,true,true,true,true,true,true,false,false,false,false,false,false,false,false,false,false,false,false,false,false,false] rfl rfl (one_of HT_.out (by kernel_rfl)) (by decide) (fun K hK=>?_)
       refine goes_ Try.func27 (by kernel_rfl) rfl #[.agg #[.int .i64 d,.int .i64 b,.int .i64 p]] (by rfl) rfl rfl (by simp only [mAXFtlCoreB_,List.map_cons,List.map_nil];rfl) ?_
       with_reducible refine (HA.out _).mono ?_
       rintro e W9 ⟨rfl, hb⟩
       refine ⟨_, rfl, ?_⟩
       have n0_ := Aside0.mk (below_step HB.out hb)
       clear HB hb
       have HB := n0_
       clear n0_
       refine hK.out _ _ (HS3.out _ HB.out) (fun hHeld => ?_)
       clear hK K
       refine norm_ (a' := ?_) ?_ ?_
       rotate_left
       ·show Act.put _ (some 63) _ = _
        simp only [Act.put,lSXFtlCoreB_,lZXFtlCoreB_,lCXFtlCoreB_,i64_w,i32_w]
        rfl
       refine ord_ [(1,31,some 64),(1,32,some 65),(1,33,some 66),(1,34,some 67),(2,35,some 68)] ?_
       repeat (first|(refine Ord.pureL (v:=?_) (l':=?_) (t':=?_) rfl rfl (fun _ _ _ h=>h) (by kernel_rfl) ?_ ?_ ?_ ?_ ?_;rotate_left 3;dsimp only [s0,s1];rfl;exact any_of HT_.out (by kernel_rfl);intro w';go_simp;(try simp only [i64_w]);with_reducible rfl;dsimp only [s0,s1];rfl)|(refine Ord.takeL (v:=?_) (l':=?_) (t':=?_) rfl rfl (fun _ _ _ h=>h) hHeld (by kernel_rfl) ?_ ?_ ?_ ?_ ?_;rotate_left 3;dsimp only [s0,s1];rfl;exact take_ofW HT_.out HW_.out (by kernel_rfl);rintro w' ⟨sb,s1,s2,s3,s4,s5,s6,s7,s8,s9,s10,s11,s12,s13,s14,s15,s16,s17,s18,s19⟩;clear sb;go_simp;with_reducible rfl;dsimp only [s0,s1];rfl))
       refine Ord.nil ?_
       refine one_ (i:=36) (N:=some 69) #[true,true,true,true,true,true,true,true,true,true,true,true,true,true,true,true,true,true,true,true,true,true,true,true,true,true,true,true,true,true,true,true,true,true,true,true,true,false,false,false,false,false,false,false,false,false] rfl rfl (one_of HT_.out (by kernel_rfl)) (by decide) (fun K hK=>?_)
       refine goes_ Try.func31 (by kernel_rfl) rfl #[.slice A16 n16 c16,.int .i64 0,.int .i64 1000000] (by rfl) rfl rfl (by simp only [mAXFtlCoreB_,List.map_cons,List.map_nil];rfl) ?_
       with_reducible refine (HX.out _ (HT.out _ HB.out)).mono ?_
       rintro e W10 ⟨rfl, hb⟩
       refine ⟨_, rfl, ?_⟩
       have n0_ := Aside0.mk (below_step HB.out hb)
       clear HB hb
       have HB := n0_
       clear n0_
       refine hK.out _ _ (HS3.out _ HB.out) (fun hHeld => ?_)
       clear hK K
       refine norm_ (a' := ?_) ?_ ?_
       rotate_left
       ·show Act.put _ (some 69) _ = _
        simp only [Act.put,lSXFtlCoreB_,lZXFtlCoreB_,lCXFtlCoreB_,i64_w,i32_w]
        rfl
       refine ord_ [(1,37,some 70),(1,38,some 71),(1,39,some 72),(1,41,some 74),(2,40,some 73),(2,42,some 75)] ?_
       repeat (first|(refine Ord.pureL (v:=?_) (l':=?_) (t':=?_) rfl rfl (fun _ _ _ h=>h) (by kernel_rfl) ?_ ?_ ?_ ?_ ?_;rotate_left 3;dsimp only [s0,s1];rfl;exact any_of HT_.out (by kernel_rfl);intro w';go_simp;(try simp only [i64_w]);with_reducible rfl;dsimp only [s0,s1];rfl)|(refine Ord.takeL (v:=?_) (l':=?_) (t':=?_) rfl rfl (fun _ _ _ h=>h) hHeld (by kernel_rfl) ?_ ?_ ?_ ?_ ?_;rotate_left 3;dsimp only [s0,s1];rfl;exact take_ofW HT_.out HW_.out (by kernel_rfl);rintro w' ⟨sb,s1,s2,s3,s4,s5,s6,s7,s8,s9,s10,s11,s12,s13,s14,s15,s16,s17,s18,s19⟩;clear sb;go_simp;with_reducible rfl;dsimp only [s0,s1];rfl))
       refine Ord.nil ?_
       refine one_ (i:=43) (N:=some 76) #[true,true,true,true,true,true,true,true,true,true,true,true,true,true,true,true,true,true,true,true,true,true,true,true,true,true,true,true,true,true,true,true,true,true,true,true,true,true,true,true,true,true,true,true,false,false] rfl rfl (one_of HT_.out (by kernel_rfl)) (by decide) (fun K hK=>?_)
       refine goes_ Try.func32 (by kernel_rfl) rfl #[.int .i64 bd,.int .i64 po] (by rfl) rfl rfl (by simp only [mAXFtlCoreB_,List.map_cons,List.map_nil];rfl) ?_
       with_reducible refine (HP.out _).mono ?_
       rintro e W11 ⟨rfl, hb⟩
       refine ⟨_, rfl, ?_⟩
       have n0_ := Aside0.mk (below_step HB.out hb)
       clear HB hb
       have HB := n0_
       clear n0_
       refine hK.out _ _ (HS3.out _ HB.out) (fun hHeld => ?_)
       clear hK K
       refine norm_ (a' := ?_) ?_ ?_
       rotate_left
       ·show Act.put _ (some 76) _ = _
        simp only [Act.put,lSXFtlCoreB_,lZXFtlCoreB_,lCXFtlCoreB_,i64_w,i32_w]
        rfl
       refine ord_ [(1, 44, some 77), (1, 45, some 2)] ?_
       repeat (first|(refine Ord.pureL (v:=?_) (l':=?_) (t':=?_) rfl rfl (fun _ _ _ h=>h) (by kernel_rfl) ?_ ?_ ?_ ?_ ?_;rotate_left 3;dsimp only [s0,s1];rfl;exact any_of HT_.out (by kernel_rfl);intro w';go_simp;(try simp only [i64_w]);with_reducible rfl;dsimp only [s0,s1];rfl))
       refine Ord.nil ?_
       refine done_ (done_of HT_.out (by kernel_rfl)) ?_
       clear hHeld
       try go_wp2
       go_ret
       exact ⟨rfl, HT.out _ HB.out⟩
end Go.Proofs.Ytajocpalpnpmdaa.Q
