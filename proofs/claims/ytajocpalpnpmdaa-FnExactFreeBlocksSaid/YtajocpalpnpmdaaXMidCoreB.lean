/- The specification's test of a flash translation layer: the walks over the known answers of its calls,second part. Conditions: those before each theorem. -/
import Derived.Test.YtajocpalpnpmdaaXMidCoreA
namespace Go.Proofs.Ytajocpalpnpmdaa.Q
open Go.RowKit Go.Proofs.YtajocpalpnpmdaaW.PrintWords Go.Proofs.YtajocpalpnpmdaaW.PrintMore Go.Proofs.YtajocpalpnpmdaaW.PrintLast
abbrev lSXMidCoreB_ := @List.setIfInBounds_toArray
abbrev lZXMidCoreB_ := @List.set_cons_zero
abbrev lCXMidCoreB_ := @List.set_cons_succ
abbrev mAXMidCoreB_ := @List.map_toArray
set_option linter.unusedVariables false
set_option linter.unusedSimpArgs false
set_option maxHeartbeats 16000000 in
set_option maxRecDepth 100000 in
theorem l14Ok_on (g:Nat) (d b p:Int) (A3:Option Addr) (n3 c3:Nat) (u v:Int) (o:Bool) (z mb mp:Int) (A10:Option Addr) (n10 c10:Nat) (A11:Option Addr) (n11 c11:Nat) (A12:Option Addr) (n12 c12:Nat) (hn sq:Int) (A15:Option Addr) (n15 c15:Nat) (A16:Option Addr) (n16 c16:Nat) (bd po:Int) (o0 o1:Int) (X:List Int) (bS bK bN bB bP bI bJ bG bZ r:Bool) (w:World) (hX:n16=X.length)
  (BK:w.heap[g]?=some (.cells #[.int .i64 d,.int .i64 b,.int .i64 p,.slice A3 n3 c3,.int .i64 u,.int .i64 v,.bool o,.int .i64 z,.int .i64 mb,.int .i64 mp,.slice A10 n10 c10,.slice A11 n11 c11,.slice A12 n12 c12,.int .i64 hn,.int .i64 sq,.slice A15 n15 c15,.slice A16 n16 c16,.int .i64 bd,.int .i64 po] 44 (0,0)))
  (hF:∀ W,Below w.heap.size w W→Calls Try.prog 44 #[.agg #[.int .i64 d,.int .i64 b,.int .i64 p,.slice A3 n3 c3,.int .i64 u,.int .i64 v,.bool o,.int .i64 z]] W fun e w'=>e=.returned (.bool true)∧Below W.heap.size W w')
  (hM:∀ W,Below w.heap.size w W→Calls Try.prog 45 #[.pointer (some ⟨g,8,none⟩)] W fun e w'=>e=.returned (.bool true)∧Below W.heap.size W w')
  (hH:∀ W,Below w.heap.size w W→Calls Try.prog 46 #[.pointer (some ⟨g,12,none⟩)] W fun e w'=>e=.returned (.bool true)∧Below W.heap.size W w')
  (qE : (mb == (n3 : Int)) = true)
  (qQ : (mp == p) = true)
  (qL : ((n12 : Int) == (n10 : Int)) = true)
  (qS : decide (1 ≤ sq ∧ sq ≤ 1000001) = bS)
  (qK : ((n15 : Int) == 2) = bK)
  (qN : ((n16 : Int) == (n3 : Int)) = bN)
  (qB : decide (1 ≤ bd ∧ bd ≤ 100) = bB)
  (qP : decide (1 ≤ po ∧ po ≤ 2) = bP)
  (hel:n15=2→∃ ad,A15=some ad∧w.cell? ad=some (.int .i64 o0)∧w.cell? ⟨ad.block,ad.off+1,none⟩=some (.int .i64 o1))
  (hrX : Kd.C (Kd.int .i64) w A16 X.length X)
  (qI : decide (-1 ≤ o0 ∧ o0 ≤ wrap64 ((n3 : Int) - 1)) = bI)
  (qJ : decide (-1 ≤ o1 ∧ o1 ≤ wrap64 ((n3 : Int) - 1)) = bJ)
  (qG : decide (0 ≤ o0) = bG)
  (qZ : (o0 == o1) = bZ)
  (hr:(bS && (bK && (bN && (bB && (bP && (bI && (bJ && (!(bG && bZ) && allIn X 0 1000000))))))))=r) :
  Calls Try.prog 20 #[.pointer (some ⟨g,0,none⟩)] w fun e w'=>e=.returned (.bool (r))∧Below w.heap.size w w':=by
 have LG := blk_lt BK
 have HF := Aside0.mk hF
 have HM := Aside0.mk hM
 have HH := Aside0.mk hH
 have HXX := Aside0.mk hX
 have HRX := Aside0.mk hrX
 have HEL := Aside0.mk hel
 have HS2:Aside0 (∀ w',Below w.heap.size w w'→(w'.heap[g]?=some (.cells #[.int .i64 d,.int .i64 b,.int .i64 p,.slice A3 n3 c3,.int .i64 u,.int .i64 v,.bool o,.int .i64 z,.int .i64 mb,.int .i64 mp,.slice A10 n10 c10,.slice A11 n11 c11,.slice A12 n12 c12,.int .i64 hn,.int .i64 sq,.slice A15 n15 c15,.slice A16 n16 c16,.int .i64 bd,.int .i64 po] 44 (0,0))∧w'.cell? ⟨g,2,none⟩=some (.int .i64 p)∧w'.cell? ⟨g,8,none⟩=some (.int .i64 mb)∧w'.cell? ⟨g,9,none⟩=some (.int .i64 mp)∧w'.cell? ⟨g,10,none⟩=some (.slice A10 n10 c10)∧w'.cell? ⟨g,12,none⟩=some (.slice A12 n12 c12))):=⟨fun w' hb=>⟨blk_below BK hb,(hb.cell LG).trans ((blk_cell BK 2).trans rfl),(hb.cell LG).trans ((blk_cell BK 8).trans rfl),(hb.cell LG).trans ((blk_cell BK 9).trans rfl),(hb.cell LG).trans ((blk_cell BK 10).trans rfl),(hb.cell LG).trans ((blk_cell BK 12).trans rfl)⟩⟩
 have HC4:Aside0 (∀ w',Below w.heap.size w w'→(w'.cell? ⟨g,14,none⟩=some (.int .i64 sq)∧w'.cell? ⟨g,15,none⟩=some (.slice A15 n15 c15)∧w'.cell? ⟨g,16,none⟩=some (.slice A16 n16 c16)∧w'.cell? ⟨g,17,none⟩=some (.int .i64 bd)∧w'.cell? ⟨g,18,none⟩=some (.int .i64 po))):=⟨fun w' hb=>⟨(hb.cell LG).trans ((blk_cell BK 14).trans rfl),(hb.cell LG).trans ((blk_cell BK 15).trans rfl),(hb.cell LG).trans ((blk_cell BK 16).trans rfl),(hb.cell LG).trans ((blk_cell BK 17).trans rfl),(hb.cell LG).trans ((blk_cell BK 18).trans rfl)⟩⟩
 have HC16:Aside0 (∀ w',Below w.heap.size w w'→(w'.cell? ⟨g,3,none⟩=some (.slice A3 n3 c3)∧w'.cell? ⟨g,16,none⟩=some (.slice A16 n16 c16))):=⟨fun w' hb=>⟨(hb.cell LG).trans ((blk_cell BK 3).trans rfl),(hb.cell LG).trans ((blk_cell BK 16).trans rfl)⟩⟩
 have HBl:Aside0 (∀ W,Below w.heap.size w W→Calls Try.prog 43 #[.pointer (some ⟨g,0,none⟩)] W fun e w'=>e=.returned (.int .i64 (n3:Int))∧Below W.heap.size W w'):=⟨fun W hb=>blocksM_calls g n3 A3 c3 W ((hb.cell LG).trans ((blk_cell BK 3).trans rfl))⟩
 have HIS := Aside0.mk (inS_calls sq 1 1000001)
 have HIB := Aside0.mk (inS_calls bd 1 100)
 have HIP := Aside0.mk (inS_calls po 1 2)
 have HI0 := Aside0.mk (inS_calls o0 (-1) (wrap64 ((n3 : Int) - 1)))
 have HI1 := Aside0.mk (inS_calls o1 (-1) (wrap64 ((n3 : Int) - 1)))
 rw [qS] at HIS
 rw [qB] at HIB
 rw [qP] at HIP
 rw [qI] at HI0
 rw [qJ] at HI1
 have HB := Aside0.mk (Below.refl w.heap.size w)
 have KQ:=Aside0.mk (And.intro qE (And.intro qQ (And.intro qL (And.intro qK (And.intro qN (And.intro qG qZ))))))
 clear hF hM hH hX hrX hel qE qQ qL qS qK qN qB qP qI qJ qG qZ BK
 go_enter Try.func20, Try.ntmps20
 go_upto_region 2 with (first|(go_at_call 43;with_reducible refine Calls.mono (HBl.out _ HB.out) ?_;rintro e W1 ⟨rfl,hb⟩;have n0_:=Aside0.mk (below_step HB.out hb);clear HB hb;have HB:=n0_;clear n0_;skip))
 (try simp only [Act.put,lSXMidCoreB_,lZXMidCoreB_,lCXMidCoreB_])
 obtain ⟨qE, qQ, qL, qK, qN, qG, qZ⟩ := KQ.out
 clear qK qN qG qZ
 have qE1 : (mb == (n3 : Int)) = true := qE
 have qE2 : (mb != (n3 : Int)) = false := by rw [bne, qE]; rfl
 have qQ1 : (mp == p) = true := qQ
 have qQ2 : (mp != p) = false := by rw [bne, qQ]; rfl
 have qL1 : ((n12 : Int) == (n10 : Int)) = true := qL
 have qL2:((n12:Int) != (n10:Int))=false:=by rw [bne,qL];rfl
 have qL3:(n12 == n10)=true:=by rw [← qL];first|exact natbeq _ _|simp
 have n0_ := Aside0.mk (below_drew1 HB.out)
 clear HB
 have HB := n0_
 clear n0_
 refine start_ (n:=58) (S:=fun w'=>w'.heap[g]?=some (.cells #[.int .i64 d,.int .i64 b,.int .i64 p,.slice A3 n3 c3,.int .i64 u,.int .i64 v,.bool o,.int .i64 z,.int .i64 mb,.int .i64 mp,.slice A10 n10 c10,.slice A11 n11 c11,.slice A12 n12 c12,.int .i64 hn,.int .i64 sq,.slice A15 n15 c15,.slice A16 n16 c16,.int .i64 bd,.int .i64 po] 44 (0,0))∧w'.cell? ⟨g,2,none⟩=some (.int .i64 p)∧w'.cell? ⟨g,8,none⟩=some (.int .i64 mb)∧w'.cell? ⟨g,9,none⟩=some (.int .i64 mp)∧w'.cell? ⟨g,10,none⟩=some (.slice A10 n10 c10)∧w'.cell? ⟨g,12,none⟩=some (.slice A12 n12 c12)) (ds:=[]) #[false,false,false,false,false,false,false,false,false,false,false,false,false,false,false,false,false,false,false,false,false,false,false,false,false,false,false,false,false,false,false,false,false,false,false,false,false,false,false,false,false,false,false,false,false,false,false,false,false,false,false,false,false,false,false,false,false,false] (by kernel_rfl) rfl rfl (HS2.out _ HB.out) (fun hHeld=>?_)
 refine with_tabW l14r2.tab l14r2.bits (fun HT_ HW_ => ?_)
 generalize World.drew _ = W5 at HB hHeld ⊢
 refine ord_ [(1,0,some 9),(1,1,some 10),(1,2,some 11),(3,3,some 12)] ?_
 repeat (first|(refine Ord.pureL (v:=?_) (l':=?_) (t':=?_) rfl rfl (fun _ _ _ h=>h) (by kernel_rfl) ?_ ?_ ?_ ?_ ?_;rotate_left 3;dsimp only [s0,s1];rfl;exact any_of HT_.out (by kernel_rfl);intro w';go_simp;(try simp only [i64_w]);with_reducible rfl;dsimp only [s0,s1];rfl)|(refine Ord.midL (i:=3) (v:=.agg #[.int .i64 d,.int .i64 b,.int .i64 p,.slice A3 n3 c3,.int .i64 u,.int .i64 v,.bool o,.int .i64 z]) (l':=?_) (t':=?_) rfl rfl (fun _ _ _ h=>h) (yieldsIf_load_mid rfl 40 (.tmp 11) rfl g 0 rfl [.int .i64 d,.int .i64 b,.int .i64 p,.slice A3 n3 c3,.int .i64 u,.int .i64 v,.bool o,.int .i64 z] _ (fun w' h=>range_part [.int .i64 d,.int .i64 b,.int .i64 p,.slice A3 n3 c3,.int .i64 u,.int .i64 v,.bool o,.int .i64 z,.int .i64 mb,.int .i64 mp,.slice A10 n10 c10,.slice A11 n11 c11,.slice A12 n12 c12,.int .i64 hn,.int .i64 sq,.slice A15 n15 c15,.slice A16 n16 c16,.int .i64 bd,.int .i64 po] h.1 0 [.int .i64 d,.int .i64 b,.int .i64 p,.slice A3 n3 c3,.int .i64 u,.int .i64 v,.bool o,.int .i64 z] rfl) Try.underlying40 rfl (by kernel_rfl)) hHeld ?_ ?_ ?_ ?_;rotate_left 2;dsimp only [s0,s1];rfl;exact take_ofW HT_.out HW_.out (by kernel_rfl);dsimp only [s0,s1];rfl))
 refine Ord.nil ?_
 refine one_ (i:=4) (N:=some 13) #[true,true,true,true,true,false,false,false,false,false,false,false,false,false,false,false,false,false,false,false,false,false,false,false,false,false,false,false,false,false,false,false,false,false,false,false,false,false,false,false,false,false,false,false,false,false,false,false,false,false,false,false,false,false,false,false,false,false] rfl rfl (one_of HT_.out (by kernel_rfl)) (by decide) (fun K hK=>?_)
 refine goes_ Try.func44 (by kernel_rfl) rfl #[.agg #[.int .i64 d,.int .i64 b,.int .i64 p,.slice A3 n3 c3,.int .i64 u,.int .i64 v,.bool o,.int .i64 z]] (by rfl) rfl rfl (by simp only [mAXMidCoreB_,List.map_cons,List.map_nil];rfl) ?_
 with_reducible refine (HF.out _ HB.out).mono ?_
 rintro e W6 ⟨rfl, hb⟩
 refine ⟨_, rfl, ?_⟩
 have n0_ := Aside0.mk (below_step HB.out hb)
 clear HB hb
 have HB := n0_
 clear n0_
 refine hK.out _ _ (HS2.out _ HB.out) (fun hHeld => ?_)
 clear hK K
 refine norm_ (a' := ?_) ?_ ?_
 rotate_left
 ·show Act.put _ (some 13) _ = _
  simp only [Act.put,lSXMidCoreB_,lZXMidCoreB_,lCXMidCoreB_,i64_w,i32_w]
  rfl
 refine ord_ [(1,5,some 14),(1,6,some 15),(1,7,some 16),(1,8,some 17),(1,9,some 18)] ?_
 repeat (first|(refine Ord.pureL (v:=?_) (l':=?_) (t':=?_) rfl rfl (fun _ _ _ h=>h) (by kernel_rfl) ?_ ?_ ?_ ?_ ?_;rotate_left 3;dsimp only [s0,s1];rfl;exact any_of HT_.out (by kernel_rfl);intro w';go_simp;(try simp only [i64_w]);with_reducible rfl;dsimp only [s0,s1];rfl))
 refine Ord.nil ?_
 refine one_ (i:=10) (N:=some 19) #[true,true,true,true,true,true,true,true,true,true,true,false,false,false,false,false,false,false,false,false,false,false,false,false,false,false,false,false,false,false,false,false,false,false,false,false,false,false,false,false,false,false,false,false,false,false,false,false,false,false,false,false,false,false,false,false,false,false] rfl rfl (one_of HT_.out (by kernel_rfl)) (by decide) (fun K hK=>?_)
 refine goes_ Try.func45 (by kernel_rfl) rfl #[.pointer (some ⟨g,8,none⟩)] (by rfl) rfl rfl (by simp only [mAXMidCoreB_,List.map_cons,List.map_nil];rfl) ?_
 with_reducible refine (HM.out _ HB.out).mono ?_
 rintro e W7 ⟨rfl, hb⟩
 refine ⟨_, rfl, ?_⟩
 have n0_ := Aside0.mk (below_step HB.out hb)
 clear HB hb
 have HB := n0_
 clear n0_
 refine hK.out _ _ (HS2.out _ HB.out) (fun hHeld => ?_)
 clear hK K
 refine norm_ (a' := ?_) ?_ ?_
 rotate_left
 ·show Act.put _ (some 19) _ = _
  simp only [Act.put,lSXMidCoreB_,lZXMidCoreB_,lCXMidCoreB_,i64_w,i32_w]
  rfl
 refine ord_ [(1,11,some 20),(1,12,some 21),(1,13,some 22),(1,14,some 23),(1,15,some 24),(1,16,some 25),(1,17,some 26),(1,19,some 28),(2,18,some 27),(1,20,some 29),(1,21,some 30),(1,22,some 31),(1,23,some 32),(1,24,some 33),(1,25,some 34),(1,26,some 35),(1,28,some 37),(1,29,some 38),(1,30,some 39),(1,31,some 40),(1,32,some 41),(2,27,some 36),(2,33,some 42),(1,34,some 43),(1,35,some 44),(1,36,some 45),(1,37,some 46),(1,38,some 47),(1,39,some 48)] ?_
 repeat (first|(refine Ord.pureL (v:=?_) (l':=?_) (t':=?_) rfl rfl (fun _ _ _ h=>h) (by kernel_rfl) ?_ ?_ ?_ ?_ ?_;rotate_left 3;dsimp only [s0,s1];rfl;exact any_of HT_.out (by kernel_rfl);intro w';go_simp;(try simp only [i64_w]);with_reducible rfl;dsimp only [s0,s1];rfl)|(refine Ord.takeL (v:=?_) (l':=?_) (t':=?_) rfl rfl (fun _ _ _ h=>h) hHeld (by kernel_rfl) ?_ ?_ ?_ ?_ ?_;rotate_left 3;dsimp only [s0,s1];rfl;exact take_ofW HT_.out HW_.out (by kernel_rfl);rintro w' ⟨sb,s1,s2,s3,s4,s5⟩;clear sb;go_simp;with_reducible rfl;dsimp only [s0,s1];rfl))
 refine Ord.nil ?_
 refine one_ (i:=40) (N:=some 49) #[true,true,true,true,true,true,true,true,true,true,true,true,true,true,true,true,true,true,true,true,true,true,true,true,true,true,true,true,true,true,true,true,true,true,true,true,true,true,true,true,true,false,false,false,false,false,false,false,false,false,false,false,false,false,false,false,false,false] rfl rfl (one_of HT_.out (by kernel_rfl)) (by decide) (fun K hK=>?_)
 refine goes_ Try.func46 (by kernel_rfl) rfl #[.pointer (some ⟨g,12,none⟩)] (by rfl) rfl rfl (by simp only [mAXMidCoreB_,List.map_cons,List.map_nil];rfl) ?_
 with_reducible refine (HH.out _ HB.out).mono ?_
 rintro e W8 ⟨rfl, hb⟩
 refine ⟨_, rfl, ?_⟩
 have n0_ := Aside0.mk (below_step HB.out hb)
 clear HB hb
 have HB := n0_
 clear n0_
 refine hK.out _ _ (HS2.out _ HB.out) (fun hHeld => ?_)
 clear hK K
 refine norm_ (a' := ?_) ?_ ?_
 rotate_left
 ·show Act.put _ (some 49) _ = _
  simp only [Act.put,lSXMidCoreB_,lZXMidCoreB_,lCXMidCoreB_,i64_w,i32_w]
  rfl
 refine ord_ [(1,41,some 50),(1,42,some 51),(1,43,some 52),(1,44,some 53),(1,45,some 54),(1,46,some 55),(1,47,some 56),(1,50,some 59),(1,51,some 60),(1,52,some 61),(1,53,some 62),(2,48,some 57),(1,49,some 58),(2,54,some 63),(1,55,some 64),(1,56,some 65),(1,57,some 66)] ?_
 repeat (first|(refine Ord.pureL (v:=?_) (l':=?_) (t':=?_) rfl rfl (fun _ _ _ h=>h) (by kernel_rfl) ?_ ?_ ?_ ?_ ?_;rotate_left 3;dsimp only [s0,s1];rfl;exact any_of HT_.out (by kernel_rfl);intro w';go_simp;(try simp only [i64_w]);with_reducible rfl;dsimp only [s0,s1];rfl)|(refine Ord.takeL (v:=?_) (l':=?_) (t':=?_) rfl rfl (fun _ _ _ h=>h) hHeld (by kernel_rfl) ?_ ?_ ?_ ?_ ?_;rotate_left 3;dsimp only [s0,s1];rfl;exact take_ofW HT_.out HW_.out (by kernel_rfl);rintro w' ⟨sb,s1,s2,s3,s4,s5⟩;clear sb;go_simp;with_reducible rfl;dsimp only [s0,s1];rfl))
 refine Ord.nil ?_
 refine done_ (done_of HT_.out (by kernel_rfl)) ?_
 clear hHeld qE qE1 qE2 qQ qQ1 qQ2 qL qL1 qL2 qL3 HF HM HH HBl HS2
 go_upto_region 4 with (fail)
 obtain ⟨z14, z15, z16, z17, z18⟩ := HC4.out _ HB.out
 cases bS with
 | false =>
  obtain rfl : r = false := hr.symm.trans (by first | rfl | simp)
  clear hr
  clear HI0 HI1
  go_wp2_with (first|(go_at_call 47;with_reducible refine Calls.mono (HIS.out _) ?_;rintro e W9 ⟨rfl,hb⟩;have n0_:=Aside0.mk (below_step HB.out hb);clear HB hb;have HB:=n0_;clear n0_;clear z14 z15 z16 z17 z18;obtain ⟨z14,z15,z16,z17,z18⟩:=HC4.out _ HB.out)|(go_at_call 47;with_reducible refine Calls.mono (HIB.out _) ?_;rintro e W10 ⟨rfl,hb⟩;have n0_:=Aside0.mk (below_step HB.out hb);clear HB hb;have HB:=n0_;clear n0_;clear z14 z15 z16 z17 z18;obtain ⟨z14,z15,z16,z17,z18⟩:=HC4.out _ HB.out)|(go_at_call 47;with_reducible refine Calls.mono (HIP.out _) ?_;rintro e W11 ⟨rfl,hb⟩;have n0_:=Aside0.mk (below_step HB.out hb);clear HB hb;have HB:=n0_;clear n0_;clear z14 z15 z16 z17 z18;obtain ⟨z14,z15,z16,z17,z18⟩:=HC4.out _ HB.out))
  go_ret
  exact ⟨rfl, HB.out⟩
 | true =>
  cases bK with
  | false =>
   obtain ⟨qE, qQ, qL, qK, qN, qG, qZ⟩ := KQ.out
   clear qE qQ qL qG qZ
   have qK1 : ((n15 : Int) == (2 : Int)) = false := qK
   have qK2:((n15:Int) != (2:Int))=true:=by rw [bne,qK];rfl
   have qK3 : (n15 == 2) = false := by rw [← qK]; exact natbeq _ 2
   obtain rfl : r = false := hr.symm.trans (by first | rfl | simp)
   clear hr
   clear HI0 HI1
   go_wp2_with (first|(go_at_call 47;with_reducible refine Calls.mono (HIS.out _) ?_;rintro e W9 ⟨rfl,hb⟩;have n0_:=Aside0.mk (below_step HB.out hb);clear HB hb;have HB:=n0_;clear n0_;clear z14 z15 z16 z17 z18;obtain ⟨z14,z15,z16,z17,z18⟩:=HC4.out _ HB.out)|(go_at_call 47;with_reducible refine Calls.mono (HIB.out _) ?_;rintro e W10 ⟨rfl,hb⟩;have n0_:=Aside0.mk (below_step HB.out hb);clear HB hb;have HB:=n0_;clear n0_;clear z14 z15 z16 z17 z18;obtain ⟨z14,z15,z16,z17,z18⟩:=HC4.out _ HB.out)|(go_at_call 47;with_reducible refine Calls.mono (HIP.out _) ?_;rintro e W11 ⟨rfl,hb⟩;have n0_:=Aside0.mk (below_step HB.out hb);clear HB hb;have HB:=n0_;clear n0_;clear z14 z15 z16 z17 z18;obtain ⟨z14,z15,z16,z17,z18⟩:=HC4.out _ HB.out))
   go_ret
   exact ⟨rfl, HB.out⟩
  | true =>
   cases bN with
   | false =>
    obtain ⟨qE, qQ, qL, qK, qN, qG, qZ⟩ := KQ.out
    clear qE qQ qL qG qZ
    have hk2 : n15 = 2 := by have := beq_iff_eq.1 qK; omega
    clear qK
    subst hk2
    have qN1 : ((n16 : Int) == (n3 : Int)) = false := qN
    have qN2:((n16:Int) != (n3:Int))=true:=by rw [bne,qN];rfl
    have qN3:(n16 == n3)=false:=by rw [← qN];first|exact natbeq _ _|simp
    obtain rfl:r=false:=hr.symm.trans (by first|rfl|simp)
    clear hr
    clear HI0 HI1
    go_wp2_with (first|(go_at_call 47;with_reducible refine Calls.mono (HIS.out _) ?_;rintro e W9 ⟨rfl,hb⟩;have n0_:=Aside0.mk (below_step HB.out hb);clear HB hb;have HB:=n0_;clear n0_;clear z14 z15 z16 z17 z18;obtain ⟨z14,z15,z16,z17,z18⟩:=HC4.out _ HB.out)|(go_at_call 47;with_reducible refine Calls.mono (HIB.out _) ?_;rintro e W10 ⟨rfl,hb⟩;have n0_:=Aside0.mk (below_step HB.out hb);clear HB hb;have HB:=n0_;clear n0_;clear z14 z15 z16 z17 z18;obtain ⟨z14,z15,z16,z17,z18⟩:=HC4.out _ HB.out)|(go_at_call 47;with_reducible refine Calls.mono (HIP.out _) ?_;rintro e W11 ⟨rfl,hb⟩;have n0_:=Aside0.mk (below_step HB.out hb);clear HB hb;have HB:=n0_;clear n0_;clear z14 z15 z16 z17 z18;obtain ⟨z14,z15,z16,z17,z18⟩:=HC4.out _ HB.out))
    go_ret
    exact ⟨rfl, HB.out⟩
   | true =>
    cases bB with
    | false =>
     obtain ⟨qE, qQ, qL, qK, qN, qG, qZ⟩ := KQ.out
     clear qE qQ qL qG qZ
     have hk2 : n15 = 2 := by have := beq_iff_eq.1 qK; omega
     clear qK
     subst hk2
     have hn2 : n3 = n16 := by have := beq_iff_eq.1 qN; omega
     clear qN
     subst hn2
     obtain rfl:r=false:=hr.symm.trans (by first|rfl|simp)
     clear hr
     clear HI0 HI1
     go_wp2_with (first|(go_at_call 47;with_reducible refine Calls.mono (HIS.out _) ?_;rintro e W9 ⟨rfl,hb⟩;have n0_:=Aside0.mk (below_step HB.out hb);clear HB hb;have HB:=n0_;clear n0_;clear z14 z15 z16 z17 z18;obtain ⟨z14,z15,z16,z17,z18⟩:=HC4.out _ HB.out)|(go_at_call 47;with_reducible refine Calls.mono (HIB.out _) ?_;rintro e W10 ⟨rfl,hb⟩;have n0_:=Aside0.mk (below_step HB.out hb);clear HB hb;have HB:=n0_;clear n0_;clear z14 z15 z16 z17 z18;obtain ⟨z14,z15,z16,z17,z18⟩:=HC4.out _ HB.out)|(go_at_call 47;with_reducible refine Calls.mono (HIP.out _) ?_;rintro e W11 ⟨rfl,hb⟩;have n0_:=Aside0.mk (below_step HB.out hb);clear HB hb;have HB:=n0_;clear n0_;clear z14 z15 z16 z17 z18;obtain ⟨z14,z15,z16,z17,z18⟩:=HC4.out _ HB.out))
     go_ret
     exact ⟨rfl, HB.out⟩
    | true =>
     cases bP with
     | false =>
      obtain ⟨qE, qQ, qL, qK, qN, qG, qZ⟩ := KQ.out
      clear qE qQ qL qG qZ
      have hk2 : n15 = 2 := by have := beq_iff_eq.1 qK; omega
      clear qK
      subst hk2
      have hn2 : n3 = n16 := by have := beq_iff_eq.1 qN; omega
      clear qN
      subst hn2
      obtain rfl:r=false:=hr.symm.trans (by first|rfl|simp)
      clear hr
      clear HI0 HI1
      go_wp2_with (first|(go_at_call 47;with_reducible refine Calls.mono (HIS.out _) ?_;rintro e W9 ⟨rfl,hb⟩;have n0_:=Aside0.mk (below_step HB.out hb);clear HB hb;have HB:=n0_;clear n0_;clear z14 z15 z16 z17 z18;obtain ⟨z14,z15,z16,z17,z18⟩:=HC4.out _ HB.out)|(go_at_call 47;with_reducible refine Calls.mono (HIB.out _) ?_;rintro e W10 ⟨rfl,hb⟩;have n0_:=Aside0.mk (below_step HB.out hb);clear HB hb;have HB:=n0_;clear n0_;clear z14 z15 z16 z17 z18;obtain ⟨z14,z15,z16,z17,z18⟩:=HC4.out _ HB.out)|(go_at_call 47;with_reducible refine Calls.mono (HIP.out _) ?_;rintro e W11 ⟨rfl,hb⟩;have n0_:=Aside0.mk (below_step HB.out hb);clear HB hb;have HB:=n0_;clear n0_;clear z14 z15 z16 z17 z18;obtain ⟨z14,z15,z16,z17,z18⟩:=HC4.out _ HB.out))
      go_ret
      exact ⟨rfl, HB.out⟩
     | true =>
      obtain ⟨qE, qQ, qL, qK, qN, qG, qZ⟩ := KQ.out
      clear qE qQ qL qG qZ
      have hk2 : n15 = 2 := by have := beq_iff_eq.1 qK; omega
      clear qK
      subst hk2
      obtain ⟨ad, e15, hc0, hc1⟩ := HEL.out rfl
      subst e15
      have LO:ad.block < w.heap.size:=World.block_lt_of_cell? w _ hc0
      have HS6:Aside0 (∀ w',Below w.heap.size w w'→(w'.cell? ⟨g,15,none⟩=some (.slice (some ad) 2 c15)∧w'.cell? ad=some (.int .i64 o0)∧w'.cell? ⟨ad.block,ad.off+1,none⟩=some (.int .i64 o1))):=⟨fun w' hb=>⟨(HC4.out _ hb).2.1,(hb.cell LO).trans hc0,(hb.cell (show (⟨ad.block,ad.off+1,none⟩:Addr).block < _ from LO)).trans hc1⟩⟩
      clear hc0 hc1 LO HEL
      have hn2 : n3 = n16 := by have := beq_iff_eq.1 qN; omega
      clear qN
      subst hn2
      go_upto_region 6 with (first|(go_at_call 47;with_reducible refine Calls.mono (HIS.out _) ?_;rintro e W9 ⟨rfl,hb⟩;have n0_:=Aside0.mk (below_step HB.out hb);clear HB hb;have HB:=n0_;clear n0_;clear z14 z15 z16 z17 z18;obtain ⟨z14,z15,z16,z17,z18⟩:=HC4.out _ HB.out)|(go_at_call 47;with_reducible refine Calls.mono (HIB.out _) ?_;rintro e W10 ⟨rfl,hb⟩;have n0_:=Aside0.mk (below_step HB.out hb);clear HB hb;have HB:=n0_;clear n0_;clear z14 z15 z16 z17 z18;obtain ⟨z14,z15,z16,z17,z18⟩:=HC4.out _ HB.out)|(go_at_call 47;with_reducible refine Calls.mono (HIP.out _) ?_;rintro e W11 ⟨rfl,hb⟩;have n0_:=Aside0.mk (below_step HB.out hb);clear HB hb;have HB:=n0_;clear n0_;clear z14 z15 z16 z17 z18;obtain ⟨z14,z15,z16,z17,z18⟩:=HC4.out _ HB.out))
      (try simp only [Act.put,lSXMidCoreB_,lZXMidCoreB_,lCXMidCoreB_])
      clear z14 z15 z16 z17 z18 HIS HIB HIP
      cases bI with
      | false =>
       obtain rfl:r=false:=hr.symm.trans (by first|rfl|simp)
       clear hr
       have n0_ := Aside0.mk (below_drew1 HB.out)
       clear HB
       have HB := n0_
       clear n0_
       refine start_ (n:=46) (S:=fun w'=>w'.cell? ⟨g,15,none⟩=some (.slice (some ad) 2 c15)∧w'.cell? ad=some (.int .i64 o0)∧w'.cell? ⟨ad.block,ad.off+1,none⟩=some (.int .i64 o1)) (ds:=[]) #[false,false,false,false,false,false,false,false,false,false,false,false,false,false,false,false,false,false,false,false,false,false,false,false,false,false,false,false,false,false,false,false,false,false,false,false,false,false,false,false,false,false,false,false,false,false] (by kernel_rfl) rfl rfl (HS6.out _ HB.out) (fun hHeld=>?_)
       refine with_tabW l14r6.tab l14r6.bits (fun HT_ HW_=>?_)
       generalize World.drew _ = W5 at HB hHeld ⊢
       refine ord_ [(1,0,some 106),(1,1,some 107),(1,2,some 108),(1,6,some 112),(1,7,some 113),(2,3,some 109),(1,4,some 110),(2,5,some 111)] ?_
       repeat (first|(refine Ord.pureL (v:=?_) (l':=?_) (t':=?_) rfl rfl (fun _ _ _ h=>h) (by kernel_rfl) ?_ ?_ ?_ ?_ ?_;rotate_left 3;dsimp only [s0,s1];rfl;exact any_of HT_.out (by kernel_rfl);intro w';go_simp;(try simp only [i64_w]);with_reducible rfl;dsimp only [s0,s1];rfl)|(refine Ord.takeL (v:=?_) (l':=?_) (t':=?_) rfl rfl (fun _ _ _ h=>h) hHeld (by kernel_rfl) ?_ ?_ ?_ ?_ ?_;rotate_left 3;dsimp only [s0,s1];rfl;exact take_ofW HT_.out HW_.out (by kernel_rfl);rintro w' ⟨s0,s1,s2⟩;go_simp;with_reducible rfl;dsimp only [s0,s1];rfl))
       refine Ord.nil ?_
       refine one_ (i:=8) (N:=some 114) #[true,true,true,true,true,true,true,true,true,false,false,false,false,false,false,false,false,false,false,false,false,false,false,false,false,false,false,false,false,false,false,false,false,false,false,false,false,false,false,false,false,false,false,false,false,false] rfl rfl (one_of HT_.out (by kernel_rfl)) (by decide) (fun K hK=>?_)
       refine goes_ Try.func47 (by kernel_rfl) rfl #[.int .i64 o0,.int .i64 (-1),.int .i64 (wrap64 ((n3:Int) - 1))] (by rfl) rfl rfl (by simp only [mAXMidCoreB_,List.map_cons,List.map_nil];rfl) ?_
       with_reducible refine (HI0.out _).mono ?_
       rintro e W6 ⟨rfl, hb⟩
       refine ⟨_, rfl, ?_⟩
       have n0_ := Aside0.mk (below_step HB.out hb)
       clear HB hb
       have HB := n0_
       clear n0_
       refine hK.out _ _ (HS6.out _ HB.out) (fun hHeld => ?_)
       clear hK K
       refine norm_ (a' := ?_) ?_ ?_
       rotate_left
       ·show Act.put _ (some 114) _ = _
        simp only [Act.put,lSXMidCoreB_,lZXMidCoreB_,lCXMidCoreB_,i64_w,i32_w]
        rfl
       refine ord_ [(1,9,some 115),(1,10,some 116),(0,11,some 117),(0,12,some 118),(0,13,some 119),(0,14,some 120),(0,15,some 121),(0,16,some 122),(0,17,some 123),(0,18,some 124),(0,19,some 125),(0,20,some 126),(1,21,some 127),(1,22,some 128),(0,23,some 129),(0,24,some 130),(0,25,some 131),(0,26,some 132),(0,27,some 133),(0,28,some 134),(0,29,some 135),(0,30,some 136),(0,31,some 137),(0,32,some 138),(0,33,some 139),(0,34,some 140),(0,35,some 141),(0,36,some 142),(0,37,some 143),(0,38,some 144),(0,39,some 145),(0,40,some 146),(0,41,some 147),(0,42,some 148),(0,43,some 149),(0,44,some 150),(1,45,some 151)] ?_
       repeat (first|(refine Ord.offL (l':=?_) (t':=?_) rfl rfl (fun _ _ _ h=>h) (by kernel_rfl) ?_ ?_ ?_ ?_;rotate_left 2;dsimp only [s0,s1];rfl;exact any_of HT_.out (by kernel_rfl);dsimp only [s0,s1];rfl)|(refine Ord.pureL (v:=?_) (l':=?_) (t':=?_) rfl rfl (fun _ _ _ h=>h) (by kernel_rfl) ?_ ?_ ?_ ?_ ?_;rotate_left 3;dsimp only [s0,s1];rfl;exact any_of HT_.out (by kernel_rfl);intro w';go_simp;(try simp only [i64_w]);with_reducible rfl;dsimp only [s0,s1];rfl))
       refine Ord.nil ?_
       refine done_ (done_of HT_.out (by kernel_rfl)) ?_
       clear hHeld
       try go_wp2
       go_ret
       exact ⟨rfl, HB.out⟩
      | true =>
       cases bJ with
       | false =>
        obtain rfl:r=false:=hr.symm.trans (by first|rfl|simp)
        clear hr
        have n0_ := Aside0.mk (below_drew1 HB.out)
        clear HB
        have HB := n0_
        clear n0_
        refine start_ (n:=46) (S:=fun w'=>w'.cell? ⟨g,15,none⟩=some (.slice (some ad) 2 c15)∧w'.cell? ad=some (.int .i64 o0)∧w'.cell? ⟨ad.block,ad.off+1,none⟩=some (.int .i64 o1)) (ds:=[]) #[false,false,false,false,false,false,false,false,false,false,false,false,false,false,false,false,false,false,false,false,false,false,false,false,false,false,false,false,false,false,false,false,false,false,false,false,false,false,false,false,false,false,false,false,false,false] (by kernel_rfl) rfl rfl (HS6.out _ HB.out) (fun hHeld=>?_)
        refine with_tabW l14r6.tab l14r6.bits (fun HT_ HW_=>?_)
        generalize World.drew _ = W5 at HB hHeld ⊢
        refine ord_ [(1,0,some 106),(1,1,some 107),(1,2,some 108),(1,6,some 112),(1,7,some 113),(2,3,some 109),(1,4,some 110),(2,5,some 111)] ?_
        repeat (first|(refine Ord.pureL (v:=?_) (l':=?_) (t':=?_) rfl rfl (fun _ _ _ h=>h) (by kernel_rfl) ?_ ?_ ?_ ?_ ?_;rotate_left 3;dsimp only [s0,s1];rfl;exact any_of HT_.out (by kernel_rfl);intro w';go_simp;(try simp only [i64_w]);with_reducible rfl;dsimp only [s0,s1];rfl)|(refine Ord.takeL (v:=?_) (l':=?_) (t':=?_) rfl rfl (fun _ _ _ h=>h) hHeld (by kernel_rfl) ?_ ?_ ?_ ?_ ?_;rotate_left 3;dsimp only [s0,s1];rfl;exact take_ofW HT_.out HW_.out (by kernel_rfl);rintro w' ⟨s0,s1,s2⟩;go_simp;with_reducible rfl;dsimp only [s0,s1];rfl))
        refine Ord.nil ?_
        refine one_ (i:=8) (N:=some 114) #[true,true,true,true,true,true,true,true,true,false,false,false,false,false,false,false,false,false,false,false,false,false,false,false,false,false,false,false,false,false,false,false,false,false,false,false,false,false,false,false,false,false,false,false,false,false] rfl rfl (one_of HT_.out (by kernel_rfl)) (by decide) (fun K hK=>?_)
        refine goes_ Try.func47 (by kernel_rfl) rfl #[.int .i64 o0,.int .i64 (-1),.int .i64 (wrap64 ((n3:Int) - 1))] (by rfl) rfl rfl (by simp only [mAXMidCoreB_,List.map_cons,List.map_nil];rfl) ?_
        with_reducible refine (HI0.out _).mono ?_
        rintro e W6 ⟨rfl, hb⟩
        refine ⟨_, rfl, ?_⟩
        have n0_ := Aside0.mk (below_step HB.out hb)
        clear HB hb
        have HB := n0_
        clear n0_
        refine hK.out _ _ (HS6.out _ HB.out) (fun hHeld=>?_)
        clear hK K
        refine norm_ (a' := ?_) ?_ ?_
        rotate_left
        ·show Act.put _ (some 114) _ = _
         simp only [Act.put,lSXMidCoreB_,lZXMidCoreB_,lCXMidCoreB_,i64_w,i32_w]
         rfl
        refine ord_ [(1,9,some 115),(1,10,some 116),(1,11,some 117),(1,12,some 118),(1,13,some 119),(1,17,some 123),(1,18,some 124),(2,14,some 120),(1,15,some 121),(2,16,some 122)] ?_
        repeat (first|(refine Ord.pureL (v:=?_) (l':=?_) (t':=?_) rfl rfl (fun _ _ _ h=>h) (by kernel_rfl) ?_ ?_ ?_ ?_ ?_;rotate_left 3;dsimp only [s0,s1];rfl;exact any_of HT_.out (by kernel_rfl);intro w';go_simp;(try simp only [i64_w]);with_reducible rfl;dsimp only [s0,s1];rfl)|(refine Ord.takeL (v:=?_) (l':=?_) (t':=?_) rfl rfl (fun _ _ _ h=>h) hHeld (by kernel_rfl) ?_ ?_ ?_ ?_ ?_;rotate_left 3;dsimp only [s0,s1];rfl;exact take_ofW HT_.out HW_.out (by kernel_rfl);rintro w' ⟨s0,s1,s2⟩;go_simp;with_reducible rfl;dsimp only [s0,s1];rfl))
        refine Ord.nil ?_
        refine one_ (i:=19) (N:=some 125) #[true,true,true,true,true,true,true,true,true,true,true,true,true,true,true,true,true,true,true,true,false,false,false,false,false,false,false,false,false,false,false,false,false,false,false,false,false,false,false,false,false,false,false,false,false,false] rfl rfl (one_of HT_.out (by kernel_rfl)) (by decide) (fun K hK=>?_)
        refine goes_ Try.func47 (by kernel_rfl) rfl #[.int .i64 o1,.int .i64 (-1),.int .i64 (wrap64 ((n3:Int) - 1))] (by rfl) rfl rfl (by simp only [mAXMidCoreB_,List.map_cons,List.map_nil];rfl) ?_
        with_reducible refine (HI1.out _).mono ?_
        rintro e W7 ⟨rfl, hb⟩
        refine ⟨_, rfl, ?_⟩
        have n0_ := Aside0.mk (below_step HB.out hb)
        clear HB hb
        have HB := n0_
        clear n0_
        refine hK.out _ _ (HS6.out _ HB.out) (fun hHeld=>?_)
        clear hK K
        refine norm_ (a' := ?_) ?_ ?_
        rotate_left
        ·show Act.put _ (some 125) _ = _
         simp only [Act.put,lSXMidCoreB_,lZXMidCoreB_,lCXMidCoreB_,i64_w,i32_w]
         rfl
        refine ord_ [(1,20,some 126),(1,21,some 127),(1,22,some 128),(0,23,some 129),(0,24,some 130),(0,25,some 131),(0,26,some 132),(0,27,some 133),(0,28,some 134),(0,29,some 135),(0,30,some 136),(0,31,some 137),(0,32,some 138),(0,33,some 139),(0,34,some 140),(0,35,some 141),(0,36,some 142),(0,37,some 143),(0,38,some 144),(0,39,some 145),(0,40,some 146),(0,41,some 147),(0,42,some 148),(0,43,some 149),(0,44,some 150),(1,45,some 151)] ?_
        repeat (first|(refine Ord.offL (l':=?_) (t':=?_) rfl rfl (fun _ _ _ h=>h) (by kernel_rfl) ?_ ?_ ?_ ?_;rotate_left 2;dsimp only [s0,s1];rfl;exact any_of HT_.out (by kernel_rfl);dsimp only [s0,s1];rfl)|(refine Ord.pureL (v:=?_) (l':=?_) (t':=?_) rfl rfl (fun _ _ _ h=>h) (by kernel_rfl) ?_ ?_ ?_ ?_ ?_;rotate_left 3;dsimp only [s0,s1];rfl;exact any_of HT_.out (by kernel_rfl);intro w';go_simp;(try simp only [i64_w]);with_reducible rfl;dsimp only [s0,s1];rfl))
        refine Ord.nil ?_
        refine done_ (done_of HT_.out (by kernel_rfl)) ?_
        clear hHeld
        try go_wp2
        go_ret
        exact ⟨rfl, HB.out⟩
       | true =>
        cases bG with
        | false =>
         obtain ⟨qE, qQ, qL, qK, qN, qG, qZ⟩ := KQ.out
         clear qE qQ qL qK qN
         have qG1 : decide (0 ≤ o0) = false := qG
         obtain rfl:r=allIn X 0 1000000:=hr.symm.trans (by first|rfl|simp)
         clear hr
         have n0_ := Aside0.mk (below_drew1 HB.out)
         clear HB
         have HB := n0_
         clear n0_
         refine start_ (n:=46) (S:=fun w'=>w'.cell? ⟨g,15,none⟩=some (.slice (some ad) 2 c15)∧w'.cell? ad=some (.int .i64 o0)∧w'.cell? ⟨ad.block,ad.off+1,none⟩=some (.int .i64 o1)) (ds:=[]) #[false,false,false,false,false,false,false,false,false,false,false,false,false,false,false,false,false,false,false,false,false,false,false,false,false,false,false,false,false,false,false,false,false,false,false,false,false,false,false,false,false,false,false,false,false,false] (by kernel_rfl) rfl rfl (HS6.out _ HB.out) (fun hHeld=>?_)
         refine with_tabW l14r6.tab l14r6.bits (fun HT_ HW_=>?_)
         generalize World.drew _ = W5 at HB hHeld ⊢
         refine ord_ [(1,0,some 106),(1,1,some 107),(1,2,some 108),(1,6,some 112),(1,7,some 113),(2,3,some 109),(1,4,some 110),(2,5,some 111)] ?_
         repeat (first|(refine Ord.pureL (v:=?_) (l':=?_) (t':=?_) rfl rfl (fun _ _ _ h=>h) (by kernel_rfl) ?_ ?_ ?_ ?_ ?_;rotate_left 3;dsimp only [s0,s1];rfl;exact any_of HT_.out (by kernel_rfl);intro w';go_simp;(try simp only [i64_w]);with_reducible rfl;dsimp only [s0,s1];rfl)|(refine Ord.takeL (v:=?_) (l':=?_) (t':=?_) rfl rfl (fun _ _ _ h=>h) hHeld (by kernel_rfl) ?_ ?_ ?_ ?_ ?_;rotate_left 3;dsimp only [s0,s1];rfl;exact take_ofW HT_.out HW_.out (by kernel_rfl);rintro w' ⟨s0,s1,s2⟩;go_simp;with_reducible rfl;dsimp only [s0,s1];rfl))
         refine Ord.nil ?_
         refine one_ (i:=8) (N:=some 114) #[true,true,true,true,true,true,true,true,true,false,false,false,false,false,false,false,false,false,false,false,false,false,false,false,false,false,false,false,false,false,false,false,false,false,false,false,false,false,false,false,false,false,false,false,false,false] rfl rfl (one_of HT_.out (by kernel_rfl)) (by decide) (fun K hK=>?_)
         refine goes_ Try.func47 (by kernel_rfl) rfl #[.int .i64 o0,.int .i64 (-1),.int .i64 (wrap64 ((n3:Int) - 1))] (by rfl) rfl rfl (by simp only [mAXMidCoreB_,List.map_cons,List.map_nil];rfl) ?_
         with_reducible refine (HI0.out _).mono ?_
         rintro e W6 ⟨rfl, hb⟩
         refine ⟨_, rfl, ?_⟩
         have n0_ := Aside0.mk (below_step HB.out hb)
         clear HB hb
         have HB := n0_
         clear n0_
         refine hK.out _ _ (HS6.out _ HB.out) (fun hHeld=>?_)
         clear hK K
         refine norm_ (a' := ?_) ?_ ?_
         rotate_left
         ·show Act.put _ (some 114) _ = _
          simp only [Act.put,lSXMidCoreB_,lZXMidCoreB_,lCXMidCoreB_,i64_w,i32_w]
          rfl
         refine ord_ [(1,9,some 115),(1,10,some 116),(1,11,some 117),(1,12,some 118),(1,13,some 119),(1,17,some 123),(1,18,some 124),(2,14,some 120),(1,15,some 121),(2,16,some 122)] ?_
         repeat (first|(refine Ord.pureL (v:=?_) (l':=?_) (t':=?_) rfl rfl (fun _ _ _ h=>h) (by kernel_rfl) ?_ ?_ ?_ ?_ ?_;rotate_left 3;dsimp only [s0,s1];rfl;exact any_of HT_.out (by kernel_rfl);intro w';go_simp;(try simp only [i64_w]);with_reducible rfl;dsimp only [s0,s1];rfl)|(refine Ord.takeL (v:=?_) (l':=?_) (t':=?_) rfl rfl (fun _ _ _ h=>h) hHeld (by kernel_rfl) ?_ ?_ ?_ ?_ ?_;rotate_left 3;dsimp only [s0,s1];rfl;exact take_ofW HT_.out HW_.out (by kernel_rfl);rintro w' ⟨s0,s1,s2⟩;go_simp;with_reducible rfl;dsimp only [s0,s1];rfl))
         refine Ord.nil ?_
         refine one_ (i:=19) (N:=some 125) #[true,true,true,true,true,true,true,true,true,true,true,true,true,true,true,true,true,true,true,true,false,false,false,false,false,false,false,false,false,false,false,false,false,false,false,false,false,false,false,false,false,false,false,false,false,false] rfl rfl (one_of HT_.out (by kernel_rfl)) (by decide) (fun K hK=>?_)
         refine goes_ Try.func47 (by kernel_rfl) rfl #[.int .i64 o1,.int .i64 (-1),.int .i64 (wrap64 ((n3:Int) - 1))] (by rfl) rfl rfl (by simp only [mAXMidCoreB_,List.map_cons,List.map_nil];rfl) ?_
         with_reducible refine (HI1.out _).mono ?_
         rintro e W7 ⟨rfl, hb⟩
         refine ⟨_, rfl, ?_⟩
         have n0_ := Aside0.mk (below_step HB.out hb)
         clear HB hb
         have HB := n0_
         clear n0_
         refine hK.out _ _ (HS6.out _ HB.out) (fun hHeld=>?_)
         clear hK K
         refine norm_ (a' := ?_) ?_ ?_
         rotate_left
         ·show Act.put _ (some 125) _ = _
          simp only [Act.put,lSXMidCoreB_,lZXMidCoreB_,lCXMidCoreB_,i64_w,i32_w]
          rfl
         refine ord_ [(1,20,some 126),(1,21,some 127),(1,22,some 128),(1,23,some 129),(1,24,some 130),(1,25,some 131),(2,26,some 132),(1,27,some 133),(2,28,some 134),(1,29,some 135),(1,30,some 136),(0,31,some 137),(0,32,some 138),(0,33,some 139),(0,34,some 140),(0,35,some 141),(0,36,some 142),(0,37,some 143),(0,38,some 144),(0,39,some 145),(0,40,some 146),(0,41,some 147),(0,42,some 148),(0,43,some 149),(1,44,some 150),(1,45,some 151)] ?_
         repeat (first|(refine Ord.offL (l':=?_) (t':=?_) rfl rfl (fun _ _ _ h=>h) (by kernel_rfl) ?_ ?_ ?_ ?_;rotate_left 2;dsimp only [s0,s1];rfl;exact any_of HT_.out (by kernel_rfl);dsimp only [s0,s1];rfl)|(refine Ord.pureL (v:=?_) (l':=?_) (t':=?_) rfl rfl (fun _ _ _ h=>h) (by kernel_rfl) ?_ ?_ ?_ ?_ ?_;rotate_left 3;dsimp only [s0,s1];rfl;exact any_of HT_.out (by kernel_rfl);intro w';go_simp;(try simp only [i64_w]);with_reducible rfl;dsimp only [s0,s1];rfl)|(refine Ord.takeL (v:=?_) (l':=?_) (t':=?_) rfl rfl (fun _ _ _ h=>h) hHeld (by kernel_rfl) ?_ ?_ ?_ ?_ ?_;rotate_left 3;dsimp only [s0,s1];rfl;exact take_ofW HT_.out HW_.out (by kernel_rfl);rintro w' ⟨s0,s1,s2⟩;go_simp;with_reducible rfl;dsimp only [s0,s1];rfl))
         refine Ord.nil ?_
         refine done_ (done_of HT_.out (by kernel_rfl)) ?_
         clear hHeld
         try go_wp2
         go_loopg [4] X.length (fun gg s4 wr=>∃ kk:Nat,kk≤X.length∧X.length - kk≤gg∧s4=.int .i64 kk∧Aside0 (Below w.heap.size w wr)∧Aside0 (∀ (j:Nat) (y:Int),j < kk→X[j]?=some y→decide (0≤y∧y≤1000000)=true))
         case atStart=>exact ⟨0,Nat.zero_le _,by omega,rfl,HB,⟨fun j y hj=>absurd hj (Nat.not_lt_zero _)⟩⟩
         case round =>
          clear HB
          obtain ⟨kk, hkk, hg, rfl, HB, HA⟩ := hrel
          have z16 := (HC16.out _ HB.out).2
          have hbig := HRX.out.2.1
          by_cases hlt : kk < X.length
          ·obtain ⟨ad2,e16,hcell⟩:=Kd.at_int (Kd.C_below HRX.out HB.out) (kk:Int) (by omega) (by omega)
           subst e16
           rw [Int.toNat_natCast,show rd X (kk:Int)=X[kk] from by simp [rd,hlt]] at hcell
           have hlti:(kk:Int) < (n3:Int):=by have:=HXX.out;omega
           have hltb:decide ((kk:Int) < (n3:Int))=true:=decide_eq_true hlti
           have HX:=Aside0.mk (List.getElem?_eq_getElem hlt)
           have HS2:=Aside0.mk (inS_calls X[kk] 0 1000000)
           generalize X[kk] = y at hcell HX HS2
           cases hq : decide (0 ≤ y ∧ y ≤ 1000000) with
           | false =>
            rw [hq] at HS2
            have HQ := Aside0.mk hq
            clear hq
            go_wp2_with (go_at_call 47;refine (HS2.out _).mono ?_;rintro e w2 ⟨rfl,hb2⟩)
            go_ret
            exact ⟨by rw [allIn_false HX.out HQ.out];rfl,HB.out.trans (hb2.mono HB.out.size)⟩
           | true =>
            rw [hq] at HS2
            have HQ := Aside0.mk hq
            clear hq
            go_wp2_with (go_at_call 47;refine (HS2.out _).mono ?_;rintro e w2 ⟨rfl,hb2⟩)
            go_roundg (X.length - (kk + 1))
            case measure => omega
            case rel =>
             refine ⟨kk+1,by omega,by omega,by go_num,⟨HB.out.trans (hb2.mono HB.out.size)⟩,⟨fun j z hj hz=>?_⟩⟩
             by_cases e : j = kk
             ·subst e
              have := HX.out.symm.trans hz
              simp only [Option.some.injEq] at this
              rw [← this]
              exact HQ.out
             ·exact HA.out j z (by omega) hz
          ·have hlti:¬ (kk:Int) < (n3:Int):=by have:=HXX.out;omega
           have hltb:decide ((kk:Int) < (n3:Int))=false:=decide_eq_false hlti
           have hk : kk = X.length := by omega
           have HM:=Aside0.mk (allIn_true (fun j y hj hy=>HA.out j y (by omega) hy))
           clear hk
           go_wp2
           go_ret
           exact ⟨by rw [HM.out]; rfl, HB.out⟩
        | true =>
         cases bZ with
         | true =>
          obtain ⟨qE, qQ, qL, qK, qN, qG, qZ⟩ := KQ.out
          clear qE qQ qL qK qN
          have qG1 : decide (0 ≤ o0) = true := qG
          have qZ1 : (o0 == o1) = true := qZ
          obtain rfl:r=false:=hr.symm.trans (by first|rfl|simp)
          clear hr
          have n0_ := Aside0.mk (below_drew1 HB.out)
          clear HB
          have HB := n0_
          clear n0_
          refine start_ (n:=46) (S:=fun w'=>w'.cell? ⟨g,15,none⟩=some (.slice (some ad) 2 c15)∧w'.cell? ad=some (.int .i64 o0)∧w'.cell? ⟨ad.block,ad.off+1,none⟩=some (.int .i64 o1)) (ds:=[]) #[false,false,false,false,false,false,false,false,false,false,false,false,false,false,false,false,false,false,false,false,false,false,false,false,false,false,false,false,false,false,false,false,false,false,false,false,false,false,false,false,false,false,false,false,false,false] (by kernel_rfl) rfl rfl (HS6.out _ HB.out) (fun hHeld=>?_)
          refine with_tabW l14r6.tab l14r6.bits (fun HT_ HW_=>?_)
          generalize World.drew _ = W5 at HB hHeld ⊢
          refine ord_ [(1,0,some 106),(1,1,some 107),(1,2,some 108),(1,6,some 112),(1,7,some 113),(2,3,some 109),(1,4,some 110),(2,5,some 111)] ?_
          repeat (first|(refine Ord.pureL (v:=?_) (l':=?_) (t':=?_) rfl rfl (fun _ _ _ h=>h) (by kernel_rfl) ?_ ?_ ?_ ?_ ?_;rotate_left 3;dsimp only [s0,s1];rfl;exact any_of HT_.out (by kernel_rfl);intro w';go_simp;(try simp only [i64_w]);with_reducible rfl;dsimp only [s0,s1];rfl)|(refine Ord.takeL (v:=?_) (l':=?_) (t':=?_) rfl rfl (fun _ _ _ h=>h) hHeld (by kernel_rfl) ?_ ?_ ?_ ?_ ?_;rotate_left 3;dsimp only [s0,s1];rfl;exact take_ofW HT_.out HW_.out (by kernel_rfl);rintro w' ⟨s0,s1,s2⟩;go_simp;with_reducible rfl;dsimp only [s0,s1];rfl))
          refine Ord.nil ?_
          refine one_ (i:=8) (N:=some 114) #[true,true,true,true,true,true,true,true,true,false,false,false,false,false,false,false,false,false,false,false,false,false,false,false,false,false,false,false,false,false,false,false,false,false,false,false,false,false,false,false,false,false,false,false,false,false] rfl rfl (one_of HT_.out (by kernel_rfl)) (by decide) (fun K hK=>?_)
          refine goes_ Try.func47 (by kernel_rfl) rfl #[.int .i64 o0,.int .i64 (-1),.int .i64 (wrap64 ((n3:Int) - 1))] (by rfl) rfl rfl (by simp only [mAXMidCoreB_,List.map_cons,List.map_nil];rfl) ?_
          with_reducible refine (HI0.out _).mono ?_
          rintro e W6 ⟨rfl, hb⟩
          refine ⟨_, rfl, ?_⟩
          have n0_ := Aside0.mk (below_step HB.out hb)
          clear HB hb
          have HB := n0_
          clear n0_
          refine hK.out _ _ (HS6.out _ HB.out) (fun hHeld=>?_)
          clear hK K
          refine norm_ (a' := ?_) ?_ ?_
          rotate_left
          ·show Act.put _ (some 114) _ = _
           simp only [Act.put,lSXMidCoreB_,lZXMidCoreB_,lCXMidCoreB_,i64_w,i32_w]
           rfl
          refine ord_ [(1,9,some 115),(1,10,some 116),(1,11,some 117),(1,12,some 118),(1,13,some 119),(1,17,some 123),(1,18,some 124),(2,14,some 120),(1,15,some 121),(2,16,some 122)] ?_
          repeat (first|(refine Ord.pureL (v:=?_) (l':=?_) (t':=?_) rfl rfl (fun _ _ _ h=>h) (by kernel_rfl) ?_ ?_ ?_ ?_ ?_;rotate_left 3;dsimp only [s0,s1];rfl;exact any_of HT_.out (by kernel_rfl);intro w';go_simp;(try simp only [i64_w]);with_reducible rfl;dsimp only [s0,s1];rfl)|(refine Ord.takeL (v:=?_) (l':=?_) (t':=?_) rfl rfl (fun _ _ _ h=>h) hHeld (by kernel_rfl) ?_ ?_ ?_ ?_ ?_;rotate_left 3;dsimp only [s0,s1];rfl;exact take_ofW HT_.out HW_.out (by kernel_rfl);rintro w' ⟨s0,s1,s2⟩;go_simp;with_reducible rfl;dsimp only [s0,s1];rfl))
          refine Ord.nil ?_
          refine one_ (i:=19) (N:=some 125) #[true,true,true,true,true,true,true,true,true,true,true,true,true,true,true,true,true,true,true,true,false,false,false,false,false,false,false,false,false,false,false,false,false,false,false,false,false,false,false,false,false,false,false,false,false,false] rfl rfl (one_of HT_.out (by kernel_rfl)) (by decide) (fun K hK=>?_)
          refine goes_ Try.func47 (by kernel_rfl) rfl #[.int .i64 o1,.int .i64 (-1),.int .i64 (wrap64 ((n3:Int) - 1))] (by rfl) rfl rfl (by simp only [mAXMidCoreB_,List.map_cons,List.map_nil];rfl) ?_
          with_reducible refine (HI1.out _).mono ?_
          rintro e W7 ⟨rfl, hb⟩
          refine ⟨_, rfl, ?_⟩
          have n0_ := Aside0.mk (below_step HB.out hb)
          clear HB hb
          have HB := n0_
          clear n0_
          refine hK.out _ _ (HS6.out _ HB.out) (fun hHeld=>?_)
          clear hK K
          refine norm_ (a' := ?_) ?_ ?_
          rotate_left
          ·show Act.put _ (some 125) _ = _
           simp only [Act.put,lSXMidCoreB_,lZXMidCoreB_,lCXMidCoreB_,i64_w,i32_w]
           rfl
          refine ord_ [(1,20,some 126),(1,21,some 127),(1,22,some 128),(1,23,some 129),(1,24,some 130),(1,25,some 131),(2,26,some 132),(1,27,some 133),(2,28,some 134),(1,29,some 135),(1,30,some 136),(1,31,some 137),(1,32,some 138),(1,33,some 139),(1,37,some 143),(1,38,some 144),(1,39,some 145),(2,34,some 140),(1,35,some 141),(2,36,some 142),(2,40,some 146),(1,41,some 147),(2,42,some 148),(1,43,some 149),(1,44,some 150),(1,45,some 151)] ?_
          repeat (first|(refine Ord.pureL (v:=?_) (l':=?_) (t':=?_) rfl rfl (fun _ _ _ h=>h) (by kernel_rfl) ?_ ?_ ?_ ?_ ?_;rotate_left 3;dsimp only [s0,s1];rfl;exact any_of HT_.out (by kernel_rfl);intro w';go_simp;(try simp only [i64_w]);with_reducible rfl;dsimp only [s0,s1];rfl)|(refine Ord.takeL (v:=?_) (l':=?_) (t':=?_) rfl rfl (fun _ _ _ h=>h) hHeld (by kernel_rfl) ?_ ?_ ?_ ?_ ?_;rotate_left 3;dsimp only [s0,s1];rfl;exact take_ofW HT_.out HW_.out (by kernel_rfl);rintro w' ⟨s0,s1,s2⟩;go_simp;with_reducible rfl;dsimp only [s0,s1];rfl))
          refine Ord.nil ?_
          refine done_ (done_of HT_.out (by kernel_rfl)) ?_
          clear hHeld
          try go_wp2
          go_ret
          exact ⟨rfl, HB.out⟩
         | false =>
          obtain ⟨qE, qQ, qL, qK, qN, qG, qZ⟩ := KQ.out
          clear qE qQ qL qK qN
          have qG1 : decide (0 ≤ o0) = true := qG
          have qZ1 : (o0 == o1) = false := qZ
          obtain rfl:r=allIn X 0 1000000:=hr.symm.trans (by first|rfl|simp)
          clear hr
          have n0_ := Aside0.mk (below_drew1 HB.out)
          clear HB
          have HB := n0_
          clear n0_
          refine start_ (n:=46) (S:=fun w'=>w'.cell? ⟨g,15,none⟩=some (.slice (some ad) 2 c15)∧w'.cell? ad=some (.int .i64 o0)∧w'.cell? ⟨ad.block,ad.off+1,none⟩=some (.int .i64 o1)) (ds:=[]) #[false,false,false,false,false,false,false,false,false,false,false,false,false,false,false,false,false,false,false,false,false,false,false,false,false,false,false,false,false,false,false,false,false,false,false,false,false,false,false,false,false,false,false,false,false,false] (by kernel_rfl) rfl rfl (HS6.out _ HB.out) (fun hHeld=>?_)
          refine with_tabW l14r6.tab l14r6.bits (fun HT_ HW_=>?_)
          generalize World.drew _ = W5 at HB hHeld ⊢
          refine ord_ [(1,0,some 106),(1,1,some 107),(1,2,some 108),(1,6,some 112),(1,7,some 113),(2,3,some 109),(1,4,some 110),(2,5,some 111)] ?_
          repeat (first|(refine Ord.pureL (v:=?_) (l':=?_) (t':=?_) rfl rfl (fun _ _ _ h=>h) (by kernel_rfl) ?_ ?_ ?_ ?_ ?_;rotate_left 3;dsimp only [s0,s1];rfl;exact any_of HT_.out (by kernel_rfl);intro w';go_simp;(try simp only [i64_w]);with_reducible rfl;dsimp only [s0,s1];rfl)|(refine Ord.takeL (v:=?_) (l':=?_) (t':=?_) rfl rfl (fun _ _ _ h=>h) hHeld (by kernel_rfl) ?_ ?_ ?_ ?_ ?_;rotate_left 3;dsimp only [s0,s1];rfl;exact take_ofW HT_.out HW_.out (by kernel_rfl);rintro w' ⟨s0,s1,s2⟩;go_simp;with_reducible rfl;dsimp only [s0,s1];rfl))
          refine Ord.nil ?_
          refine one_ (i:=8) (N:=some 114) #[true,true,true,true,true,true,true,true,true,false,false,false,false,false,false,false,false,false,false,false,false,false,false,false,false,false,false,false,false,false,false,false,false,false,false,false,false,false,false,false,false,false,false,false,false,false] rfl rfl (one_of HT_.out (by kernel_rfl)) (by decide) (fun K hK=>?_)
          refine goes_ Try.func47 (by kernel_rfl) rfl #[.int .i64 o0,.int .i64 (-1),.int .i64 (wrap64 ((n3:Int) - 1))] (by rfl) rfl rfl (by simp only [mAXMidCoreB_,List.map_cons,List.map_nil];rfl) ?_
          with_reducible refine (HI0.out _).mono ?_
          rintro e W6 ⟨rfl, hb⟩
          refine ⟨_, rfl, ?_⟩
          have n0_ := Aside0.mk (below_step HB.out hb)
          clear HB hb
          have HB := n0_
          clear n0_
          refine hK.out _ _ (HS6.out _ HB.out) (fun hHeld=>?_)
          clear hK K
          refine norm_ (a' := ?_) ?_ ?_
          rotate_left
          ·show Act.put _ (some 114) _ = _
           simp only [Act.put,lSXMidCoreB_,lZXMidCoreB_,lCXMidCoreB_,i64_w,i32_w]
           rfl
          refine ord_ [(1,9,some 115),(1,10,some 116),(1,11,some 117),(1,12,some 118),(1,13,some 119),(1,17,some 123),(1,18,some 124),(2,14,some 120),(1,15,some 121),(2,16,some 122)] ?_
          repeat (first|(refine Ord.pureL (v:=?_) (l':=?_) (t':=?_) rfl rfl (fun _ _ _ h=>h) (by kernel_rfl) ?_ ?_ ?_ ?_ ?_;rotate_left 3;dsimp only [s0,s1];rfl;exact any_of HT_.out (by kernel_rfl);intro w';go_simp;(try simp only [i64_w]);with_reducible rfl;dsimp only [s0,s1];rfl)|(refine Ord.takeL (v:=?_) (l':=?_) (t':=?_) rfl rfl (fun _ _ _ h=>h) hHeld (by kernel_rfl) ?_ ?_ ?_ ?_ ?_;rotate_left 3;dsimp only [s0,s1];rfl;exact take_ofW HT_.out HW_.out (by kernel_rfl);rintro w' ⟨s0,s1,s2⟩;go_simp;with_reducible rfl;dsimp only [s0,s1];rfl))
          refine Ord.nil ?_
          refine one_ (i:=19) (N:=some 125) #[true,true,true,true,true,true,true,true,true,true,true,true,true,true,true,true,true,true,true,true,false,false,false,false,false,false,false,false,false,false,false,false,false,false,false,false,false,false,false,false,false,false,false,false,false,false] rfl rfl (one_of HT_.out (by kernel_rfl)) (by decide) (fun K hK=>?_)
          refine goes_ Try.func47 (by kernel_rfl) rfl #[.int .i64 o1,.int .i64 (-1),.int .i64 (wrap64 ((n3:Int) - 1))] (by rfl) rfl rfl (by simp only [mAXMidCoreB_,List.map_cons,List.map_nil];rfl) ?_
          with_reducible refine (HI1.out _).mono ?_
          rintro e W7 ⟨rfl, hb⟩
          refine ⟨_, rfl, ?_⟩
          have n0_ := Aside0.mk (below_step HB.out hb)
          clear HB hb
          have HB := n0_
          clear n0_
          refine hK.out _ _ (HS6.out _ HB.out) (fun hHeld=>?_)
          clear hK K
          refine norm_ (a' := ?_) ?_ ?_
          rotate_left
          ·show Act.put _ (some 125) _ = _
           simp only [Act.put,lSXMidCoreB_,lZXMidCoreB_,lCXMidCoreB_,i64_w,i32_w]
           rfl
          refine ord_ [(1,20,some 126),(1,21,some 127),(1,22,some 128),(1,23,some 129),(1,24,some 130),(1,25,some 131),(2,26,some 132),(1,27,some 133),(2,28,some 134),(1,29,some 135),(1,30,some 136),(1,31,some 137),(1,32,some 138),(1,33,some 139),(1,37,some 143),(1,38,some 144),(1,39,some 145),(2,34,some 140),(1,35,some 141),(2,36,some 142),(2,40,some 146),(1,41,some 147),(2,42,some 148),(1,43,some 149),(1,44,some 150),(1,45,some 151)] ?_
          repeat (first|(refine Ord.pureL (v:=?_) (l':=?_) (t':=?_) rfl rfl (fun _ _ _ h=>h) (by kernel_rfl) ?_ ?_ ?_ ?_ ?_;rotate_left 3;dsimp only [s0,s1];rfl;exact any_of HT_.out (by kernel_rfl);intro w';go_simp;(try simp only [i64_w]);with_reducible rfl;dsimp only [s0,s1];rfl)|(refine Ord.takeL (v:=?_) (l':=?_) (t':=?_) rfl rfl (fun _ _ _ h=>h) hHeld (by kernel_rfl) ?_ ?_ ?_ ?_ ?_;rotate_left 3;dsimp only [s0,s1];rfl;exact take_ofW HT_.out HW_.out (by kernel_rfl);rintro w' ⟨s0,s1,s2⟩;go_simp;with_reducible rfl;dsimp only [s0,s1];rfl))
          refine Ord.nil ?_
          refine done_ (done_of HT_.out (by kernel_rfl)) ?_
          clear hHeld
          try go_wp2
          go_loopg [4] X.length (fun gg s4 wr=>∃ kk:Nat,kk≤X.length∧X.length - kk≤gg∧s4=.int .i64 kk∧Aside0 (Below w.heap.size w wr)∧Aside0 (∀ (j:Nat) (y:Int),j < kk→X[j]?=some y→decide (0≤y∧y≤1000000)=true))
          case atStart=>exact ⟨0,Nat.zero_le _,by omega,rfl,HB,⟨fun j y hj=>absurd hj (Nat.not_lt_zero _)⟩⟩
          case round =>
           clear HB
           obtain ⟨kk, hkk, hg, rfl, HB, HA⟩ := hrel
           have z16 := (HC16.out _ HB.out).2
           have hbig := HRX.out.2.1
           by_cases hlt : kk < X.length
           ·obtain ⟨ad2,e16,hcell⟩:=Kd.at_int (Kd.C_below HRX.out HB.out) (kk:Int) (by omega) (by omega)
            subst e16
            rw [Int.toNat_natCast,show rd X (kk:Int)=X[kk] from by simp [rd,hlt]] at hcell
            have hlti:(kk:Int) < (n3:Int):=by have:=HXX.out;omega
            have hltb:decide ((kk:Int) < (n3:Int))=true:=decide_eq_true hlti
            have HX:=Aside0.mk (List.getElem?_eq_getElem hlt)
            have HS2:=Aside0.mk (inS_calls X[kk] 0 1000000)
            generalize X[kk] = y at hcell HX HS2
            cases hq : decide (0 ≤ y ∧ y ≤ 1000000) with
            | false =>
             rw [hq] at HS2
             have HQ := Aside0.mk hq
             clear hq
             go_wp2_with (go_at_call 47;refine (HS2.out _).mono ?_;rintro e w2 ⟨rfl,hb2⟩)
             go_ret
             exact ⟨by rw [allIn_false HX.out HQ.out];rfl,HB.out.trans (hb2.mono HB.out.size)⟩
            | true =>
             rw [hq] at HS2
             have HQ := Aside0.mk hq
             clear hq
             go_wp2_with (go_at_call 47;refine (HS2.out _).mono ?_;rintro e w2 ⟨rfl,hb2⟩)
             go_roundg (X.length - (kk + 1))
             case measure => omega
             case rel =>
              refine ⟨kk+1,by omega,by omega,by go_num,⟨HB.out.trans (hb2.mono HB.out.size)⟩,⟨fun j z hj hz=>?_⟩⟩
              by_cases e : j = kk
              ·subst e
               have := HX.out.symm.trans hz
               simp only [Option.some.injEq] at this
               rw [← this]
               exact HQ.out
              ·exact HA.out j z (by omega) hz
           ·have hlti:¬ (kk:Int) < (n3:Int):=by have:=HXX.out;omega
            have hltb:decide ((kk:Int) < (n3:Int))=false:=decide_eq_false hlti
            have hk : kk = X.length := by omega
            have HM:=Aside0.mk (allIn_true (fun j y hj hy=>HA.out j y (by omega) hy))
            clear hk
            go_wp2
            go_ret
            exact ⟨by rw [HM.out]; rfl, HB.out⟩
end Go.Proofs.Ytajocpalpnpmdaa.Q
