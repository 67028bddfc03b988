/- The program's ValidFTL: the walks over the known answers of its calls,first part. Conditions: those before each theorem. -/
import Derived.Test.YtajocpalpnpmdaaXOrdL
import Derived.Test.YtajocpalpnpmdaaXMidHeat
import Derived.Test.YtajocpalpnpmdaaOpaque
namespace Go.Proofs.Ytajocpalpnpmdaa.Q
open Go.RowKit Go.Proofs.YtajocpalpnpmdaaW.PrintWords Go.Proofs.YtajocpalpnpmdaaW.PrintMore Go.Proofs.YtajocpalpnpmdaaW.PrintLast
abbrev lSXFtlCoreA_ := @List.setIfInBounds_toArray
abbrev lZXFtlCoreA_ := @List.set_cons_zero
abbrev lCXFtlCoreA_ := @List.set_cons_succ
set_option linter.unusedVariables false
set_option linter.unusedSimpArgs false
theorem natbeqI (a b:Nat):(a == b)=((a:Int) == (b:Int)):=by
 rw [Bool.eq_iff_iff, beq_iff_eq, beq_iff_eq]
 omega
def vftlr1.T:Bool × List (List Nat × List Nat):=(true,[([],[]),([0],[0]),([1],[1]),([2],[2]),([3,2],[3]),([4],[4]),([5,4],[4,5]),([6,4,4],[4,6]),([7,4],[4,7]),([4,8],[4,8]),([9,7],[9]),([10],[10]),([11,10],[10,11]),([12,10],[10,12]),([10],[10]),([14,10],[10,14]),([15,10],[10,15]),([16,10,10],[10,16]),([13,17,10],[10,13,17]),([10,18],[10,18]),([19,17],[19]),([20],[20]),([21,20],[20,21]),([22,20],[20,22]),([20],[20]),([24,20],[20,24]),([25,20],[20,25]),([26,20],[20,26]),([23,27,20],[20,23,27]),([20,28],[20,28])])
def vftlr1.B:List Nat:=[0,1,3,7,15,31,63,127,255,511,1023,2047,4095,8191,2047,18431,51199,116735,262143,524287,1048575,2097151,4194303,8388607,2097151,18874367,52428799,119537663,268435455,536870911]
theorem vftlr1.tab:rtab .any (opsOf Try.f8 1)=vftlr1.T:=by kernel_rfl
theorem vftlr1.bits:waitsOk vftlr1.T.2 vftlr1.B=true:=by kernel_rfl
def vftlr3.T:Bool × List (List Nat × List Nat):=(true,[([],[]),([0],[0]),([1],[1]),([2,2],[2]),([3],[3]),([4,3],[3,4]),([5,3],[3,5]),([6,3],[3,6]),([3],[3]),([8,3],[3,8]),([9,3],[3,9]),([10,3],[3,10]),([7,11,3],[3,7,11]),([3,12],[3,12]),([13,3],[13]),([14],[14]),([15,14],[14,15]),([16,14,14],[14,16]),([14,17],[14,17]),([18,17],[18]),([19],[19]),([20,19,19],[19,20]),([19,21],[19,21]),([22,21],[22]),([23],[23]),([24,23],[23,24]),([25,23],[23,25]),([23],[23]),([27,23],[23,27]),([28,23],[23,28]),([29,23,23],[23,29]),([26,30,23],[23,26,30]),([23,31],[23,31]),([32,30],[32]),([33],[33]),([34,33],[33,34]),([35,33,33],[33,35]),([33,36],[33,36]),([37,36],[37]),([38],[38]),([39,38],[38,39]),([38],[38]),([41,38],[38,41]),([40,42,38,38],[38,40,42]),([38,43],[38,43]),([44,43,0,1,2,3,4,5,6,7,8,9,10,11,12,13,14,15,16,17,18,19,20,21,22,23,24,25,26,27,28,29,30,31,32,33,34,35,36,37,38,39,40,41,42,43,44],[44])])
def vftlr3.B:List Nat:=[0,1,3,7,15,31,63,127,15,271,783,1807,4095,8191,16383,32767,65535,131071,262143,524287,1048575,2097151,4194303,8388607,16777215,33554431,67108863,16777215,150994943,419430399,956301311,2147483647,4294967295,8589934591,17179869183,34359738367,68719476735,137438953471,274877906943,549755813887,1099511627775,549755813887,2748779069439,8796093022207,17592186044415,35184372088831]
theorem vftlr3.tab:rtab .any (opsOf Try.f8 3)=vftlr3.T:=by kernel_rfl
theorem vftlr3.bits:waitsOk vftlr3.T.2 vftlr3.B=true:=by kernel_rfl
def vS3 (gb:Nat) (d b p:Int) (A3:Option Addr) (n3 c3:Nat) (u v:Int) (o:Bool) (z mb mp:Int) (A10:Option Addr) (n10 c10:Nat) (A11:Option Addr) (n11 c11:Nat) (A12:Option Addr) (n12 c12:Nat) (hn sq:Int) (A15:Option Addr) (n15 c15:Nat) (A16:Option Addr) (n16 c16:Nat) (bd po:Int) (w':World):Prop:=w'.heap[gb]?=some (.cells #[.int .i64 d,.int .i64 b,.int .i64 p,.slice A3 n3 c3,.int .i64 u,.int .i64 v,.bool o,.int .i64 z,.int .i64 mb,.int .i64 mp,.slice A10 n10 c10,.slice A11 n11 c11,.slice A12 n12 c12,.int .i64 hn,.int .i64 sq,.slice A15 n15 c15,.slice A16 n16 c16,.int .i64 bd,.int .i64 po] 44 (0,0))∧w'.cell? ⟨gb,0,none⟩=some (.int .i64 d)∧w'.cell? ⟨gb,1,none⟩=some (.int .i64 b)∧w'.cell? ⟨gb,2,none⟩=some (.int .i64 p)∧w'.cell? ⟨gb,3,none⟩=some (.slice A3 n3 c3)∧w'.cell? ⟨gb,4,none⟩=some (.int .i64 u)∧w'.cell? ⟨gb,5,none⟩=some (.int .i64 v)∧w'.cell? ⟨gb,6,none⟩=some (.bool o)∧w'.cell? ⟨gb,7,none⟩=some (.int .i64 z)∧w'.cell? ⟨gb,8,none⟩=some (.int .i64 mb)∧w'.cell? ⟨gb,9,none⟩=some (.int .i64 mp)∧w'.cell? ⟨gb,10,none⟩=some (.slice A10 n10 c10)∧w'.cell? ⟨gb,11,none⟩=some (.slice A11 n11 c11)∧w'.cell? ⟨gb,12,none⟩=some (.slice A12 n12 c12)∧w'.cell? ⟨gb,13,none⟩=some (.int .i64 hn)∧w'.cell? ⟨gb,14,none⟩=some (.int .i64 sq)∧w'.cell? ⟨gb,15,none⟩=some (.slice A15 n15 c15)∧w'.cell? ⟨gb,16,none⟩=some (.slice A16 n16 c16)∧w'.cell? ⟨gb,17,none⟩=some (.int .i64 bd)∧w'.cell? ⟨gb,18,none⟩=some (.int .i64 po)
set_option maxHeartbeats 16000000 in
set_option maxRecDepth 100000 in
theorem ftlI_no (d b p:Int) (A3:Option Addr) (n3 c3:Nat) (u v:Int) (o:Bool) (z mb mp:Int) (A10:Option Addr) (n10 c10:Nat) (A11:Option Addr) (n11 c11:Nat) (A12:Option Addr) (n12 c12:Nat) (hn sq:Int) (A15:Option Addr) (n15 c15:Nat) (A16:Option Addr) (n16 c16:Nat) (bd po:Int) (bP:Bool) (bF bM bE bQ bH bL bS bO bN bX r:Bool) (w:World)
  (hF:∀ W,Below w.heap.size w W→Calls Try.prog 25 #[.agg #[.int .i64 d,.int .i64 b,.int .i64 p,.slice A3 n3 c3,.int .i64 u,.int .i64 v,.bool o,.int .i64 z]] W fun e w'=>e=.returned (.bool bF)∧Below W.heap.size W w')
  (hM:∀ W,Below w.heap.size w W→Calls Try.prog 26 #[.agg #[.int .i64 mb,.int .i64 mp,.slice A10 n10 c10,.slice A11 n11 c11]] W fun e w'=>e=.returned (.bool bM)∧Below W.heap.size W w')
  (hA:∀ W,Calls Try.prog 27 #[.agg #[.int .i64 d,.int .i64 b,.int .i64 p]] W fun e w'=>e=.returned (.int .i64 (wrap64 (d * b)))∧Below W.heap.size W w')
  (hH:∀ W,Below w.heap.size w W→Calls Try.prog 28 #[.agg #[.slice A12 n12 c12,.int .i64 hn]] W fun e w'=>e=.returned (.bool bH)∧Below W.heap.size W w')
  (hS:∀ W,Calls Try.prog 29 #[.int .i64 sq,.int .i64 1,.int .i64 1000001] W fun e w'=>e=.returned (.bool bS)∧Below W.heap.size W w')
  (hO:∀ W,Below w.heap.size w W→Calls Try.prog 30 #[.agg #[.int .i64 d,.int .i64 b,.int .i64 p,.slice A3 n3 c3,.int .i64 u,.int .i64 v,.bool o,.int .i64 z,.int .i64 mb,.int .i64 mp,.slice A10 n10 c10,.slice A11 n11 c11,.slice A12 n12 c12,.int .i64 hn,.int .i64 sq,.slice A15 n15 c15,.slice A16 n16 c16,.int .i64 bd,.int .i64 po]] W fun e w'=>e=.returned (.bool bO)∧Below W.heap.size W w')
  (hX:∀ W,Below w.heap.size w W→Calls Try.prog 31 #[.slice A16 n16 c16,.int .i64 0,.int .i64 1000000] W fun e w'=>e=.returned (.bool bX)∧Below W.heap.size W w')
  (hP:∀ W,Calls Try.prog 32 #[.int .i64 bd,.int .i64 po] W fun e w'=>e=.returned (.bool bP)∧Below W.heap.size W w')
  (qE : (mb == wrap64 (d * b)) = bE)
  (qQ : (mp == p) = bQ)
  (qL : ((n12 : Int) == (n10 : Int)) = bL)
  (qN : ((n16 : Int) == wrap64 (d * b)) = bN)
  (hx : (bF && (bM && (bE && bQ))) = false) :
  Calls Try.prog 8 #[.agg #[.int .i64 d,.int .i64 b,.int .i64 p,.slice A3 n3 c3,.int .i64 u,.int .i64 v,.bool o,.int .i64 z,.int .i64 mb,.int .i64 mp,.slice A10 n10 c10,.slice A11 n11 c11,.slice A12 n12 c12,.int .i64 hn,.int .i64 sq,.slice A15 n15 c15,.slice A16 n16 c16,.int .i64 bd,.int .i64 po]] w fun e w'=>e=.returned (.bool (false))∧Below w.heap.size w w':=by
 have HF := Aside0.mk hF
 have HM := Aside0.mk hM
 have HA := Aside0.mk hA
 have HH := Aside0.mk hH
 have HIS := Aside0.mk hS
 have HO := Aside0.mk hO
 have HX := Aside0.mk hX
 have HP := Aside0.mk hP
 have KQ:=Aside0.mk (And.intro qE (And.intro qQ (And.intro qL qN)))
 clear hF hM hA hH hS hO hX hP qE qQ qL qN
 generalize hnn : wrap64 (d * b) = nn at HA KQ
 clear hnn
 go_enter Try.func8, Try.ntmps8
 go_upto_region 1 with (first|((with_reducible refine gate_dst (N:=1) rfl ?_);(try (refine gate_guard (by rfl) ?_;dsimp only));refine box_event ?hg (N:=1) ?hd (cs:=#[.int .i64 d,.int .i64 b,.int .i64 p,.slice A3 n3 c3,.int .i64 u,.int .i64 v,.bool o,.int .i64 z,.int .i64 mb,.int .i64 mp,.slice A10 n10 c10,.slice A11 n11 c11,.slice A12 n12 c12,.int .i64 hn,.int .i64 sq,.slice A15 n15 c15,.slice A16 n16 c16,.int .i64 bd,.int .i64 po]) (t:=44) ?hr ?_;(case hd=>rfl);(case hg=>rfl);(case hr=>first|(go_simp;done)|(go_simp;rfl));intro gb hg W1 hbox hb;have HT:Aside0 (∀ W,Below W1.heap.size W1 W→Below w.heap.size w W):=⟨fun W h=>hb.trans (h.mono hb.size)⟩;have BK:=Aside0.mk hbox;have LG:=Aside0.mk (blk_lt hbox);clear hb hbox hg))
 (try simp only [Act.put,lSXFtlCoreA_,lZXFtlCoreA_,lCXFtlCoreA_])
 have HS1:Aside0 (∀ w',Below W1.heap.size W1 w'→(w'.cell? ⟨gb,0,none⟩=some (.int .i64 d)∧w'.cell? ⟨gb,1,none⟩=some (.int .i64 b)∧w'.cell? ⟨gb,2,none⟩=some (.int .i64 p)∧w'.cell? ⟨gb,3,none⟩=some (.slice A3 n3 c3)∧w'.cell? ⟨gb,4,none⟩=some (.int .i64 u)∧w'.cell? ⟨gb,5,none⟩=some (.int .i64 v)∧w'.cell? ⟨gb,6,none⟩=some (.bool o)∧w'.cell? ⟨gb,7,none⟩=some (.int .i64 z)∧w'.cell? ⟨gb,8,none⟩=some (.int .i64 mb)∧w'.cell? ⟨gb,9,none⟩=some (.int .i64 mp)∧w'.cell? ⟨gb,10,none⟩=some (.slice A10 n10 c10)∧w'.cell? ⟨gb,11,none⟩=some (.slice A11 n11 c11))):=⟨fun w' hb=>⟨(hb.cell LG.out).trans ((blk_cell BK.out 0).trans rfl),(hb.cell LG.out).trans ((blk_cell BK.out 1).trans rfl),(hb.cell LG.out).trans ((blk_cell BK.out 2).trans rfl),(hb.cell LG.out).trans ((blk_cell BK.out 3).trans rfl),(hb.cell LG.out).trans ((blk_cell BK.out 4).trans rfl),(hb.cell LG.out).trans ((blk_cell BK.out 5).trans rfl),(hb.cell LG.out).trans ((blk_cell BK.out 6).trans rfl),(hb.cell LG.out).trans ((blk_cell BK.out 7).trans rfl),(hb.cell LG.out).trans ((blk_cell BK.out 8).trans rfl),(hb.cell LG.out).trans ((blk_cell BK.out 9).trans rfl),(hb.cell LG.out).trans ((blk_cell BK.out 10).trans rfl),(hb.cell LG.out).trans ((blk_cell BK.out 11).trans rfl)⟩⟩
 have HS3:Aside0 (∀ w',Below W1.heap.size W1 w'→vS3 gb d b p A3 n3 c3 u v o z mb mp A10 n10 c10 A11 n11 c11 A12 n12 c12 hn sq A15 n15 c15 A16 n16 c16 bd po w'):=⟨fun w' hb=>⟨blk_below BK.out hb,(hb.cell LG.out).trans ((blk_cell BK.out 0).trans rfl),(hb.cell LG.out).trans ((blk_cell BK.out 1).trans rfl),(hb.cell LG.out).trans ((blk_cell BK.out 2).trans rfl),(hb.cell LG.out).trans ((blk_cell BK.out 3).trans rfl),(hb.cell LG.out).trans ((blk_cell BK.out 4).trans rfl),(hb.cell LG.out).trans ((blk_cell BK.out 5).trans rfl),(hb.cell LG.out).trans ((blk_cell BK.out 6).trans rfl),(hb.cell LG.out).trans ((blk_cell BK.out 7).trans rfl),(hb.cell LG.out).trans ((blk_cell BK.out 8).trans rfl),(hb.cell LG.out).trans ((blk_cell BK.out 9).trans rfl),(hb.cell LG.out).trans ((blk_cell BK.out 10).trans rfl),(hb.cell LG.out).trans ((blk_cell BK.out 11).trans rfl),(hb.cell LG.out).trans ((blk_cell BK.out 12).trans rfl),(hb.cell LG.out).trans ((blk_cell BK.out 13).trans rfl),(hb.cell LG.out).trans ((blk_cell BK.out 14).trans rfl),(hb.cell LG.out).trans ((blk_cell BK.out 15).trans rfl),(hb.cell LG.out).trans ((blk_cell BK.out 16).trans rfl),(hb.cell LG.out).trans ((blk_cell BK.out 17).trans rfl),(hb.cell LG.out).trans ((blk_cell BK.out 18).trans rfl)⟩⟩
 have HB := Aside0.mk (Below.refl W1.heap.size W1)
 clear BK LG
 cases bF with
 | false =>
  clear HH HIS HO HX HP HS3
  have n0_ := Aside0.mk (below_drew1 HB.out)
  clear HB
  have HB := n0_
  clear n0_
  refine start_ (n:=30) (S:=fun w'=>w'.cell? ⟨gb,0,none⟩=some (.int .i64 d)∧w'.cell? ⟨gb,1,none⟩=some (.int .i64 b)∧w'.cell? ⟨gb,2,none⟩=some (.int .i64 p)∧w'.cell? ⟨gb,3,none⟩=some (.slice A3 n3 c3)∧w'.cell? ⟨gb,4,none⟩=some (.int .i64 u)∧w'.cell? ⟨gb,5,none⟩=some (.int .i64 v)∧w'.cell? ⟨gb,6,none⟩=some (.bool o)∧w'.cell? ⟨gb,7,none⟩=some (.int .i64 z)∧w'.cell? ⟨gb,8,none⟩=some (.int .i64 mb)∧w'.cell? ⟨gb,9,none⟩=some (.int .i64 mp)∧w'.cell? ⟨gb,10,none⟩=some (.slice A10 n10 c10)∧w'.cell? ⟨gb,11,none⟩=some (.slice A11 n11 c11)) (ds:=[]) #[false,false,false,false,false,false,false,false,false,false,false,false,false,false,false,false,false,false,false,false,false,false,false,false,false,false,false,false,false,false] (by kernel_rfl) rfl rfl (HS1.out _ HB.out) (fun hHeld=>?_)
  refine with_tabW vftlr1.tab vftlr1.bits (fun HT_ HW_ => ?_)
  generalize World.drew _ = W5 at HB hHeld ⊢
  refine ord_ [(1, 0, some 3), (2, 1, some 4)] ?_
  repeat (first|(refine Ord.pureL (v:=?_) (l':=?_) (t':=?_) rfl rfl (fun _ _ _ h=>h) (by kernel_rfl) ?_ ?_ ?_ ?_ ?_;rotate_left 3;dsimp only [s0,s1];rfl;exact any_of HT_.out (by kernel_rfl);intro w';go_simp;(try simp only [i64_w]);with_reducible rfl;dsimp only [s0,s1];rfl)|(refine Ord.takeL (v:=?_) (l':=?_) (t':=?_) rfl rfl (fun _ _ _ h=>h) hHeld (by kernel_rfl) ?_ ?_ ?_ ?_ ?_;rotate_left 3;dsimp only [s0,s1];rfl;exact take_ofW HT_.out HW_.out (by kernel_rfl);rintro w' ⟨s0,s1,s2,s3,s4,s5,s6,s7,s8,s9,s10,s11⟩;go_simp;with_reducible rfl;dsimp only [s0,s1];rfl))
  refine Ord.nil ?_
  refine one_ (i:=2) (N:=some 5) #[true,true,true,false,false,false,false,false,false,false,false,false,false,false,false,false,false,false,false,false,false,false,false,false,false,false,false,false,false,false] rfl rfl (one_of HT_.out (by kernel_rfl)) (by decide) (fun K hK=>?_)
  refine goes_ Try.func25 (by kernel_rfl) rfl #[.agg #[.int .i64 d,.int .i64 b,.int .i64 p,.slice A3 n3 c3,.int .i64 u,.int .i64 v,.bool o,.int .i64 z]] (by rfl) rfl rfl (by simp only [List.map_toArray,List.map_cons,List.map_nil];rfl) ?_
  with_reducible refine (HF.out _ (HT.out _ HB.out)).mono ?_
  rintro e W6 ⟨rfl, hb⟩
  refine ⟨_, rfl, ?_⟩
  have n0_ := Aside0.mk (below_step HB.out hb)
  clear HB hb
  have HB := n0_
  clear n0_
  refine hK.out _ _ (HS1.out _ HB.out) (fun hHeld => ?_)
  clear hK K
  refine norm_ (a' := ?_) ?_ ?_
  rotate_left
  ·show Act.put _ (some 5) _ = _
   simp only [Act.put,lSXFtlCoreA_,lZXFtlCoreA_,lCXFtlCoreA_,i64_w,i32_w]
   rfl
  refine ord_ [(1,3,some 6),(1,4,some 7),(0,5,some 8),(0,6,some 9),(0,7,some 10),(0,8,some 11),(1,9,some 12),(1,10,some 13),(0,11,some 14),(0,12,some 15),(0,13,some 16),(0,14,some 17),(0,15,some 18),(0,16,some 19),(0,17,some 20),(0,18,some 21),(1,19,some 22),(1,20,some 23),(0,21,some 24),(0,22,some 25),(0,23,some 26),(0,24,some 27),(0,25,some 28),(0,26,some 29),(0,27,some 30),(0,28,some 31),(1,29,some 32)] ?_
  repeat (first|(refine Ord.offL (l':=?_) (t':=?_) rfl rfl (fun _ _ _ h=>h) (by kernel_rfl) ?_ ?_ ?_ ?_;rotate_left 2;dsimp only [s0,s1];rfl;exact any_of HT_.out (by kernel_rfl);dsimp only [s0,s1];rfl)|(refine Ord.pureL (v:=?_) (l':=?_) (t':=?_) rfl rfl (fun _ _ _ h=>h) (by kernel_rfl) ?_ ?_ ?_ ?_ ?_;rotate_left 3;dsimp only [s0,s1];rfl;exact any_of HT_.out (by kernel_rfl);intro w';go_simp;(try simp only [i64_w]);with_reducible rfl;dsimp only [s0,s1];rfl))
  refine Ord.nil ?_
  refine done_ (done_of HT_.out (by kernel_rfl)) ?_
  clear hHeld
  try go_wp2
  go_ret
  exact ⟨rfl, HT.out _ HB.out⟩
 | true =>
  cases bM with
  | false =>
   clear HH HIS HO HX HP HS3
   have n0_ := Aside0.mk (below_drew1 HB.out)
   clear HB
   have HB := n0_
   clear n0_
   refine start_ (n:=30) (S:=fun w'=>w'.cell? ⟨gb,0,none⟩=some (.int .i64 d)∧w'.cell? ⟨gb,1,none⟩=some (.int .i64 b)∧w'.cell? ⟨gb,2,none⟩=some (.int .i64 p)∧w'.cell? ⟨gb,3,none⟩=some (.slice A3 n3 c3)∧w'.cell? ⟨gb,4,none⟩=some (.int .i64 u)∧w'.cell? ⟨gb,5,none⟩=some (.int .i64 v)∧w'.cell? ⟨gb,6,none⟩=some (.bool o)∧w'.cell? ⟨gb,7,none⟩=some (.int .i64 z)∧w'.cell? ⟨gb,8,none⟩=some (.int .i64 mb)∧w'.cell? ⟨gb,9,none⟩=some (.int .i64 mp)∧w'.cell? ⟨gb,10,none⟩=some (.slice A10 n10 c10)∧w'.cell? ⟨gb,11,none⟩=some (.slice A11 n11 c11)) (ds:=[]) #[false,false,false,false,false,false,false,false,false,false,false,false,false,false,false,false,false,false,false,false,false,false,false,false,false,false,false,false,false,false] (by kernel_rfl) rfl rfl (HS1.out _ HB.out) (fun hHeld=>?_)
   refine with_tabW vftlr1.tab vftlr1.bits (fun HT_ HW_ => ?_)
   generalize World.drew _ = W5 at HB hHeld ⊢
   refine ord_ [(1, 0, some 3), (2, 1, some 4)] ?_
   repeat (first|(refine Ord.pureL (v:=?_) (l':=?_) (t':=?_) rfl rfl (fun _ _ _ h=>h) (by kernel_rfl) ?_ ?_ ?_ ?_ ?_;rotate_left 3;dsimp only [s0,s1];rfl;exact any_of HT_.out (by kernel_rfl);intro w';go_simp;(try simp only [i64_w]);with_reducible rfl;dsimp only [s0,s1];rfl)|(refine Ord.takeL (v:=?_) (l':=?_) (t':=?_) rfl rfl (fun _ _ _ h=>h) hHeld (by kernel_rfl) ?_ ?_ ?_ ?_ ?_;rotate_left 3;dsimp only [s0,s1];rfl;exact take_ofW HT_.out HW_.out (by kernel_rfl);rintro w' ⟨s0,s1,s2,s3,s4,s5,s6,s7,s8,s9,s10,s11⟩;go_simp;with_reducible rfl;dsimp only [s0,s1];rfl))
   refine Ord.nil ?_
   refine one_ (i:=2) (N:=some 5) #[true,true,true,false,false,false,false,false,false,false,false,false,false,false,false,false,false,false,false,false,false,false,false,false,false,false,false,false,false,false] rfl rfl (one_of HT_.out (by kernel_rfl)) (by decide) (fun K hK=>?_)
   refine goes_ Try.func25 (by kernel_rfl) rfl #[.agg #[.int .i64 d,.int .i64 b,.int .i64 p,.slice A3 n3 c3,.int .i64 u,.int .i64 v,.bool o,.int .i64 z]] (by rfl) rfl rfl (by simp only [List.map_toArray,List.map_cons,List.map_nil];rfl) ?_
   with_reducible refine (HF.out _ (HT.out _ HB.out)).mono ?_
   rintro e W6 ⟨rfl, hb⟩
   refine ⟨_, rfl, ?_⟩
   have n0_ := Aside0.mk (below_step HB.out hb)
   clear HB hb
   have HB := n0_
   clear n0_
   refine hK.out _ _ (HS1.out _ HB.out) (fun hHeld => ?_)
   clear hK K
   refine norm_ (a' := ?_) ?_ ?_
   rotate_left
   ·show Act.put _ (some 5) _ = _
    simp only [Act.put,lSXFtlCoreA_,lZXFtlCoreA_,lCXFtlCoreA_,i64_w,i32_w]
    rfl
   refine ord_ [(1,3,some 6),(1,4,some 7),(1,5,some 8),(2,6,some 9)] ?_
   repeat (first|(refine Ord.pureL (v:=?_) (l':=?_) (t':=?_) rfl rfl (fun _ _ _ h=>h) (by kernel_rfl) ?_ ?_ ?_ ?_ ?_;rotate_left 3;dsimp only [s0,s1];rfl;exact any_of HT_.out (by kernel_rfl);intro w';go_simp;(try simp only [i64_w]);with_reducible rfl;dsimp only [s0,s1];rfl)|(refine Ord.takeL (v:=?_) (l':=?_) (t':=?_) rfl rfl (fun _ _ _ h=>h) hHeld (by kernel_rfl) ?_ ?_ ?_ ?_ ?_;rotate_left 3;dsimp only [s0,s1];rfl;exact take_ofW HT_.out HW_.out (by kernel_rfl);rintro w' ⟨s0,s1,s2,s3,s4,s5,s6,s7,s8,s9,s10,s11⟩;go_simp;with_reducible rfl;dsimp only [s0,s1];rfl))
   refine Ord.nil ?_
   refine one_ (i:=7) (N:=some 10) #[true,true,true,true,true,true,true,true,false,false,false,false,false,false,false,false,false,false,false,false,false,false,false,false,false,false,false,false,false,false] rfl rfl (one_of HT_.out (by kernel_rfl)) (by decide) (fun K hK=>?_)
   refine goes_ Try.func26 (by kernel_rfl) rfl #[.agg #[.int .i64 mb,.int .i64 mp,.slice A10 n10 c10,.slice A11 n11 c11]] (by rfl) rfl rfl (by simp only [List.map_toArray,List.map_cons,List.map_nil];rfl) ?_
   with_reducible refine (HM.out _ (HT.out _ HB.out)).mono ?_
   rintro e W7 ⟨rfl, hb⟩
   refine ⟨_, rfl, ?_⟩
   have n0_ := Aside0.mk (below_step HB.out hb)
   clear HB hb
   have HB := n0_
   clear n0_
   refine hK.out _ _ (HS1.out _ HB.out) (fun hHeld => ?_)
   clear hK K
   refine norm_ (a' := ?_) ?_ ?_
   rotate_left
   ·show Act.put _ (some 10) _ = _
    simp only [Act.put,lSXFtlCoreA_,lZXFtlCoreA_,lCXFtlCoreA_,i64_w,i32_w]
    rfl
   refine ord_ [(1,8,some 11),(1,9,some 12),(1,10,some 13),(0,11,some 14),(0,12,some 15),(0,13,some 16),(0,14,some 17),(0,15,some 18),(0,16,some 19),(0,17,some 20),(0,18,some 21),(1,19,some 22),(1,20,some 23),(0,21,some 24),(0,22,some 25),(0,23,some 26),(0,24,some 27),(0,25,some 28),(0,26,some 29),(0,27,some 30),(0,28,some 31),(1,29,some 32)] ?_
   repeat (first|(refine Ord.offL (l':=?_) (t':=?_) rfl rfl (fun _ _ _ h=>h) (by kernel_rfl) ?_ ?_ ?_ ?_;rotate_left 2;dsimp only [s0,s1];rfl;exact any_of HT_.out (by kernel_rfl);dsimp only [s0,s1];rfl)|(refine Ord.pureL (v:=?_) (l':=?_) (t':=?_) rfl rfl (fun _ _ _ h=>h) (by kernel_rfl) ?_ ?_ ?_ ?_ ?_;rotate_left 3;dsimp only [s0,s1];rfl;exact any_of HT_.out (by kernel_rfl);intro w';go_simp;(try simp only [i64_w]);with_reducible rfl;dsimp only [s0,s1];rfl))
   refine Ord.nil ?_
   refine done_ (done_of HT_.out (by kernel_rfl)) ?_
   clear hHeld
   try go_wp2
   go_ret
   exact ⟨rfl, HT.out _ HB.out⟩
  | true =>
   cases bE with
   | false =>
    clear HH HIS HO HX HP HS3
    obtain ⟨qE, qQ, qL, qN⟩ := KQ.out
    clear qL qN
    have qE1 : (mb == nn) = false := qE
    have qE2 : (mb != nn) = true := by rw [bne, qE]; rfl
    have n0_ := Aside0.mk (below_drew1 HB.out)
    clear HB
    have HB := n0_
    clear n0_
    refine start_ (n:=30) (S:=fun w'=>w'.cell? ⟨gb,0,none⟩=some (.int .i64 d)∧w'.cell? ⟨gb,1,none⟩=some (.int .i64 b)∧w'.cell? ⟨gb,2,none⟩=some (.int .i64 p)∧w'.cell? ⟨gb,3,none⟩=some (.slice A3 n3 c3)∧w'.cell? ⟨gb,4,none⟩=some (.int .i64 u)∧w'.cell? ⟨gb,5,none⟩=some (.int .i64 v)∧w'.cell? ⟨gb,6,none⟩=some (.bool o)∧w'.cell? ⟨gb,7,none⟩=some (.int .i64 z)∧w'.cell? ⟨gb,8,none⟩=some (.int .i64 mb)∧w'.cell? ⟨gb,9,none⟩=some (.int .i64 mp)∧w'.cell? ⟨gb,10,none⟩=some (.slice A10 n10 c10)∧w'.cell? ⟨gb,11,none⟩=some (.slice A11 n11 c11)) (ds:=[]) #[false,false,false,false,false,false,false,false,false,false,false,false,false,false,false,false,false,false,false,false,false,false,false,false,false,false,false,false,false,false] (by kernel_rfl) rfl rfl (HS1.out _ HB.out) (fun hHeld=>?_)
    refine with_tabW vftlr1.tab vftlr1.bits (fun HT_ HW_ => ?_)
    generalize World.drew _ = W5 at HB hHeld ⊢
    refine ord_ [(1, 0, some 3), (2, 1, some 4)] ?_
    repeat (first|(refine Ord.pureL (v:=?_) (l':=?_) (t':=?_) rfl rfl (fun _ _ _ h=>h) (by kernel_rfl) ?_ ?_ ?_ ?_ ?_;rotate_left 3;dsimp only [s0,s1];rfl;exact any_of HT_.out (by kernel_rfl);intro w';go_simp;(try simp only [i64_w]);with_reducible rfl;dsimp only [s0,s1];rfl)|(refine Ord.takeL (v:=?_) (l':=?_) (t':=?_) rfl rfl (fun _ _ _ h=>h) hHeld (by kernel_rfl) ?_ ?_ ?_ ?_ ?_;rotate_left 3;dsimp only [s0,s1];rfl;exact take_ofW HT_.out HW_.out (by kernel_rfl);rintro w' ⟨s0,s1,s2,s3,s4,s5,s6,s7,s8,s9,s10,s11⟩;go_simp;with_reducible rfl;dsimp only [s0,s1];rfl))
    refine Ord.nil ?_
    refine one_ (i:=2) (N:=some 5) #[true,true,true,false,false,false,false,false,false,false,false,false,false,false,false,false,false,false,false,false,false,false,false,false,false,false,false,false,false,false] rfl rfl (one_of HT_.out (by kernel_rfl)) (by decide) (fun K hK=>?_)
    refine goes_ Try.func25 (by kernel_rfl) rfl #[.agg #[.int .i64 d,.int .i64 b,.int .i64 p,.slice A3 n3 c3,.int .i64 u,.int .i64 v,.bool o,.int .i64 z]] (by rfl) rfl rfl (by simp only [List.map_toArray,List.map_cons,List.map_nil];rfl) ?_
    with_reducible refine (HF.out _ (HT.out _ HB.out)).mono ?_
    rintro e W6 ⟨rfl, hb⟩
    refine ⟨_, rfl, ?_⟩
    have n0_ := Aside0.mk (below_step HB.out hb)
    clear HB hb
    have HB := n0_
    clear n0_
    refine hK.out _ _ (HS1.out _ HB.out) (fun hHeld => ?_)
    clear hK K
    refine norm_ (a' := ?_) ?_ ?_
    rotate_left
    ·show Act.put _ (some 5) _ = _
     simp only [Act.put,lSXFtlCoreA_,lZXFtlCoreA_,lCXFtlCoreA_,i64_w,i32_w]
     rfl
    refine ord_ [(1,3,some 6),(1,4,some 7),(1,5,some 8),(2,6,some 9)] ?_
    repeat (first|(refine Ord.pureL (v:=?_) (l':=?_) (t':=?_) rfl rfl (fun _ _ _ h=>h) (by kernel_rfl) ?_ ?_ ?_ ?_ ?_;rotate_left 3;dsimp only [s0,s1];rfl;exact any_of HT_.out (by kernel_rfl);intro w';go_simp;(try simp only [i64_w]);with_reducible rfl;dsimp only [s0,s1];rfl)|(refine Ord.takeL (v:=?_) (l':=?_) (t':=?_) rfl rfl (fun _ _ _ h=>h) hHeld (by kernel_rfl) ?_ ?_ ?_ ?_ ?_;rotate_left 3;dsimp only [s0,s1];rfl;exact take_ofW HT_.out HW_.out (by kernel_rfl);rintro w' ⟨s0,s1,s2,s3,s4,s5,s6,s7,s8,s9,s10,s11⟩;go_simp;with_reducible rfl;dsimp only [s0,s1];rfl))
    refine Ord.nil ?_
    refine one_ (i:=7) (N:=some 10) #[true,true,true,true,true,true,true,true,false,false,false,false,false,false,false,false,false,false,false,false,false,false,false,false,false,false,false,false,false,false] rfl rfl (one_of HT_.out (by kernel_rfl)) (by decide) (fun K hK=>?_)
    refine goes_ Try.func26 (by kernel_rfl) rfl #[.agg #[.int .i64 mb,.int .i64 mp,.slice A10 n10 c10,.slice A11 n11 c11]] (by rfl) rfl rfl (by simp only [List.map_toArray,List.map_cons,List.map_nil];rfl) ?_
    with_reducible refine (HM.out _ (HT.out _ HB.out)).mono ?_
    rintro e W7 ⟨rfl, hb⟩
    refine ⟨_, rfl, ?_⟩
    have n0_ := Aside0.mk (below_step HB.out hb)
    clear HB hb
    have HB := n0_
    clear n0_
    refine hK.out _ _ (HS1.out _ HB.out) (fun hHeld => ?_)
    clear hK K
    refine norm_ (a' := ?_) ?_ ?_
    rotate_left
    ·show Act.put _ (some 10) _ = _
     simp only [Act.put,lSXFtlCoreA_,lZXFtlCoreA_,lCXFtlCoreA_,i64_w,i32_w]
     rfl
    refine ord_ [(1,8,some 11),(1,9,some 12),(1,10,some 13),(1,11,some 14),(1,12,some 15),(1,14,some 17),(1,15,some 18),(2,13,some 16),(2,16,some 19)] ?_
    repeat (first|(refine Ord.pureL (v:=?_) (l':=?_) (t':=?_) rfl rfl (fun _ _ _ h=>h) (by kernel_rfl) ?_ ?_ ?_ ?_ ?_;rotate_left 3;dsimp only [s0,s1];rfl;exact any_of HT_.out (by kernel_rfl);intro w';go_simp;(try simp only [i64_w]);with_reducible rfl;dsimp only [s0,s1];rfl)|(refine Ord.takeL (v:=?_) (l':=?_) (t':=?_) rfl rfl (fun _ _ _ h=>h) hHeld (by kernel_rfl) ?_ ?_ ?_ ?_ ?_;rotate_left 3;dsimp only [s0,s1];rfl;exact take_ofW HT_.out HW_.out (by kernel_rfl);rintro w' ⟨s0,s1,s2,s3,s4,s5,s6,s7,s8,s9,s10,s11⟩;go_simp;with_reducible rfl;dsimp only [s0,s1];rfl))
    refine Ord.nil ?_
    refine one_ (i:=17) (N:=some 20) #[true,true,true,true,true,true,true,true,true,true,true,true,true,true,true,true,true,true,false,false,false,false,false,false,false,false,false,false,false,false] rfl rfl (one_of HT_.out (by kernel_rfl)) (by decide) (fun K hK=>?_)
    refine goes_ Try.func27 (by kernel_rfl) rfl #[.agg #[.int .i64 d,.int .i64 b,.int .i64 p]] (by rfl) rfl rfl (by simp only [List.map_toArray,List.map_cons,List.map_nil];rfl) ?_
    with_reducible refine (HA.out _).mono ?_
    rintro e W8 ⟨rfl, hb⟩
    refine ⟨_, rfl, ?_⟩
    have n0_ := Aside0.mk (below_step HB.out hb)
    clear HB hb
    have HB := n0_
    clear n0_
    refine hK.out _ _ (HS1.out _ HB.out) (fun hHeld => ?_)
    clear hK K
    refine norm_ (a' := ?_) ?_ ?_
    rotate_left
    ·show Act.put _ (some 20) _ = _
     simp only [Act.put,lSXFtlCoreA_,lZXFtlCoreA_,lCXFtlCoreA_,i64_w,i32_w]
     rfl
    refine ord_ [(1,18,some 21),(1,19,some 22),(1,20,some 23),(0,21,some 24),(0,22,some 25),(0,23,some 26),(0,24,some 27),(0,25,some 28),(0,26,some 29),(0,27,some 30),(0,28,some 31),(1,29,some 32)] ?_
    repeat (first|(refine Ord.offL (l':=?_) (t':=?_) rfl rfl (fun _ _ _ h=>h) (by kernel_rfl) ?_ ?_ ?_ ?_;rotate_left 2;dsimp only [s0,s1];rfl;exact any_of HT_.out (by kernel_rfl);dsimp only [s0,s1];rfl)|(refine Ord.pureL (v:=?_) (l':=?_) (t':=?_) rfl rfl (fun _ _ _ h=>h) (by kernel_rfl) ?_ ?_ ?_ ?_ ?_;rotate_left 3;dsimp only [s0,s1];rfl;exact any_of HT_.out (by kernel_rfl);intro w';go_simp;(try simp only [i64_w]);with_reducible rfl;dsimp only [s0,s1];rfl))
    refine Ord.nil ?_
    refine done_ (done_of HT_.out (by kernel_rfl)) ?_
    clear hHeld
    try go_wp2
    go_ret
    exact ⟨rfl, HT.out _ HB.out⟩
   | true =>
    cases bQ with
    | false =>
     clear HH HIS HO HX HP HS3
     obtain ⟨qE, qQ, qL, qN⟩ := KQ.out
     clear qL qN
     have qE1 : (mb == nn) = true := qE
     have qE2 : (mb != nn) = false := by rw [bne, qE]; rfl
     have qQ1 : (mp == p) = false := qQ
     have qQ2 : (mp != p) = true := by rw [bne, qQ]; rfl
     have n0_ := Aside0.mk (below_drew1 HB.out)
     clear HB
     have HB := n0_
     clear n0_
     refine start_ (n:=30) (S:=fun w'=>w'.cell? ⟨gb,0,none⟩=some (.int .i64 d)∧w'.cell? ⟨gb,1,none⟩=some (.int .i64 b)∧w'.cell? ⟨gb,2,none⟩=some (.int .i64 p)∧w'.cell? ⟨gb,3,none⟩=some (.slice A3 n3 c3)∧w'.cell? ⟨gb,4,none⟩=some (.int .i64 u)∧w'.cell? ⟨gb,5,none⟩=some (.int .i64 v)∧w'.cell? ⟨gb,6,none⟩=some (.bool o)∧w'.cell? ⟨gb,7,none⟩=some (.int .i64 z)∧w'.cell? ⟨gb,8,none⟩=some (.int .i64 mb)∧w'.cell? ⟨gb,9,none⟩=some (.int .i64 mp)∧w'.cell? ⟨gb,10,none⟩=some (.slice A10 n10 c10)∧w'.cell? ⟨gb,11,none⟩=some (.slice A11 n11 c11)) (ds:=[]) #[false,false,false,false,false,false,false,false,false,false,false,false,false,false,false,false,false,false,false,false,false,false,false,false,false,false,false,false,false,false] (by kernel_rfl) rfl rfl (HS1.out _ HB.out) (fun hHeld=>?_)
     refine with_tabW vftlr1.tab vftlr1.bits (fun HT_ HW_ => ?_)
     generalize World.drew _ = W5 at HB hHeld ⊢
     refine ord_ [(1, 0, some 3), (2, 1, some 4)] ?_
     repeat (first|(refine Ord.pureL (v:=?_) (l':=?_) (t':=?_) rfl rfl (fun _ _ _ h=>h) (by kernel_rfl) ?_ ?_ ?_ ?_ ?_;rotate_left 3;dsimp only [s0,s1];rfl;exact any_of HT_.out (by kernel_rfl);intro w';go_simp;(try simp only [i64_w]);with_reducible rfl;dsimp only [s0,s1];rfl)|(refine Ord.takeL (v:=?_) (l':=?_) (t':=?_) rfl rfl (fun _ _ _ h=>h) hHeld (by kernel_rfl) ?_ ?_ ?_ ?_ ?_;rotate_left 3;dsimp only [s0,s1];rfl;exact take_ofW HT_.out HW_.out (by kernel_rfl);rintro w' ⟨s0,s1,s2,s3,s4,s5,s6,s7,s8,s9,s10,s11⟩;go_simp;with_reducible rfl;dsimp only [s0,s1];rfl))
     refine Ord.nil ?_
     refine one_ (i:=2) (N:=some 5) #[true,true,true,false,false,false,false,false,false,false,false,false,false,false,false,false,false,false,false,false,false,false,false,false,false,false,false,false,false,false] rfl rfl (one_of HT_.out (by kernel_rfl)) (by decide) (fun K hK=>?_)
     refine goes_ Try.func25 (by kernel_rfl) rfl #[.agg #[.int .i64 d,.int .i64 b,.int .i64 p,.slice A3 n3 c3,.int .i64 u,.int .i64 v,.bool o,.int .i64 z]] (by rfl) rfl rfl (by simp only [List.map_toArray,List.map_cons,List.map_nil];rfl) ?_
     with_reducible refine (HF.out _ (HT.out _ HB.out)).mono ?_
     rintro e W6 ⟨rfl, hb⟩
     refine ⟨_, rfl, ?_⟩
     have n0_ := Aside0.mk (below_step HB.out hb)
     clear HB hb
     have HB := n0_
     clear n0_
     refine hK.out _ _ (HS1.out _ HB.out) (fun hHeld => ?_)
     clear hK K
     refine norm_ (a' := ?_) ?_ ?_
     rotate_left
     ·show Act.put _ (some 5) _ = _
      simp only [Act.put,lSXFtlCoreA_,lZXFtlCoreA_,lCXFtlCoreA_,i64_w,i32_w]
      rfl
     refine ord_ [(1,3,some 6),(1,4,some 7),(1,5,some 8),(2,6,some 9)] ?_
     repeat (first|(refine Ord.pureL (v:=?_) (l':=?_) (t':=?_) rfl rfl (fun _ _ _ h=>h) (by kernel_rfl) ?_ ?_ ?_ ?_ ?_;rotate_left 3;dsimp only [s0,s1];rfl;exact any_of HT_.out (by kernel_rfl);intro w';go_simp;(try simp only [i64_w]);with_reducible rfl;dsimp only [s0,s1];rfl)|(refine Ord.takeL (v:=?_) (l':=?_) (t':=?_) rfl rfl (fun _ _ _ h=>h) hHeld (by kernel_rfl) ?_ ?_ ?_ ?_ ?_;rotate_left 3;dsimp only [s0,s1];rfl;exact take_ofW HT_.out HW_.out (by kernel_rfl);rintro w' ⟨s0,s1,s2,s3,s4,s5,s6,s7,s8,s9,s10,s11⟩;go_simp;with_reducible rfl;dsimp only [s0,s1];rfl))
     refine Ord.nil ?_
     refine one_ (i:=7) (N:=some 10) #[true,true,true,true,true,true,true,true,false,false,false,false,false,false,false,false,false,false,false,false,false,false,false,false,false,false,false,false,false,false] rfl rfl (one_of HT_.out (by kernel_rfl)) (by decide) (fun K hK=>?_)
     refine goes_ Try.func26 (by kernel_rfl) rfl #[.agg #[.int .i64 mb,.int .i64 mp,.slice A10 n10 c10,.slice A11 n11 c11]] (by rfl) rfl rfl (by simp only [List.map_toArray,List.map_cons,List.map_nil];rfl) ?_
     with_reducible refine (HM.out _ (HT.out _ HB.out)).mono ?_
     rintro e W7 ⟨rfl, hb⟩
     refine ⟨_, rfl, ?_⟩
     have n0_ := Aside0.mk (below_step HB.out hb)
     clear HB hb
     have HB := n0_
     clear n0_
     refine hK.out _ _ (HS1.out _ HB.out) (fun hHeld => ?_)
     clear hK K
     refine norm_ (a' := ?_) ?_ ?_
     rotate_left
     ·show Act.put _ (some 10) _ = _
      simp only [Act.put,lSXFtlCoreA_,lZXFtlCoreA_,lCXFtlCoreA_,i64_w,i32_w]
      rfl
     refine ord_ [(1,8,some 11),(1,9,some 12),(1,10,some 13),(1,11,some 14),(1,12,some 15),(1,14,some 17),(1,15,some 18),(2,13,some 16),(2,16,some 19)] ?_
     repeat (first|(refine Ord.pureL (v:=?_) (l':=?_) (t':=?_) rfl rfl (fun _ _ _ h=>h) (by kernel_rfl) ?_ ?_ ?_ ?_ ?_;rotate_left 3;dsimp only [s0,s1];rfl;exact any_of HT_.out (by kernel_rfl);intro w';go_simp;(try simp only [i64_w]);with_reducible rfl;dsimp only [s0,s1];rfl)|(refine Ord.takeL (v:=?_) (l':=?_) (t':=?_) rfl rfl (fun _ _ _ h=>h) hHeld (by kernel_rfl) ?_ ?_ ?_ ?_ ?_;rotate_left 3;dsimp only [s0,s1];rfl;exact take_ofW HT_.out HW_.out (by kernel_rfl);rintro w' ⟨s0,s1,s2,s3,s4,s5,s6,s7,s8,s9,s10,s11⟩;go_simp;with_reducible rfl;dsimp only [s0,s1];rfl))
     refine Ord.nil ?_
     refine one_ (i:=17) (N:=some 20) #[true,true,true,true,true,true,true,true,true,true,true,true,true,true,true,true,true,true,false,false,false,false,false,false,false,false,false,false,false,false] rfl rfl (one_of HT_.out (by kernel_rfl)) (by decide) (fun K hK=>?_)
     refine goes_ Try.func27 (by kernel_rfl) rfl #[.agg #[.int .i64 d,.int .i64 b,.int .i64 p]] (by rfl) rfl rfl (by simp only [List.map_toArray,List.map_cons,List.map_nil];rfl) ?_
     with_reducible refine (HA.out _).mono ?_
     rintro e W8 ⟨rfl, hb⟩
     refine ⟨_, rfl, ?_⟩
     have n0_ := Aside0.mk (below_step HB.out hb)
     clear HB hb
     have HB := n0_
     clear n0_
     refine hK.out _ _ (HS1.out _ HB.out) (fun hHeld => ?_)
     clear hK K
     refine norm_ (a' := ?_) ?_ ?_
     rotate_left
     ·show Act.put _ (some 20) _ = _
      simp only [Act.put,lSXFtlCoreA_,lZXFtlCoreA_,lCXFtlCoreA_,i64_w,i32_w]
      rfl
     refine ord_ [(1,18,some 21),(1,19,some 22),(1,20,some 23),(1,21,some 24),(1,22,some 25),(1,24,some 27),(1,25,some 28),(1,26,some 29),(2,23,some 26),(2,27,some 30),(1,28,some 31),(1,29,some 32)] ?_
     repeat (first|(refine Ord.pureL (v:=?_) (l':=?_) (t':=?_) rfl rfl (fun _ _ _ h=>h) (by kernel_rfl) ?_ ?_ ?_ ?_ ?_;rotate_left 3;dsimp only [s0,s1];rfl;exact any_of HT_.out (by kernel_rfl);intro w';go_simp;(try simp only [i64_w]);with_reducible rfl;dsimp only [s0,s1];rfl)|(refine Ord.takeL (v:=?_) (l':=?_) (t':=?_) rfl rfl (fun _ _ _ h=>h) hHeld (by kernel_rfl) ?_ ?_ ?_ ?_ ?_;rotate_left 3;dsimp only [s0,s1];rfl;exact take_ofW HT_.out HW_.out (by kernel_rfl);rintro w' ⟨s0,s1,s2,s3,s4,s5,s6,s7,s8,s9,s10,s11⟩;go_simp;with_reducible rfl;dsimp only [s0,s1];rfl))
     refine Ord.nil ?_
     refine done_ (done_of HT_.out (by kernel_rfl)) ?_
     clear hHeld
     try go_wp2
     go_ret
     exact ⟨rfl, HT.out _ HB.out⟩
    | true =>
     exact absurd hx (by decide)
end Go.Proofs.Ytajocpalpnpmdaa.Q
