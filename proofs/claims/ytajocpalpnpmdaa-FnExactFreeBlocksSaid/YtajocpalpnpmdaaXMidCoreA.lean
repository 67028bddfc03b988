/- The specification's test of a flash translation layer: the walks over the known answers of its calls,first part. Conditions: those before each theorem. -/
import Derived.Test.YtajocpalpnpmdaaXMidMap
import Derived.Test.YtajocpalpnpmdaaXOrdL
import Derived.Test.YtajocpalpnpmdaaOpaque
import Derived.Test.YtajocpalpnpmdaaQ1
import Derived.Test.YtajocpalpnpmdaaQ3
namespace Go.Proofs.Ytajocpalpnpmdaa.Q
open Go.RowKit Go.Proofs.YtajocpalpnpmdaaW.PrintWords Go.Proofs.YtajocpalpnpmdaaW.PrintMore Go.Proofs.YtajocpalpnpmdaaW.PrintLast
abbrev lSXMidCoreA_ := @List.setIfInBounds_toArray
abbrev lZXMidCoreA_ := @List.set_cons_zero
abbrev lCXMidCoreA_ := @List.set_cons_succ
abbrev mAXMidCoreA_ := @List.map_toArray
set_option linter.unusedVariables false
set_option linter.unusedSimpArgs false
theorem natbeq (a b:Nat):(a == b)=((a:Int) == (b:Int)):=by
 rw [Bool.eq_iff_iff, beq_iff_eq, beq_iff_eq]
 omega
set_option maxHeartbeats 16000000 in
set_option maxRecDepth 100000 in
theorem blocksM_calls (g n:Nat) (A:Option Addr) (c:Nat) (w:World) (h3:w.cell? ⟨g,3,none⟩=some (.slice A n c)) :
  Calls Try.prog 43 #[.pointer (some ⟨g,0,none⟩)] w fun e w'=>e=.returned (.int .i64 (n:Int))∧Below w.heap.size w w':=by
 go_enter Try.func43, Try.ntmps43
 go_wp2
 go_ret
 exact ⟨by first|rfl|simp,by repeat (first|exact Below.refl _ _|apply pw_below_drewN|apply below_drew1)⟩
def l14r2.T:Bool × List (List Nat × List Nat):=(true,[([],[]),([0],[0]),([1],[1]),([2],[2]),([3],[3]),([4],[4]),([5,4],[5]),([6],[6]),([7,6],[6,7]),([8,6],[6,8]),([9,6,6],[6,9]),([10,6],[6,10]),([6,11],[6,11]),([12,10],[12]),([13],[13]),([14,13],[13,14]),([15,13],[13,15]),([16,13],[13,16]),([17,13],[13,17]),([13],[13]),([18,19,13],[13,18,19]),([13,20],[13,20]),([21,13],[21]),([22],[22]),([23,22],[22,23]),([24,22],[22,24]),([25,22],[22,25]),([26,22],[22,26]),([22],[22]),([28,22],[22,28]),([29,22],[22,29]),([30,22],[22,30]),([31,22],[22,31]),([32,22],[22,32]),([27,33,22],[22,27,33]),([22,34],[22,34]),([35,22],[35]),([36],[36]),([37,36],[36,37]),([38,36],[36,38]),([39,36,36],[36,39]),([40,36],[36,40]),([36,41],[36,41]),([42,40],[42]),([43],[43]),([44,43],[43,44]),([45,43],[43,45]),([46,43],[43,46]),([47,43],[43,47]),([48,43],[43,48]),([43],[43]),([50,43],[43,50]),([51,43],[43,51]),([52,43],[43,52]),([53,43],[43,53]),([54,43],[43,54]),([49,55,43],[43,49,55]),([43,56],[43,56])])
def l14r2.B:List Nat:=[0,1,3,7,15,31,63,127,255,511,1023,2047,4095,8191,16383,32767,65535,131071,262143,16383,1048575,2097151,4194303,8388607,16777215,33554431,67108863,134217727,8388607,276824063,813694975,1887436799,4034920447,8329887743,17179869183,34359738367,68719476735,137438953471,274877906943,549755813887,1099511627775,2199023255551,4398046511103,8796093022207,17592186044415,35184372088831,70368744177663,140737488355327,281474976710655,562949953421311,17592186044415,1143492092887039,3395291906572287,7898891533942783,16906090788683775,34920489298165759,72057594037927935,144115188075855871]
theorem l14r2.tab:rtab .any (opsOf Try.f20 2)=l14r2.T:=by kernel_rfl
theorem l14r2.bits:waitsOk l14r2.T.2 l14r2.B=true:=by kernel_rfl
def l14r6.T:Bool × List (List Nat × List Nat):=(true,[([],[]),([0],[0]),([1],[1]),([2],[2]),([3],[3]),([4],[4]),([],[]),([6],[6]),([5,7],[5,7]),([8],[8]),([9,8],[9]),([10],[10]),([11,10],[10,11]),([12,10],[10,12]),([13,10],[10,13]),([14,10],[10,14]),([15,10],[10,15]),([10],[10]),([17,10],[10,17]),([16,18,10,10],[10,16,18]),([19,10],[10,19]),([10,20],[10,20]),([21,19],[21]),([22],[22]),([23,22],[22,23]),([24,22],[22,24]),([25,22],[22,25]),([26,22],[22,26]),([27,22],[22,27]),([28,22],[22,28]),([29,22,22],[22,29]),([30],[30]),([31,30],[30,31]),([32,30],[30,32]),([33,30],[30,33]),([34,30],[30,34]),([35,30],[30,35]),([30],[30]),([37,30],[30,37]),([38,30],[30,38]),([39,30],[30,39]),([40,30],[30,40]),([41,30],[30,41]),([36,42,30],[30,36,42]),([30,43,22],[22,30,43]),([22,44],[22,44])])
def l14r6.B:List Nat:=[0,1,3,7,15,31,0,64,255,511,1023,2047,4095,8191,16383,32767,65535,2047,133119,524287,1048575,2097151,4194303,8388607,16777215,33554431,67108863,134217727,268435455,536870911,1073741823,2147483647,4294967295,8589934591,17179869183,34359738367,68719476735,2147483647,139586437119,414464344063,964220157951,2063731785727,4262755041279,8796093022207,17592186044415,35184372088831]
theorem l14r6.tab:rtab .any (opsOf Try.f20 6)=l14r6.T:=by kernel_rfl
theorem l14r6.bits:waitsOk l14r6.T.2 l14r6.B=true:=by kernel_rfl
set_option maxHeartbeats 16000000 in
set_option maxRecDepth 100000 in
theorem l14Ok_no (g:Nat) (d b p:Int) (A3:Option Addr) (n3 c3:Nat) (u v:Int) (o:Bool) (z mb mp:Int) (A10:Option Addr) (n10 c10:Nat) (A11:Option Addr) (n11 c11:Nat) (A12:Option Addr) (n12 c12:Nat) (hn sq:Int) (A15:Option Addr) (n15 c15:Nat) (A16:Option Addr) (n16 c16:Nat) (bd po:Int) (o0 o1:Int) (X:List Int) (bF bM bE bQ bH bL bS bK bN bB bP bI bJ bG bZ r:Bool) (w:World) (hX:n16=X.length)
  (BK:w.heap[g]?=some (.cells #[.int .i64 d,.int .i64 b,.int .i64 p,.slice A3 n3 c3,.int .i64 u,.int .i64 v,.bool o,.int .i64 z,.int .i64 mb,.int .i64 mp,.slice A10 n10 c10,.slice A11 n11 c11,.slice A12 n12 c12,.int .i64 hn,.int .i64 sq,.slice A15 n15 c15,.slice A16 n16 c16,.int .i64 bd,.int .i64 po] 44 (0,0)))
  (hF:∀ W,Below w.heap.size w W→Calls Try.prog 44 #[.agg #[.int .i64 d,.int .i64 b,.int .i64 p,.slice A3 n3 c3,.int .i64 u,.int .i64 v,.bool o,.int .i64 z]] W fun e w'=>e=.returned (.bool bF)∧Below W.heap.size W w')
  (hM:∀ W,Below w.heap.size w W→Calls Try.prog 45 #[.pointer (some ⟨g,8,none⟩)] W fun e w'=>e=.returned (.bool bM)∧Below W.heap.size W w')
  (hH:∀ W,Below w.heap.size w W→Calls Try.prog 46 #[.pointer (some ⟨g,12,none⟩)] W fun e w'=>e=.returned (.bool bH)∧Below W.heap.size W w')
  (qE : (mb == (n3 : Int)) = bE)
  (qQ : (mp == p) = bQ)
  (qL : ((n12 : Int) == (n10 : Int)) = bL)
  (qS : decide (1 ≤ sq ∧ sq ≤ 1000001) = bS)
  (qK : ((n15 : Int) == 2) = bK)
  (qN : ((n16 : Int) == (n3 : Int)) = bN)
  (qB : decide (1 ≤ bd ∧ bd ≤ 100) = bB)
  (qP : decide (1 ≤ po ∧ po ≤ 2) = bP)
  (hel:n15=2→∃ ad,A15=some ad∧w.cell? ad=some (.int .i64 o0)∧w.cell? ⟨ad.block,ad.off+1,none⟩=some (.int .i64 o1))
  (hrX : Kd.C (Kd.int .i64) w A16 X.length X)
  (qI : decide (-1 ≤ o0 ∧ o0 ≤ wrap64 ((n3 : Int) - 1)) = bI)
  (qJ : decide (-1 ≤ o1 ∧ o1 ≤ wrap64 ((n3 : Int) - 1)) = bJ)
  (qG : decide (0 ≤ o0) = bG)
  (qZ : (o0 == o1) = bZ)
  (hx : (bF && (bM && (bE && (bQ && (bH && bL))))) = false) :
  Calls Try.prog 20 #[.pointer (some ⟨g,0,none⟩)] w fun e w'=>e=.returned (.bool (false))∧Below w.heap.size w w':=by
 have LG := blk_lt BK
 have HF := Aside0.mk hF
 have HM := Aside0.mk hM
 have HH := Aside0.mk hH
 have HXX := Aside0.mk hX
 have HRX := Aside0.mk hrX
 have HEL := Aside0.mk hel
 have HS2:Aside0 (∀ w',Below w.heap.size w w'→(w'.heap[g]?=some (.cells #[.int .i64 d,.int .i64 b,.int .i64 p,.slice A3 n3 c3,.int .i64 u,.int .i64 v,.bool o,.int .i64 z,.int .i64 mb,.int .i64 mp,.slice A10 n10 c10,.slice A11 n11 c11,.slice A12 n12 c12,.int .i64 hn,.int .i64 sq,.slice A15 n15 c15,.slice A16 n16 c16,.int .i64 bd,.int .i64 po] 44 (0,0))∧w'.cell? ⟨g,2,none⟩=some (.int .i64 p)∧w'.cell? ⟨g,8,none⟩=some (.int .i64 mb)∧w'.cell? ⟨g,9,none⟩=some (.int .i64 mp)∧w'.cell? ⟨g,10,none⟩=some (.slice A10 n10 c10)∧w'.cell? ⟨g,12,none⟩=some (.slice A12 n12 c12))):=⟨fun w' hb=>⟨blk_below BK hb,(hb.cell LG).trans ((blk_cell BK 2).trans rfl),(hb.cell LG).trans ((blk_cell BK 8).trans rfl),(hb.cell LG).trans ((blk_cell BK 9).trans rfl),(hb.cell LG).trans ((blk_cell BK 10).trans rfl),(hb.cell LG).trans ((blk_cell BK 12).trans rfl)⟩⟩
 have HC4:Aside0 (∀ w',Below w.heap.size w w'→(w'.cell? ⟨g,14,none⟩=some (.int .i64 sq)∧w'.cell? ⟨g,15,none⟩=some (.slice A15 n15 c15)∧w'.cell? ⟨g,16,none⟩=some (.slice A16 n16 c16)∧w'.cell? ⟨g,17,none⟩=some (.int .i64 bd)∧w'.cell? ⟨g,18,none⟩=some (.int .i64 po))):=⟨fun w' hb=>⟨(hb.cell LG).trans ((blk_cell BK 14).trans rfl),(hb.cell LG).trans ((blk_cell BK 15).trans rfl),(hb.cell LG).trans ((blk_cell BK 16).trans rfl),(hb.cell LG).trans ((blk_cell BK 17).trans rfl),(hb.cell LG).trans ((blk_cell BK 18).trans rfl)⟩⟩
 have HC16:Aside0 (∀ w',Below w.heap.size w w'→(w'.cell? ⟨g,3,none⟩=some (.slice A3 n3 c3)∧w'.cell? ⟨g,16,none⟩=some (.slice A16 n16 c16))):=⟨fun w' hb=>⟨(hb.cell LG).trans ((blk_cell BK 3).trans rfl),(hb.cell LG).trans ((blk_cell BK 16).trans rfl)⟩⟩
 have HBl:Aside0 (∀ W,Below w.heap.size w W→Calls Try.prog 43 #[.pointer (some ⟨g,0,none⟩)] W fun e w'=>e=.returned (.int .i64 (n3:Int))∧Below W.heap.size W w'):=⟨fun W hb=>blocksM_calls g n3 A3 c3 W ((hb.cell LG).trans ((blk_cell BK 3).trans rfl))⟩
 have HIS := Aside0.mk (inS_calls sq 1 1000001)
 have HIB := Aside0.mk (inS_calls bd 1 100)
 have HIP := Aside0.mk (inS_calls po 1 2)
 have HI0 := Aside0.mk (inS_calls o0 (-1) (wrap64 ((n3 : Int) - 1)))
 have HI1 := Aside0.mk (inS_calls o1 (-1) (wrap64 ((n3 : Int) - 1)))
 rw [qS] at HIS
 rw [qB] at HIB
 rw [qP] at HIP
 rw [qI] at HI0
 rw [qJ] at HI1
 have HB := Aside0.mk (Below.refl w.heap.size w)
 have KQ:=Aside0.mk (And.intro qE (And.intro qQ (And.intro qL (And.intro qK (And.intro qN (And.intro qG qZ))))))
 clear hF hM hH hX hrX hel qE qQ qL qS qK qN qB qP qI qJ qG qZ BK
 go_enter Try.func20, Try.ntmps20
 go_upto_region 2 with (first|(go_at_call 43;with_reducible refine Calls.mono (HBl.out _ HB.out) ?_;rintro e W1 ⟨rfl,hb⟩;have n0_:=Aside0.mk (below_step HB.out hb);clear HB hb;have HB:=n0_;clear n0_;skip))
 (try simp only [Act.put,lSXMidCoreA_,lZXMidCoreA_,lCXMidCoreA_])
 cases bF with
 | false =>
  clear HIS HIB HIP HI0 HI1 HC4 HC16 HRX HXX HEL
  have n0_ := Aside0.mk (below_drew1 HB.out)
  clear HB
  have HB := n0_
  clear n0_
  refine start_ (n:=58) (S:=fun w'=>w'.heap[g]?=some (.cells #[.int .i64 d,.int .i64 b,.int .i64 p,.slice A3 n3 c3,.int .i64 u,.int .i64 v,.bool o,.int .i64 z,.int .i64 mb,.int .i64 mp,.slice A10 n10 c10,.slice A11 n11 c11,.slice A12 n12 c12,.int .i64 hn,.int .i64 sq,.slice A15 n15 c15,.slice A16 n16 c16,.int .i64 bd,.int .i64 po] 44 (0,0))∧w'.cell? ⟨g,2,none⟩=some (.int .i64 p)∧w'.cell? ⟨g,8,none⟩=some (.int .i64 mb)∧w'.cell? ⟨g,9,none⟩=some (.int .i64 mp)∧w'.cell? ⟨g,10,none⟩=some (.slice A10 n10 c10)∧w'.cell? ⟨g,12,none⟩=some (.slice A12 n12 c12)) (ds:=[]) #[false,false,false,false,false,false,false,false,false,false,false,false,false,false,false,false,false,false,false,false,false,false,false,false,false,false,false,false,false,false,false,false,false,false,false,false,false,false,false,false,false,false,false,false,false,false,false,false,false,false,false,false,false,false,false,false,false,false] (by kernel_rfl) rfl rfl (HS2.out _ HB.out) (fun hHeld=>?_)
  refine with_tabW l14r2.tab l14r2.bits (fun HT_ HW_ => ?_)
  generalize World.drew _ = W5 at HB hHeld ⊢
  refine ord_ [(1,0,some 9),(1,1,some 10),(1,2,some 11),(3,3,some 12)] ?_
  repeat (first|(refine Ord.pureL (v:=?_) (l':=?_) (t':=?_) rfl rfl (fun _ _ _ h=>h) (by kernel_rfl) ?_ ?_ ?_ ?_ ?_;rotate_left 3;dsimp only [s0,s1];rfl;exact any_of HT_.out (by kernel_rfl);intro w';go_simp;(try simp only [i64_w]);with_reducible rfl;dsimp only [s0,s1];rfl)|(refine Ord.midL (i:=3) (v:=.agg #[.int .i64 d,.int .i64 b,.int .i64 p,.slice A3 n3 c3,.int .i64 u,.int .i64 v,.bool o,.int .i64 z]) (l':=?_) (t':=?_) rfl rfl (fun _ _ _ h=>h) (yieldsIf_load_mid rfl 40 (.tmp 11) rfl g 0 rfl [.int .i64 d,.int .i64 b,.int .i64 p,.slice A3 n3 c3,.int .i64 u,.int .i64 v,.bool o,.int .i64 z] _ (fun w' h=>range_part [.int .i64 d,.int .i64 b,.int .i64 p,.slice A3 n3 c3,.int .i64 u,.int .i64 v,.bool o,.int .i64 z,.int .i64 mb,.int .i64 mp,.slice A10 n10 c10,.slice A11 n11 c11,.slice A12 n12 c12,.int .i64 hn,.int .i64 sq,.slice A15 n15 c15,.slice A16 n16 c16,.int .i64 bd,.int .i64 po] h.1 0 [.int .i64 d,.int .i64 b,.int .i64 p,.slice A3 n3 c3,.int .i64 u,.int .i64 v,.bool o,.int .i64 z] rfl) Try.underlying40 rfl (by kernel_rfl)) hHeld ?_ ?_ ?_ ?_;rotate_left 2;dsimp only [s0,s1];rfl;exact take_ofW HT_.out HW_.out (by kernel_rfl);dsimp only [s0,s1];rfl))
  refine Ord.nil ?_
  refine one_ (i:=4) (N:=some 13) #[true,true,true,true,true,false,false,false,false,false,false,false,false,false,false,false,false,false,false,false,false,false,false,false,false,false,false,false,false,false,false,false,false,false,false,false,false,false,false,false,false,false,false,false,false,false,false,false,false,false,false,false,false,false,false,false,false,false] rfl rfl (one_of HT_.out (by kernel_rfl)) (by decide) (fun K hK=>?_)
  refine goes_ Try.func44 (by kernel_rfl) rfl #[.agg #[.int .i64 d,.int .i64 b,.int .i64 p,.slice A3 n3 c3,.int .i64 u,.int .i64 v,.bool o,.int .i64 z]] (by rfl) rfl rfl (by simp only [mAXMidCoreA_,List.map_cons,List.map_nil];rfl) ?_
  with_reducible refine (HF.out _ HB.out).mono ?_
  rintro e W6 ⟨rfl, hb⟩
  refine ⟨_, rfl, ?_⟩
  have n0_ := Aside0.mk (below_step HB.out hb)
  clear HB hb
  have HB := n0_
  clear n0_
  refine hK.out _ _ (HS2.out _ HB.out) (fun hHeld => ?_)
  clear hK K
  refine norm_ (a' := ?_) ?_ ?_
  rotate_left
  ·show Act.put _ (some 13) _ = _
   simp only [Act.put,lSXMidCoreA_,lZXMidCoreA_,lCXMidCoreA_,i64_w,i32_w]
   rfl
  refine ord_ [(1,5,some 14),(1,6,some 15),(0,7,some 16),(0,8,some 17),(0,9,some 18),(0,10,some 19),(0,11,some 20),(1,12,some 21),(1,13,some 22),(0,14,some 23),(0,15,some 24),(0,16,some 25),(0,17,some 26),(0,18,some 27),(0,19,some 28),(0,20,some 29),(1,21,some 30),(1,22,some 31),(0,23,some 32),(0,24,some 33),(0,25,some 34),(0,26,some 35),(0,27,some 36),(0,28,some 37),(0,29,some 38),(0,30,some 39),(0,31,some 40),(0,32,some 41),(0,33,some 42),(0,34,some 43),(1,35,some 44),(1,36,some 45),(0,37,some 46),(0,38,some 47),(0,39,some 48),(0,40,some 49),(0,41,some 50),(1,42,some 51),(1,43,some 52),(0,44,some 53),(0,45,some 54),(0,46,some 55),(0,47,some 56),(0,48,some 57),(0,49,some 58),(0,50,some 59),(0,51,some 60),(0,52,some 61),(0,53,some 62),(0,54,some 63),(0,55,some 64),(0,56,some 65),(1,57,some 66)] ?_
  repeat (first|(refine Ord.offL (l':=?_) (t':=?_) rfl rfl (fun _ _ _ h=>h) (by kernel_rfl) ?_ ?_ ?_ ?_;rotate_left 2;dsimp only [s0,s1];rfl;exact any_of HT_.out (by kernel_rfl);dsimp only [s0,s1];rfl)|(refine Ord.pureL (v:=?_) (l':=?_) (t':=?_) rfl rfl (fun _ _ _ h=>h) (by kernel_rfl) ?_ ?_ ?_ ?_ ?_;rotate_left 3;dsimp only [s0,s1];rfl;exact any_of HT_.out (by kernel_rfl);intro w';go_simp;(try simp only [i64_w]);with_reducible rfl;dsimp only [s0,s1];rfl))
  refine Ord.nil ?_
  refine done_ (done_of HT_.out (by kernel_rfl)) ?_
  clear hHeld
  try go_wp2
  go_ret
  exact ⟨rfl, HB.out⟩
 | true =>
  cases bM with
  | false =>
   clear HIS HIB HIP HI0 HI1 HC4 HC16 HRX HXX HEL
   have n0_ := Aside0.mk (below_drew1 HB.out)
   clear HB
   have HB := n0_
   clear n0_
   refine start_ (n:=58) (S:=fun w'=>w'.heap[g]?=some (.cells #[.int .i64 d,.int .i64 b,.int .i64 p,.slice A3 n3 c3,.int .i64 u,.int .i64 v,.bool o,.int .i64 z,.int .i64 mb,.int .i64 mp,.slice A10 n10 c10,.slice A11 n11 c11,.slice A12 n12 c12,.int .i64 hn,.int .i64 sq,.slice A15 n15 c15,.slice A16 n16 c16,.int .i64 bd,.int .i64 po] 44 (0,0))∧w'.cell? ⟨g,2,none⟩=some (.int .i64 p)∧w'.cell? ⟨g,8,none⟩=some (.int .i64 mb)∧w'.cell? ⟨g,9,none⟩=some (.int .i64 mp)∧w'.cell? ⟨g,10,none⟩=some (.slice A10 n10 c10)∧w'.cell? ⟨g,12,none⟩=some (.slice A12 n12 c12)) (ds:=[]) #[false,false,false,false,false,false,false,false,false,false,false,false,false,false,false,false,false,false,false,false,false,false,false,false,false,false,false,false,false,false,false,false,false,false,false,false,false,false,false,false,false,false,false,false,false,false,false,false,false,false,false,false,false,false,false,false,false,false] (by kernel_rfl) rfl rfl (HS2.out _ HB.out) (fun hHeld=>?_)
   refine with_tabW l14r2.tab l14r2.bits (fun HT_ HW_ => ?_)
   generalize World.drew _ = W5 at HB hHeld ⊢
   refine ord_ [(1,0,some 9),(1,1,some 10),(1,2,some 11),(3,3,some 12)] ?_
   repeat (first|(refine Ord.pureL (v:=?_) (l':=?_) (t':=?_) rfl rfl (fun _ _ _ h=>h) (by kernel_rfl) ?_ ?_ ?_ ?_ ?_;rotate_left 3;dsimp only [s0,s1];rfl;exact any_of HT_.out (by kernel_rfl);intro w';go_simp;(try simp only [i64_w]);with_reducible rfl;dsimp only [s0,s1];rfl)|(refine Ord.midL (i:=3) (v:=.agg #[.int .i64 d,.int .i64 b,.int .i64 p,.slice A3 n3 c3,.int .i64 u,.int .i64 v,.bool o,.int .i64 z]) (l':=?_) (t':=?_) rfl rfl (fun _ _ _ h=>h) (yieldsIf_load_mid rfl 40 (.tmp 11) rfl g 0 rfl [.int .i64 d,.int .i64 b,.int .i64 p,.slice A3 n3 c3,.int .i64 u,.int .i64 v,.bool o,.int .i64 z] _ (fun w' h=>range_part [.int .i64 d,.int .i64 b,.int .i64 p,.slice A3 n3 c3,.int .i64 u,.int .i64 v,.bool o,.int .i64 z,.int .i64 mb,.int .i64 mp,.slice A10 n10 c10,.slice A11 n11 c11,.slice A12 n12 c12,.int .i64 hn,.int .i64 sq,.slice A15 n15 c15,.slice A16 n16 c16,.int .i64 bd,.int .i64 po] h.1 0 [.int .i64 d,.int .i64 b,.int .i64 p,.slice A3 n3 c3,.int .i64 u,.int .i64 v,.bool o,.int .i64 z] rfl) Try.underlying40 rfl (by kernel_rfl)) hHeld ?_ ?_ ?_ ?_;rotate_left 2;dsimp only [s0,s1];rfl;exact take_ofW HT_.out HW_.out (by kernel_rfl);dsimp only [s0,s1];rfl))
   refine Ord.nil ?_
   refine one_ (i:=4) (N:=some 13) #[true,true,true,true,true,false,false,false,false,false,false,false,false,false,false,false,false,false,false,false,false,false,false,false,false,false,false,false,false,false,false,false,false,false,false,false,false,false,false,false,false,false,false,false,false,false,false,false,false,false,false,false,false,false,false,false,false,false] rfl rfl (one_of HT_.out (by kernel_rfl)) (by decide) (fun K hK=>?_)
   refine goes_ Try.func44 (by kernel_rfl) rfl #[.agg #[.int .i64 d,.int .i64 b,.int .i64 p,.slice A3 n3 c3,.int .i64 u,.int .i64 v,.bool o,.int .i64 z]] (by rfl) rfl rfl (by simp only [mAXMidCoreA_,List.map_cons,List.map_nil];rfl) ?_
   with_reducible refine (HF.out _ HB.out).mono ?_
   rintro e W6 ⟨rfl, hb⟩
   refine ⟨_, rfl, ?_⟩
   have n0_ := Aside0.mk (below_step HB.out hb)
   clear HB hb
   have HB := n0_
   clear n0_
   refine hK.out _ _ (HS2.out _ HB.out) (fun hHeld => ?_)
   clear hK K
   refine norm_ (a' := ?_) ?_ ?_
   rotate_left
   ·show Act.put _ (some 13) _ = _
    simp only [Act.put,lSXMidCoreA_,lZXMidCoreA_,lCXMidCoreA_,i64_w,i32_w]
    rfl
   refine ord_ [(1,5,some 14),(1,6,some 15),(1,7,some 16),(1,8,some 17),(1,9,some 18)] ?_
   repeat (first|(refine Ord.pureL (v:=?_) (l':=?_) (t':=?_) rfl rfl (fun _ _ _ h=>h) (by kernel_rfl) ?_ ?_ ?_ ?_ ?_;rotate_left 3;dsimp only [s0,s1];rfl;exact any_of HT_.out (by kernel_rfl);intro w';go_simp;(try simp only [i64_w]);with_reducible rfl;dsimp only [s0,s1];rfl))
   refine Ord.nil ?_
   refine one_ (i:=10) (N:=some 19) #[true,true,true,true,true,true,true,true,true,true,true,false,false,false,false,false,false,false,false,false,false,false,false,false,false,false,false,false,false,false,false,false,false,false,false,false,false,false,false,false,false,false,false,false,false,false,false,false,false,false,false,false,false,false,false,false,false,false] rfl rfl (one_of HT_.out (by kernel_rfl)) (by decide) (fun K hK=>?_)
   refine goes_ Try.func45 (by kernel_rfl) rfl #[.pointer (some ⟨g,8,none⟩)] (by rfl) rfl rfl (by simp only [mAXMidCoreA_,List.map_cons,List.map_nil];rfl) ?_
   with_reducible refine (HM.out _ HB.out).mono ?_
   rintro e W7 ⟨rfl, hb⟩
   refine ⟨_, rfl, ?_⟩
   have n0_ := Aside0.mk (below_step HB.out hb)
   clear HB hb
   have HB := n0_
   clear n0_
   refine hK.out _ _ (HS2.out _ HB.out) (fun hHeld => ?_)
   clear hK K
   refine norm_ (a' := ?_) ?_ ?_
   rotate_left
   ·show Act.put _ (some 19) _ = _
    simp only [Act.put,lSXMidCoreA_,lZXMidCoreA_,lCXMidCoreA_,i64_w,i32_w]
    rfl
   refine ord_ [(1,11,some 20),(1,12,some 21),(1,13,some 22),(0,14,some 23),(0,15,some 24),(0,16,some 25),(0,17,some 26),(0,18,some 27),(0,19,some 28),(0,20,some 29),(1,21,some 30),(1,22,some 31),(0,23,some 32),(0,24,some 33),(0,25,some 34),(0,26,some 35),(0,27,some 36),(0,28,some 37),(0,29,some 38),(0,30,some 39),(0,31,some 40),(0,32,some 41),(0,33,some 42),(0,34,some 43),(1,35,some 44),(1,36,some 45),(0,37,some 46),(0,38,some 47),(0,39,some 48),(0,40,some 49),(0,41,some 50),(1,42,some 51),(1,43,some 52),(0,44,some 53),(0,45,some 54),(0,46,some 55),(0,47,some 56),(0,48,some 57),(0,49,some 58),(0,50,some 59),(0,51,some 60),(0,52,some 61),(0,53,some 62),(0,54,some 63),(0,55,some 64),(0,56,some 65),(1,57,some 66)] ?_
   repeat (first|(refine Ord.offL (l':=?_) (t':=?_) rfl rfl (fun _ _ _ h=>h) (by kernel_rfl) ?_ ?_ ?_ ?_;rotate_left 2;dsimp only [s0,s1];rfl;exact any_of HT_.out (by kernel_rfl);dsimp only [s0,s1];rfl)|(refine Ord.pureL (v:=?_) (l':=?_) (t':=?_) rfl rfl (fun _ _ _ h=>h) (by kernel_rfl) ?_ ?_ ?_ ?_ ?_;rotate_left 3;dsimp only [s0,s1];rfl;exact any_of HT_.out (by kernel_rfl);intro w';go_simp;(try simp only [i64_w]);with_reducible rfl;dsimp only [s0,s1];rfl))
   refine Ord.nil ?_
   refine done_ (done_of HT_.out (by kernel_rfl)) ?_
   clear hHeld
   try go_wp2
   go_ret
   exact ⟨rfl, HB.out⟩
  | true =>
   cases bE with
   | false =>
    clear HIS HIB HIP HI0 HI1 HC4 HC16 HRX HXX HEL
    obtain ⟨qE, qQ, qL, qK, qN, qG, qZ⟩ := KQ.out
    clear qK qN qG qZ
    have qE1 : (mb == (n3 : Int)) = false := qE
    have qE2 : (mb != (n3 : Int)) = true := by rw [bne, qE]; rfl
    have n0_ := Aside0.mk (below_drew1 HB.out)
    clear HB
    have HB := n0_
    clear n0_
    refine start_ (n:=58) (S:=fun w'=>w'.heap[g]?=some (.cells #[.int .i64 d,.int .i64 b,.int .i64 p,.slice A3 n3 c3,.int .i64 u,.int .i64 v,.bool o,.int .i64 z,.int .i64 mb,.int .i64 mp,.slice A10 n10 c10,.slice A11 n11 c11,.slice A12 n12 c12,.int .i64 hn,.int .i64 sq,.slice A15 n15 c15,.slice A16 n16 c16,.int .i64 bd,.int .i64 po] 44 (0,0))∧w'.cell? ⟨g,2,none⟩=some (.int .i64 p)∧w'.cell? ⟨g,8,none⟩=some (.int .i64 mb)∧w'.cell? ⟨g,9,none⟩=some (.int .i64 mp)∧w'.cell? ⟨g,10,none⟩=some (.slice A10 n10 c10)∧w'.cell? ⟨g,12,none⟩=some (.slice A12 n12 c12)) (ds:=[]) #[false,false,false,false,false,false,false,false,false,false,false,false,false,false,false,false,false,false,false,false,false,false,false,false,false,false,false,false,false,false,false,false,false,false,false,false,false,false,false,false,false,false,false,false,false,false,false,false,false,false,false,false,false,false,false,false,false,false] (by kernel_rfl) rfl rfl (HS2.out _ HB.out) (fun hHeld=>?_)
    refine with_tabW l14r2.tab l14r2.bits (fun HT_ HW_ => ?_)
    generalize World.drew _ = W5 at HB hHeld ⊢
    refine ord_ [(1,0,some 9),(1,1,some 10),(1,2,some 11),(3,3,some 12)] ?_
    repeat (first|(refine Ord.pureL (v:=?_) (l':=?_) (t':=?_) rfl rfl (fun _ _ _ h=>h) (by kernel_rfl) ?_ ?_ ?_ ?_ ?_;rotate_left 3;dsimp only [s0,s1];rfl;exact any_of HT_.out (by kernel_rfl);intro w';go_simp;(try simp only [i64_w]);with_reducible rfl;dsimp only [s0,s1];rfl)|(refine Ord.midL (i:=3) (v:=.agg #[.int .i64 d,.int .i64 b,.int .i64 p,.slice A3 n3 c3,.int .i64 u,.int .i64 v,.bool o,.int .i64 z]) (l':=?_) (t':=?_) rfl rfl (fun _ _ _ h=>h) (yieldsIf_load_mid rfl 40 (.tmp 11) rfl g 0 rfl [.int .i64 d,.int .i64 b,.int .i64 p,.slice A3 n3 c3,.int .i64 u,.int .i64 v,.bool o,.int .i64 z] _ (fun w' h=>range_part [.int .i64 d,.int .i64 b,.int .i64 p,.slice A3 n3 c3,.int .i64 u,.int .i64 v,.bool o,.int .i64 z,.int .i64 mb,.int .i64 mp,.slice A10 n10 c10,.slice A11 n11 c11,.slice A12 n12 c12,.int .i64 hn,.int .i64 sq,.slice A15 n15 c15,.slice A16 n16 c16,.int .i64 bd,.int .i64 po] h.1 0 [.int .i64 d,.int .i64 b,.int .i64 p,.slice A3 n3 c3,.int .i64 u,.int .i64 v,.bool o,.int .i64 z] rfl) Try.underlying40 rfl (by kernel_rfl)) hHeld ?_ ?_ ?_ ?_;rotate_left 2;dsimp only [s0,s1];rfl;exact take_ofW HT_.out HW_.out (by kernel_rfl);dsimp only [s0,s1];rfl))
    refine Ord.nil ?_
    refine one_ (i:=4) (N:=some 13) #[true,true,true,true,true,false,false,false,false,false,false,false,false,false,false,false,false,false,false,false,false,false,false,false,false,false,false,false,false,false,false,false,false,false,false,false,false,false,false,false,false,false,false,false,false,false,false,false,false,false,false,false,false,false,false,false,false,false] rfl rfl (one_of HT_.out (by kernel_rfl)) (by decide) (fun K hK=>?_)
    refine goes_ Try.func44 (by kernel_rfl) rfl #[.agg #[.int .i64 d,.int .i64 b,.int .i64 p,.slice A3 n3 c3,.int .i64 u,.int .i64 v,.bool o,.int .i64 z]] (by rfl) rfl rfl (by simp only [mAXMidCoreA_,List.map_cons,List.map_nil];rfl) ?_
    with_reducible refine (HF.out _ HB.out).mono ?_
    rintro e W6 ⟨rfl, hb⟩
    refine ⟨_, rfl, ?_⟩
    have n0_ := Aside0.mk (below_step HB.out hb)
    clear HB hb
    have HB := n0_
    clear n0_
    refine hK.out _ _ (HS2.out _ HB.out) (fun hHeld => ?_)
    clear hK K
    refine norm_ (a' := ?_) ?_ ?_
    rotate_left
    ·show Act.put _ (some 13) _ = _
     simp only [Act.put,lSXMidCoreA_,lZXMidCoreA_,lCXMidCoreA_,i64_w,i32_w]
     rfl
    refine ord_ [(1,5,some 14),(1,6,some 15),(1,7,some 16),(1,8,some 17),(1,9,some 18)] ?_
    repeat (first|(refine Ord.pureL (v:=?_) (l':=?_) (t':=?_) rfl rfl (fun _ _ _ h=>h) (by kernel_rfl) ?_ ?_ ?_ ?_ ?_;rotate_left 3;dsimp only [s0,s1];rfl;exact any_of HT_.out (by kernel_rfl);intro w';go_simp;(try simp only [i64_w]);with_reducible rfl;dsimp only [s0,s1];rfl))
    refine Ord.nil ?_
    refine one_ (i:=10) (N:=some 19) #[true,true,true,true,true,true,true,true,true,true,true,false,false,false,false,false,false,false,false,false,false,false,false,false,false,false,false,false,false,false,false,false,false,false,false,false,false,false,false,false,false,false,false,false,false,false,false,false,false,false,false,false,false,false,false,false,false,false] rfl rfl (one_of HT_.out (by kernel_rfl)) (by decide) (fun K hK=>?_)
    refine goes_ Try.func45 (by kernel_rfl) rfl #[.pointer (some ⟨g,8,none⟩)] (by rfl) rfl rfl (by simp only [mAXMidCoreA_,List.map_cons,List.map_nil];rfl) ?_
    with_reducible refine (HM.out _ HB.out).mono ?_
    rintro e W7 ⟨rfl, hb⟩
    refine ⟨_, rfl, ?_⟩
    have n0_ := Aside0.mk (below_step HB.out hb)
    clear HB hb
    have HB := n0_
    clear n0_
    refine hK.out _ _ (HS2.out _ HB.out) (fun hHeld => ?_)
    clear hK K
    refine norm_ (a' := ?_) ?_ ?_
    rotate_left
    ·show Act.put _ (some 19) _ = _
     simp only [Act.put,lSXMidCoreA_,lZXMidCoreA_,lCXMidCoreA_,i64_w,i32_w]
     rfl
    refine ord_ [(1,11,some 20),(1,12,some 21),(1,13,some 22),(1,14,some 23),(1,15,some 24),(1,16,some 25),(1,17,some 26),(1,19,some 28),(2,18,some 27),(1,20,some 29),(1,21,some 30),(1,22,some 31),(0,23,some 32),(0,24,some 33),(0,25,some 34),(0,26,some 35),(0,27,some 36),(0,28,some 37),(0,29,some 38),(0,30,some 39),(0,31,some 40),(0,32,some 41),(0,33,some 42),(0,34,some 43),(1,35,some 44),(1,36,some 45),(0,37,some 46),(0,38,some 47),(0,39,some 48),(0,40,some 49),(0,41,some 50),(1,42,some 51),(1,43,some 52),(0,44,some 53),(0,45,some 54),(0,46,some 55),(0,47,some 56),(0,48,some 57),(0,49,some 58),(0,50,some 59),(0,51,some 60),(0,52,some 61),(0,53,some 62),(0,54,some 63),(0,55,some 64),(0,56,some 65),(1,57,some 66)] ?_
    repeat (first|(refine Ord.offL (l':=?_) (t':=?_) rfl rfl (fun _ _ _ h=>h) (by kernel_rfl) ?_ ?_ ?_ ?_;rotate_left 2;dsimp only [s0,s1];rfl;exact any_of HT_.out (by kernel_rfl);dsimp only [s0,s1];rfl)|(refine Ord.pureL (v:=?_) (l':=?_) (t':=?_) rfl rfl (fun _ _ _ h=>h) (by kernel_rfl) ?_ ?_ ?_ ?_ ?_;rotate_left 3;dsimp only [s0,s1];rfl;exact any_of HT_.out (by kernel_rfl);intro w';go_simp;(try simp only [i64_w]);with_reducible rfl;dsimp only [s0,s1];rfl)|(refine Ord.takeL (v:=?_) (l':=?_) (t':=?_) rfl rfl (fun _ _ _ h=>h) hHeld (by kernel_rfl) ?_ ?_ ?_ ?_ ?_;rotate_left 3;dsimp only [s0,s1];rfl;exact take_ofW HT_.out HW_.out (by kernel_rfl);rintro w' ⟨sb,s1,s2,s3,s4,s5⟩;clear sb;go_simp;with_reducible rfl;dsimp only [s0,s1];rfl))
    refine Ord.nil ?_
    refine done_ (done_of HT_.out (by kernel_rfl)) ?_
    clear hHeld
    try go_wp2
    go_ret
    exact ⟨rfl, HB.out⟩
   | true =>
    cases bQ with
    | false =>
     clear HIS HIB HIP HI0 HI1 HC4 HC16 HRX HXX HEL
     obtain ⟨qE, qQ, qL, qK, qN, qG, qZ⟩ := KQ.out
     clear qK qN qG qZ
     have qE1 : (mb == (n3 : Int)) = true := qE
     have qE2:(mb != (n3:Int))=false:=by rw [bne,qE];rfl
     have qQ1 : (mp == p) = false := qQ
     have qQ2 : (mp != p) = true := by rw [bne, qQ]; rfl
     have n0_ := Aside0.mk (below_drew1 HB.out)
     clear HB
     have HB := n0_
     clear n0_
     refine start_ (n:=58) (S:=fun w'=>w'.heap[g]?=some (.cells #[.int .i64 d,.int .i64 b,.int .i64 p,.slice A3 n3 c3,.int .i64 u,.int .i64 v,.bool o,.int .i64 z,.int .i64 mb,.int .i64 mp,.slice A10 n10 c10,.slice A11 n11 c11,.slice A12 n12 c12,.int .i64 hn,.int .i64 sq,.slice A15 n15 c15,.slice A16 n16 c16,.int .i64 bd,.int .i64 po] 44 (0,0))∧w'.cell? ⟨g,2,none⟩=some (.int .i64 p)∧w'.cell? ⟨g,8,none⟩=some (.int .i64 mb)∧w'.cell? ⟨g,9,none⟩=some (.int .i64 mp)∧w'.cell? ⟨g,10,none⟩=some (.slice A10 n10 c10)∧w'.cell? ⟨g,12,none⟩=some (.slice A12 n12 c12)) (ds:=[]) #[false,false,false,false,false,false,false,false,false,false,false,false,false,false,false,false,false,false,false,false,false,false,false,false,false,false,false,false,false,false,false,false,false,false,false,false,false,false,false,false,false,false,false,false,false,false,false,false,false,false,false,false,false,false,false,false,false,false] (by kernel_rfl) rfl rfl (HS2.out _ HB.out) (fun hHeld=>?_)
     refine with_tabW l14r2.tab l14r2.bits (fun HT_ HW_ => ?_)
     generalize World.drew _ = W5 at HB hHeld ⊢
     refine ord_ [(1,0,some 9),(1,1,some 10),(1,2,some 11),(3,3,some 12)] ?_
     repeat (first|(refine Ord.pureL (v:=?_) (l':=?_) (t':=?_) rfl rfl (fun _ _ _ h=>h) (by kernel_rfl) ?_ ?_ ?_ ?_ ?_;rotate_left 3;dsimp only [s0,s1];rfl;exact any_of HT_.out (by kernel_rfl);intro w';go_simp;(try simp only [i64_w]);with_reducible rfl;dsimp only [s0,s1];rfl)|(refine Ord.midL (i:=3) (v:=.agg #[.int .i64 d,.int .i64 b,.int .i64 p,.slice A3 n3 c3,.int .i64 u,.int .i64 v,.bool o,.int .i64 z]) (l':=?_) (t':=?_) rfl rfl (fun _ _ _ h=>h) (yieldsIf_load_mid rfl 40 (.tmp 11) rfl g 0 rfl [.int .i64 d,.int .i64 b,.int .i64 p,.slice A3 n3 c3,.int .i64 u,.int .i64 v,.bool o,.int .i64 z] _ (fun w' h=>range_part [.int .i64 d,.int .i64 b,.int .i64 p,.slice A3 n3 c3,.int .i64 u,.int .i64 v,.bool o,.int .i64 z,.int .i64 mb,.int .i64 mp,.slice A10 n10 c10,.slice A11 n11 c11,.slice A12 n12 c12,.int .i64 hn,.int .i64 sq,.slice A15 n15 c15,.slice A16 n16 c16,.int .i64 bd,.int .i64 po] h.1 0 [.int .i64 d,.int .i64 b,.int .i64 p,.slice A3 n3 c3,.int .i64 u,.int .i64 v,.bool o,.int .i64 z] rfl) Try.underlying40 rfl (by kernel_rfl)) hHeld ?_ ?_ ?_ ?_;rotate_left 2;dsimp only [s0,s1];rfl;exact take_ofW HT_.out HW_.out (by kernel_rfl);dsimp only [s0,s1];rfl))
     refine Ord.nil ?_
     refine one_ (i:=4) (N:=some 13) #[true,true,true,true,true,false,false,false,false,false,false,false,false,false,false,false,false,false,false,false,false,false,false,false,false,false,false,false,false,false,false,false,false,false,false,false,false,false,false,false,false,false,false,false,false,false,false,false,false,false,false,false,false,false,false,false,false,false] rfl rfl (one_of HT_.out (by kernel_rfl)) (by decide) (fun K hK=>?_)
     refine goes_ Try.func44 (by kernel_rfl) rfl #[.agg #[.int .i64 d,.int .i64 b,.int .i64 p,.slice A3 n3 c3,.int .i64 u,.int .i64 v,.bool o,.int .i64 z]] (by rfl) rfl rfl (by simp only [mAXMidCoreA_,List.map_cons,List.map_nil];rfl) ?_
     with_reducible refine (HF.out _ HB.out).mono ?_
     rintro e W6 ⟨rfl, hb⟩
     refine ⟨_, rfl, ?_⟩
     have n0_ := Aside0.mk (below_step HB.out hb)
     clear HB hb
     have HB := n0_
     clear n0_
     refine hK.out _ _ (HS2.out _ HB.out) (fun hHeld => ?_)
     clear hK K
     refine norm_ (a' := ?_) ?_ ?_
     rotate_left
     ·show Act.put _ (some 13) _ = _
      simp only [Act.put,lSXMidCoreA_,lZXMidCoreA_,lCXMidCoreA_,i64_w,i32_w]
      rfl
     refine ord_ [(1,5,some 14),(1,6,some 15),(1,7,some 16),(1,8,some 17),(1,9,some 18)] ?_
     repeat (first|(refine Ord.pureL (v:=?_) (l':=?_) (t':=?_) rfl rfl (fun _ _ _ h=>h) (by kernel_rfl) ?_ ?_ ?_ ?_ ?_;rotate_left 3;dsimp only [s0,s1];rfl;exact any_of HT_.out (by kernel_rfl);intro w';go_simp;(try simp only [i64_w]);with_reducible rfl;dsimp only [s0,s1];rfl))
     refine Ord.nil ?_
     refine one_ (i:=10) (N:=some 19) #[true,true,true,true,true,true,true,true,true,true,true,false,false,false,false,false,false,false,false,false,false,false,false,false,false,false,false,false,false,false,false,false,false,false,false,false,false,false,false,false,false,false,false,false,false,false,false,false,false,false,false,false,false,false,false,false,false,false] rfl rfl (one_of HT_.out (by kernel_rfl)) (by decide) (fun K hK=>?_)
     refine goes_ Try.func45 (by kernel_rfl) rfl #[.pointer (some ⟨g,8,none⟩)] (by rfl) rfl rfl (by simp only [mAXMidCoreA_,List.map_cons,List.map_nil];rfl) ?_
     with_reducible refine (HM.out _ HB.out).mono ?_
     rintro e W7 ⟨rfl, hb⟩
     refine ⟨_, rfl, ?_⟩
     have n0_ := Aside0.mk (below_step HB.out hb)
     clear HB hb
     have HB := n0_
     clear n0_
     refine hK.out _ _ (HS2.out _ HB.out) (fun hHeld => ?_)
     clear hK K
     refine norm_ (a' := ?_) ?_ ?_
     rotate_left
     ·show Act.put _ (some 19) _ = _
      simp only [Act.put,lSXMidCoreA_,lZXMidCoreA_,lCXMidCoreA_,i64_w,i32_w]
      rfl
     refine ord_ [(1,11,some 20),(1,12,some 21),(1,13,some 22),(1,14,some 23),(1,15,some 24),(1,16,some 25),(1,17,some 26),(1,19,some 28),(2,18,some 27),(1,20,some 29),(1,21,some 30),(1,22,some 31),(1,23,some 32),(1,24,some 33),(1,25,some 34),(1,26,some 35),(1,28,some 37),(1,29,some 38),(1,30,some 39),(1,31,some 40),(1,32,some 41),(2,27,some 36),(2,33,some 42),(1,34,some 43),(1,35,some 44),(1,36,some 45),(0,37,some 46),(0,38,some 47),(0,39,some 48),(0,40,some 49),(0,41,some 50),(1,42,some 51),(1,43,some 52),(0,44,some 53),(0,45,some 54),(0,46,some 55),(0,47,some 56),(0,48,some 57),(0,49,some 58),(0,50,some 59),(0,51,some 60),(0,52,some 61),(0,53,some 62),(0,54,some 63),(0,55,some 64),(0,56,some 65),(1,57,some 66)] ?_
     repeat (first|(refine Ord.offL (l':=?_) (t':=?_) rfl rfl (fun _ _ _ h=>h) (by kernel_rfl) ?_ ?_ ?_ ?_;rotate_left 2;dsimp only [s0,s1];rfl;exact any_of HT_.out (by kernel_rfl);dsimp only [s0,s1];rfl)|(refine Ord.pureL (v:=?_) (l':=?_) (t':=?_) rfl rfl (fun _ _ _ h=>h) (by kernel_rfl) ?_ ?_ ?_ ?_ ?_;rotate_left 3;dsimp only [s0,s1];rfl;exact any_of HT_.out (by kernel_rfl);intro w';go_simp;(try simp only [i64_w]);with_reducible rfl;dsimp only [s0,s1];rfl)|(refine Ord.takeL (v:=?_) (l':=?_) (t':=?_) rfl rfl (fun _ _ _ h=>h) hHeld (by kernel_rfl) ?_ ?_ ?_ ?_ ?_;rotate_left 3;dsimp only [s0,s1];rfl;exact take_ofW HT_.out HW_.out (by kernel_rfl);rintro w' ⟨sb,s1,s2,s3,s4,s5⟩;clear sb;go_simp;with_reducible rfl;dsimp only [s0,s1];rfl))
     refine Ord.nil ?_
     refine done_ (done_of HT_.out (by kernel_rfl)) ?_
     clear hHeld
     try go_wp2
     go_ret
     exact ⟨rfl, HB.out⟩
    | true =>
     cases bH with
     | false =>
      clear HIS HIB HIP HI0 HI1 HC4 HC16 HRX HXX HEL
      obtain ⟨qE, qQ, qL, qK, qN, qG, qZ⟩ := KQ.out
      clear qK qN qG qZ
      have qE1 : (mb == (n3 : Int)) = true := qE
      have qE2:(mb != (n3:Int))=false:=by rw [bne,qE];rfl
      have qQ1 : (mp == p) = true := qQ
      have qQ2 : (mp != p) = false := by rw [bne, qQ]; rfl
      have n0_ := Aside0.mk (below_drew1 HB.out)
      clear HB
      have HB := n0_
      clear n0_
      refine start_ (n:=58) (S:=fun w'=>w'.heap[g]?=some (.cells #[.int .i64 d,.int .i64 b,.int .i64 p,.slice A3 n3 c3,.int .i64 u,.int .i64 v,.bool o,.int .i64 z,.int .i64 mb,.int .i64 mp,.slice A10 n10 c10,.slice A11 n11 c11,.slice A12 n12 c12,.int .i64 hn,.int .i64 sq,.slice A15 n15 c15,.slice A16 n16 c16,.int .i64 bd,.int .i64 po] 44 (0,0))∧w'.cell? ⟨g,2,none⟩=some (.int .i64 p)∧w'.cell? ⟨g,8,none⟩=some (.int .i64 mb)∧w'.cell? ⟨g,9,none⟩=some (.int .i64 mp)∧w'.cell? ⟨g,10,none⟩=some (.slice A10 n10 c10)∧w'.cell? ⟨g,12,none⟩=some (.slice A12 n12 c12)) (ds:=[]) #[false,false,false,false,false,false,false,false,false,false,false,false,false,false,false,false,false,false,false,false,false,false,false,false,false,false,false,false,false,false,false,false,false,false,false,false,false,false,false,false,false,false,false,false,false,false,false,false,false,false,false,false,false,false,false,false,false,false] (by kernel_rfl) rfl rfl (HS2.out _ HB.out) (fun hHeld=>?_)
      refine with_tabW l14r2.tab l14r2.bits (fun HT_ HW_ => ?_)
      generalize World.drew _ = W5 at HB hHeld ⊢
      refine ord_ [(1,0,some 9),(1,1,some 10),(1,2,some 11),(3,3,some 12)] ?_
      repeat (first|(refine Ord.pureL (v:=?_) (l':=?_) (t':=?_) rfl rfl (fun _ _ _ h=>h) (by kernel_rfl) ?_ ?_ ?_ ?_ ?_;rotate_left 3;dsimp only [s0,s1];rfl;exact any_of HT_.out (by kernel_rfl);intro w';go_simp;(try simp only [i64_w]);with_reducible rfl;dsimp only [s0,s1];rfl)|(refine Ord.midL (i:=3) (v:=.agg #[.int .i64 d,.int .i64 b,.int .i64 p,.slice A3 n3 c3,.int .i64 u,.int .i64 v,.bool o,.int .i64 z]) (l':=?_) (t':=?_) rfl rfl (fun _ _ _ h=>h) (yieldsIf_load_mid rfl 40 (.tmp 11) rfl g 0 rfl [.int .i64 d,.int .i64 b,.int .i64 p,.slice A3 n3 c3,.int .i64 u,.int .i64 v,.bool o,.int .i64 z] _ (fun w' h=>range_part [.int .i64 d,.int .i64 b,.int .i64 p,.slice A3 n3 c3,.int .i64 u,.int .i64 v,.bool o,.int .i64 z,.int .i64 mb,.int .i64 mp,.slice A10 n10 c10,.slice A11 n11 c11,.slice A12 n12 c12,.int .i64 hn,.int .i64 sq,.slice A15 n15 c15,.slice A16 n16 c16,.int .i64 bd,.int .i64 po] h.1 0 [.int .i64 d,.int .i64 b,.int .i64 p,.slice A3 n3 c3,.int .i64 u,.int .i64 v,.bool o,.int .i64 z] rfl) Try.underlying40 rfl (by kernel_rfl)) hHeld ?_ ?_ ?_ ?_;rotate_left 2;dsimp only [s0,s1];rfl;exact take_ofW HT_.out HW_.out (by kernel_rfl);dsimp only [s0,s1];rfl))
      refine Ord.nil ?_
      refine one_ (i:=4) (N:=some 13) #[true,true,true,true,true,false,false,false,false,false,false,false,false,false,false,false,false,false,false,false,false,false,false,false,false,false,false,false,false,false,false,false,false,false,false,false,false,false,false,false,false,false,false,false,false,false,false,false,false,false,false,false,false,false,false,false,false,false] rfl rfl (one_of HT_.out (by kernel_rfl)) (by decide) (fun K hK=>?_)
      refine goes_ Try.func44 (by kernel_rfl) rfl #[.agg #[.int .i64 d,.int .i64 b,.int .i64 p,.slice A3 n3 c3,.int .i64 u,.int .i64 v,.bool o,.int .i64 z]] (by rfl) rfl rfl (by simp only [mAXMidCoreA_,List.map_cons,List.map_nil];rfl) ?_
      with_reducible refine (HF.out _ HB.out).mono ?_
      rintro e W6 ⟨rfl, hb⟩
      refine ⟨_, rfl, ?_⟩
      have n0_ := Aside0.mk (below_step HB.out hb)
      clear HB hb
      have HB := n0_
      clear n0_
      refine hK.out _ _ (HS2.out _ HB.out) (fun hHeld => ?_)
      clear hK K
      refine norm_ (a' := ?_) ?_ ?_
      rotate_left
      ·show Act.put _ (some 13) _ = _
       simp only [Act.put,lSXMidCoreA_,lZXMidCoreA_,lCXMidCoreA_,i64_w,i32_w]
       rfl
      refine ord_ [(1,5,some 14),(1,6,some 15),(1,7,some 16),(1,8,some 17),(1,9,some 18)] ?_
      repeat (first|(refine Ord.pureL (v:=?_) (l':=?_) (t':=?_) rfl rfl (fun _ _ _ h=>h) (by kernel_rfl) ?_ ?_ ?_ ?_ ?_;rotate_left 3;dsimp only [s0,s1];rfl;exact any_of HT_.out (by kernel_rfl);intro w';go_simp;(try simp only [i64_w]);with_reducible rfl;dsimp only [s0,s1];rfl))
      refine Ord.nil ?_
      refine one_ (i:=10) (N:=some 19) #[true,true,true,true,true,true,true,true,true,true,true,false,false,false,false,false,false,false,false,false,false,false,false,false,false,false,false,false,false,false,false,false,false,false,false,false,false,false,false,false,false,false,false,false,false,false,false,false,false,false,false,false,false,false,false,false,false,false] rfl rfl (one_of HT_.out (by kernel_rfl)) (by decide) (fun K hK=>?_)
      refine goes_ Try.func45 (by kernel_rfl) rfl #[.pointer (some ⟨g,8,none⟩)] (by rfl) rfl rfl (by simp only [mAXMidCoreA_,List.map_cons,List.map_nil];rfl) ?_
      with_reducible refine (HM.out _ HB.out).mono ?_
      rintro e W7 ⟨rfl, hb⟩
      refine ⟨_, rfl, ?_⟩
      have n0_ := Aside0.mk (below_step HB.out hb)
      clear HB hb
      have HB := n0_
      clear n0_
      refine hK.out _ _ (HS2.out _ HB.out) (fun hHeld => ?_)
      clear hK K
      refine norm_ (a' := ?_) ?_ ?_
      rotate_left
      ·show Act.put _ (some 19) _ = _
       simp only [Act.put,lSXMidCoreA_,lZXMidCoreA_,lCXMidCoreA_,i64_w,i32_w]
       rfl
      refine ord_ [(1,11,some 20),(1,12,some 21),(1,13,some 22),(1,14,some 23),(1,15,some 24),(1,16,some 25),(1,17,some 26),(1,19,some 28),(2,18,some 27),(1,20,some 29),(1,21,some 30),(1,22,some 31),(1,23,some 32),(1,24,some 33),(1,25,some 34),(1,26,some 35),(1,28,some 37),(1,29,some 38),(1,30,some 39),(1,31,some 40),(1,32,some 41),(2,27,some 36),(2,33,some 42),(1,34,some 43),(1,35,some 44),(1,36,some 45),(1,37,some 46),(1,38,some 47),(1,39,some 48)] ?_
      repeat (first|(refine Ord.pureL (v:=?_) (l':=?_) (t':=?_) rfl rfl (fun _ _ _ h=>h) (by kernel_rfl) ?_ ?_ ?_ ?_ ?_;rotate_left 3;dsimp only [s0,s1];rfl;exact any_of HT_.out (by kernel_rfl);intro w';go_simp;(try simp only [i64_w]);with_reducible rfl;dsimp only [s0,s1];rfl)|(refine Ord.takeL (v:=?_) (l':=?_) (t':=?_) rfl rfl (fun _ _ _ h=>h) hHeld (by kernel_rfl) ?_ ?_ ?_ ?_ ?_;rotate_left 3;dsimp only [s0,s1];rfl;exact take_ofW HT_.out HW_.out (by kernel_rfl);rintro w' ⟨sb,s1,s2,s3,s4,s5⟩;clear sb;go_simp;with_reducible rfl;dsimp only [s0,s1];rfl))
      refine Ord.nil ?_
      refine one_ (i:=40) (N:=some 49) #[true,true,true,true,true,true,true,true,true,true,true,true,true,true,true,true,true,true,true,true,true,true,true,true,true,true,true,true,true,true,true,true,true,true,true,true,true,true,true,true,true,false,false,false,false,false,false,false,false,false,false,false,false,false,false,false,false,false] rfl rfl (one_of HT_.out (by kernel_rfl)) (by decide) (fun K hK=>?_)
      refine goes_ Try.func46 (by kernel_rfl) rfl #[.pointer (some ⟨g,12,none⟩)] (by rfl) rfl rfl (by simp only [mAXMidCoreA_,List.map_cons,List.map_nil];rfl) ?_
      with_reducible refine (HH.out _ HB.out).mono ?_
      rintro e W8 ⟨rfl, hb⟩
      refine ⟨_, rfl, ?_⟩
      have n0_ := Aside0.mk (below_step HB.out hb)
      clear HB hb
      have HB := n0_
      clear n0_
      refine hK.out _ _ (HS2.out _ HB.out) (fun hHeld => ?_)
      clear hK K
      refine norm_ (a' := ?_) ?_ ?_
      rotate_left
      ·show Act.put _ (some 49) _ = _
       simp only [Act.put,lSXMidCoreA_,lZXMidCoreA_,lCXMidCoreA_,i64_w,i32_w]
       rfl
      refine ord_ [(1,41,some 50),(1,42,some 51),(1,43,some 52),(0,44,some 53),(0,45,some 54),(0,46,some 55),(0,47,some 56),(0,48,some 57),(0,49,some 58),(0,50,some 59),(0,51,some 60),(0,52,some 61),(0,53,some 62),(0,54,some 63),(0,55,some 64),(0,56,some 65),(1,57,some 66)] ?_
      repeat (first|(refine Ord.offL (l':=?_) (t':=?_) rfl rfl (fun _ _ _ h=>h) (by kernel_rfl) ?_ ?_ ?_ ?_;rotate_left 2;dsimp only [s0,s1];rfl;exact any_of HT_.out (by kernel_rfl);dsimp only [s0,s1];rfl)|(refine Ord.pureL (v:=?_) (l':=?_) (t':=?_) rfl rfl (fun _ _ _ h=>h) (by kernel_rfl) ?_ ?_ ?_ ?_ ?_;rotate_left 3;dsimp only [s0,s1];rfl;exact any_of HT_.out (by kernel_rfl);intro w';go_simp;(try simp only [i64_w]);with_reducible rfl;dsimp only [s0,s1];rfl))
      refine Ord.nil ?_
      refine done_ (done_of HT_.out (by kernel_rfl)) ?_
      clear hHeld
      try go_wp2
      go_ret
      exact ⟨rfl, HB.out⟩
     | true =>
      cases bL with
      | false =>
       clear HIS HIB HIP HI0 HI1 HC4 HC16 HRX HXX HEL
       obtain ⟨qE, qQ, qL, qK, qN, qG, qZ⟩ := KQ.out
       clear qK qN qG qZ
       have qE1 : (mb == (n3 : Int)) = true := qE
       have qE2:(mb != (n3:Int))=false:=by rw [bne,qE];rfl
       have qQ1 : (mp == p) = true := qQ
       have qQ2 : (mp != p) = false := by rw [bne, qQ]; rfl
       have qL1 : ((n12 : Int) == (n10 : Int)) = false := qL
       have qL2:((n12:Int) != (n10:Int))=true:=by rw [bne,qL];rfl
       have qL3:(n12 == n10)=false:=by rw [← qL];first|exact natbeq _ _|simp
       have n0_ := Aside0.mk (below_drew1 HB.out)
       clear HB
       have HB := n0_
       clear n0_
       refine start_ (n:=58) (S:=fun w'=>w'.heap[g]?=some (.cells #[.int .i64 d,.int .i64 b,.int .i64 p,.slice A3 n3 c3,.int .i64 u,.int .i64 v,.bool o,.int .i64 z,.int .i64 mb,.int .i64 mp,.slice A10 n10 c10,.slice A11 n11 c11,.slice A12 n12 c12,.int .i64 hn,.int .i64 sq,.slice A15 n15 c15,.slice A16 n16 c16,.int .i64 bd,.int .i64 po] 44 (0,0))∧w'.cell? ⟨g,2,none⟩=some (.int .i64 p)∧w'.cell? ⟨g,8,none⟩=some (.int .i64 mb)∧w'.cell? ⟨g,9,none⟩=some (.int .i64 mp)∧w'.cell? ⟨g,10,none⟩=some (.slice A10 n10 c10)∧w'.cell? ⟨g,12,none⟩=some (.slice A12 n12 c12)) (ds:=[]) #[false,false,false,false,false,false,false,false,false,false,false,false,false,false,false,false,false,false,false,false,false,false,false,false,false,false,false,false,false,false,false,false,false,false,false,false,false,false,false,false,false,false,false,false,false,false,false,false,false,false,false,false,false,false,false,false,false,false] (by kernel_rfl) rfl rfl (HS2.out _ HB.out) (fun hHeld=>?_)
       refine with_tabW l14r2.tab l14r2.bits (fun HT_ HW_=>?_)
       generalize World.drew _ = W5 at HB hHeld ⊢
       refine ord_ [(1,0,some 9),(1,1,some 10),(1,2,some 11),(3,3,some 12)] ?_
       repeat (first|(refine Ord.pureL (v:=?_) (l':=?_) (t':=?_) rfl rfl (fun _ _ _ h=>h) (by kernel_rfl) ?_ ?_ ?_ ?_ ?_;rotate_left 3;dsimp only [s0,s1];rfl;exact any_of HT_.out (by kernel_rfl);intro w';go_simp;(try simp only [i64_w]);with_reducible rfl;dsimp only [s0,s1];rfl)|(refine Ord.midL (i:=3) (v:=.agg #[.int .i64 d,.int .i64 b,.int .i64 p,.slice A3 n3 c3,.int .i64 u,.int .i64 v,.bool o,.int .i64 z]) (l':=?_) (t':=?_) rfl rfl (fun _ _ _ h=>h) (yieldsIf_load_mid rfl 40 (.tmp 11) rfl g 0 rfl [.int .i64 d,.int .i64 b,.int .i64 p,.slice A3 n3 c3,.int .i64 u,.int .i64 v,.bool o,.int .i64 z] _ (fun w' h=>range_part [.int .i64 d,.int .i64 b,.int .i64 p,.slice A3 n3 c3,.int .i64 u,.int .i64 v,.bool o,.int .i64 z,.int .i64 mb,.int .i64 mp,.slice A10 n10 c10,.slice A11 n11 c11,.slice A12 n12 c12,.int .i64 hn,.int .i64 sq,.slice A15 n15 c15,.slice A16 n16 c16,.int .i64 bd,.int .i64 po] h.1 0 [.int .i64 d,.int .i64 b,.int .i64 p,.slice A3 n3 c3,.int .i64 u,.int .i64 v,.bool o,.int .i64 z] rfl) Try.underlying40 rfl (by kernel_rfl)) hHeld ?_ ?_ ?_ ?_;rotate_left 2;dsimp only [s0,s1];rfl;exact take_ofW HT_.out HW_.out (by kernel_rfl);dsimp only [s0,s1];rfl))
       refine Ord.nil ?_
       refine one_ (i:=4) (N:=some 13) #[true,true,true,true,true,false,false,false,false,false,false,false,false,false,false,false,false,false,false,false,false,false,false,false,false,false,false,false,false,false,false,false,false,false,false,false,false,false,false,false,false,false,false,false,false,false,false,false,false,false,false,false,false,false,false,false,false,false] rfl rfl (one_of HT_.out (by kernel_rfl)) (by decide) (fun K hK=>?_)
       refine goes_ Try.func44 (by kernel_rfl) rfl #[.agg #[.int .i64 d,.int .i64 b,.int .i64 p,.slice A3 n3 c3,.int .i64 u,.int .i64 v,.bool o,.int .i64 z]] (by rfl) rfl rfl (by simp only [mAXMidCoreA_,List.map_cons,List.map_nil];rfl) ?_
       with_reducible refine (HF.out _ HB.out).mono ?_
       rintro e W6 ⟨rfl, hb⟩
       refine ⟨_, rfl, ?_⟩
       have n0_ := Aside0.mk (below_step HB.out hb)
       clear HB hb
       have HB := n0_
       clear n0_
       refine hK.out _ _ (HS2.out _ HB.out) (fun hHeld => ?_)
       clear hK K
       refine norm_ (a' := ?_) ?_ ?_
       rotate_left
       ·show Act.put _ (some 13) _ = _
        simp only [Act.put,lSXMidCoreA_,lZXMidCoreA_,lCXMidCoreA_,i64_w,i32_w]
        rfl
       refine ord_ [(1,5,some 14),(1,6,some 15),(1,7,some 16),(1,8,some 17),(1,9,some 18)] ?_
       repeat (first|(refine Ord.pureL (v:=?_) (l':=?_) (t':=?_) rfl rfl (fun _ _ _ h=>h) (by kernel_rfl) ?_ ?_ ?_ ?_ ?_;rotate_left 3;dsimp only [s0,s1];rfl;exact any_of HT_.out (by kernel_rfl);intro w';go_simp;(try simp only [i64_w]);with_reducible rfl;dsimp only [s0,s1];rfl))
       refine Ord.nil ?_
       refine one_ (i:=10) (N:=some 19) #[true,true,true,true,true,true,true,true,true,true,true,false,false,false,false,false,false,false,false,false,false,false,false,false,false,false,false,false,false,false,false,false,false,false,false,false,false,false,false,false,false,false,false,false,false,false,false,false,false,false,false,false,false,false,false,false,false,false] rfl rfl (one_of HT_.out (by kernel_rfl)) (by decide) (fun K hK=>?_)
       refine goes_ Try.func45 (by kernel_rfl) rfl #[.pointer (some ⟨g,8,none⟩)] (by rfl) rfl rfl (by simp only [mAXMidCoreA_,List.map_cons,List.map_nil];rfl) ?_
       with_reducible refine (HM.out _ HB.out).mono ?_
       rintro e W7 ⟨rfl, hb⟩
       refine ⟨_, rfl, ?_⟩
       have n0_ := Aside0.mk (below_step HB.out hb)
       clear HB hb
       have HB := n0_
       clear n0_
       refine hK.out _ _ (HS2.out _ HB.out) (fun hHeld => ?_)
       clear hK K
       refine norm_ (a' := ?_) ?_ ?_
       rotate_left
       ·show Act.put _ (some 19) _ = _
        simp only [Act.put,lSXMidCoreA_,lZXMidCoreA_,lCXMidCoreA_,i64_w,i32_w]
        rfl
       refine ord_ [(1,11,some 20),(1,12,some 21),(1,13,some 22),(1,14,some 23),(1,15,some 24),(1,16,some 25),(1,17,some 26),(1,19,some 28),(2,18,some 27),(1,20,some 29),(1,21,some 30),(1,22,some 31),(1,23,some 32),(1,24,some 33),(1,25,some 34),(1,26,some 35),(1,28,some 37),(1,29,some 38),(1,30,some 39),(1,31,some 40),(1,32,some 41),(2,27,some 36),(2,33,some 42),(1,34,some 43),(1,35,some 44),(1,36,some 45),(1,37,some 46),(1,38,some 47),(1,39,some 48)] ?_
       repeat (first|(refine Ord.pureL (v:=?_) (l':=?_) (t':=?_) rfl rfl (fun _ _ _ h=>h) (by kernel_rfl) ?_ ?_ ?_ ?_ ?_;rotate_left 3;dsimp only [s0,s1];rfl;exact any_of HT_.out (by kernel_rfl);intro w';go_simp;(try simp only [i64_w]);with_reducible rfl;dsimp only [s0,s1];rfl)|(refine Ord.takeL (v:=?_) (l':=?_) (t':=?_) rfl rfl (fun _ _ _ h=>h) hHeld (by kernel_rfl) ?_ ?_ ?_ ?_ ?_;rotate_left 3;dsimp only [s0,s1];rfl;exact take_ofW HT_.out HW_.out (by kernel_rfl);rintro w' ⟨sb,s1,s2,s3,s4,s5⟩;clear sb;go_simp;with_reducible rfl;dsimp only [s0,s1];rfl))
       refine Ord.nil ?_
       refine one_ (i:=40) (N:=some 49) #[true,true,true,true,true,true,true,true,true,true,true,true,true,true,true,true,true,true,true,true,true,true,true,true,true,true,true,true,true,true,true,true,true,true,true,true,true,true,true,true,true,false,false,false,false,false,false,false,false,false,false,false,false,false,false,false,false,false] rfl rfl (one_of HT_.out (by kernel_rfl)) (by decide) (fun K hK=>?_)
       refine goes_ Try.func46 (by kernel_rfl) rfl #[.pointer (some ⟨g,12,none⟩)] (by rfl) rfl rfl (by simp only [mAXMidCoreA_,List.map_cons,List.map_nil];rfl) ?_
       with_reducible refine (HH.out _ HB.out).mono ?_
       rintro e W8 ⟨rfl, hb⟩
       refine ⟨_, rfl, ?_⟩
       have n0_ := Aside0.mk (below_step HB.out hb)
       clear HB hb
       have HB := n0_
       clear n0_
       refine hK.out _ _ (HS2.out _ HB.out) (fun hHeld => ?_)
       clear hK K
       refine norm_ (a' := ?_) ?_ ?_
       rotate_left
       ·show Act.put _ (some 49) _ = _
        simp only [Act.put,lSXMidCoreA_,lZXMidCoreA_,lCXMidCoreA_,i64_w,i32_w]
        rfl
       refine ord_ [(1,41,some 50),(1,42,some 51),(1,43,some 52),(1,44,some 53),(1,45,some 54),(1,46,some 55),(1,47,some 56),(1,50,some 59),(1,51,some 60),(1,52,some 61),(1,53,some 62),(2,48,some 57),(1,49,some 58),(2,54,some 63),(1,55,some 64),(1,56,some 65),(1,57,some 66)] ?_
       repeat (first|(refine Ord.pureL (v:=?_) (l':=?_) (t':=?_) rfl rfl (fun _ _ _ h=>h) (by kernel_rfl) ?_ ?_ ?_ ?_ ?_;rotate_left 3;dsimp only [s0,s1];rfl;exact any_of HT_.out (by kernel_rfl);intro w';go_simp;(try simp only [i64_w]);with_reducible rfl;dsimp only [s0,s1];rfl)|(refine Ord.takeL (v:=?_) (l':=?_) (t':=?_) rfl rfl (fun _ _ _ h=>h) hHeld (by kernel_rfl) ?_ ?_ ?_ ?_ ?_;rotate_left 3;dsimp only [s0,s1];rfl;exact take_ofW HT_.out HW_.out (by kernel_rfl);rintro w' ⟨sb,s1,s2,s3,s4,s5⟩;clear sb;go_simp;with_reducible rfl;dsimp only [s0,s1];rfl))
       refine Ord.nil ?_
       refine done_ (done_of HT_.out (by kernel_rfl)) ?_
       clear hHeld
       try go_wp2
       go_ret
       exact ⟨rfl, HB.out⟩
      | true =>
       exact absurd hx (by decide)
end Go.Proofs.Ytajocpalpnpmdaa.Q
