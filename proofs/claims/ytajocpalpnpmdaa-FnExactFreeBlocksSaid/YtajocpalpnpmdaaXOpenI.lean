/- The contract of the program's openOk. Conditions: those before each theorem. -/
import Derived.Test.YtajocpalpnpmdaaXOrdL
import Derived.Test.YtajocpalpnpmdaaXMidHeat
import Derived.Test.YtajocpalpnpmdaaXAllW
import Derived.Test.YtajocpalpnpmdaaQ5
namespace Go.Proofs.Ytajocpalpnpmdaa.Q
open Go.RowKit Go.Proofs.YtajocpalpnpmdaaW.PrintWords Go.Proofs.YtajocpalpnpmdaaW.PrintMore Go.Proofs.YtajocpalpnpmdaaW.PrintLast
abbrev lSXOpenI_ := @List.setIfInBounds_toArray
abbrev lZXOpenI_ := @List.set_cons_zero
abbrev lCXOpenI_ := @List.set_cons_succ
abbrev mAXOpenI_ := @List.map_toArray
set_option linter.unusedVariables false
set_option linter.unusedSimpArgs false
theorem natbeqO (a b:Nat):(a == b)=((a:Int) == (b:Int)):=by
 rw [Bool.eq_iff_iff, beq_iff_eq, beq_iff_eq]
 omega
def openr1.T:Bool × List (List Nat × List Nat):=(true,[([],[]),([0],[0]),([1],[1]),([2],[2]),([3],[3]),([4],[4]),([5,4],[4,5]),([4],[4]),([7,4],[4,7]),([8,4],[4,8]),([9,4,4],[4,9]),([10,4],[4,10]),([6,11,10,4],[4,6,11]),([4,12],[4,12]),([13,12],[13]),([14],[14]),([15,14],[14,15]),([16,14],[14,16]),([17,14],[14,17]),([14],[14]),([19,14],[14,19]),([20,14],[14,20]),([21,14],[14,21]),([18,22,14],[14,18,22]),([23,14,14],[14,23]),([24],[24]),([25,24],[24,25]),([26,24],[24,26]),([27,24],[24,27]),([28,24],[24,28]),([24,29,14],[14,24,29]),([14,30],[14,30]),([31,24,0,1,2,3,4,5,6,7,8,9,10,11,12,13,14,15,16,17,18,19,20,21,22,23,24,25,26,27,28,29,30,31],[31])])
def openr1.B:List Nat:=[0,1,3,7,15,31,63,31,159,415,927,1951,4095,8191,16383,32767,65535,131071,262143,32767,557055,1605631,3702783,8388607,16777215,33554431,67108863,134217727,268435455,536870911,1073741823,2147483647,4294967295]
theorem openr1.tab:rtab .any (opsOf Try.f30 1)=openr1.T:=by kernel_rfl
theorem openr1.bits:waitsOk openr1.T.2 openr1.B=true:=by kernel_rfl
set_option maxHeartbeats 16000000 in
set_option maxRecDepth 100000 in
theorem openI_1 (d b p:Int) (A3:Option Addr) (n3 c3:Nat) (u v:Int) (o:Bool) (z mb mp:Int) (A10:Option Addr) (n10 c10:Nat) (A11:Option Addr) (n11 c11:Nat) (A12:Option Addr) (n12 c12:Nat) (hn sq:Int) (A15:Option Addr) (n15 c15:Nat) (A16:Option Addr) (n16 c16:Nat) (bd po:Int) (o0 o1:Int) (bW bZ bM bb_:Bool) (w:World)
  (hA:∀ W,Calls Try.prog 27 #[.agg #[.int .i64 d,.int .i64 b,.int .i64 p]] W fun e w'=>e=.returned (.int .i64 (wrap64 (d * b)))∧Below W.heap.size W w')
  (hX:∀ W,Below w.heap.size w W→Calls Try.prog 31 #[.slice A15 n15 c15,.int .i64 (-1),.int .i64 (wrap64 (wrap64 (d * b) - 1))] W fun e w'=>e=.returned (.bool bW)∧Below W.heap.size W w')
  (hel:n15=2→∃ ad,A15=some ad∧w.cell? ad=some (.int .i64 o0)∧w.cell? ⟨ad.block,ad.off+1,none⟩=some (.int .i64 o1))
  (qK : ((n15 : Int) == 2) = false)
  (qZ : (o0 == o1) = bZ)
  (qM : (o0 == -1) = bM) :
  Calls Try.prog 30 #[.agg #[.int .i64 d,.int .i64 b,.int .i64 p,.slice A3 n3 c3,.int .i64 u,.int .i64 v,.bool o,.int .i64 z,.int .i64 mb,.int .i64 mp,.slice A10 n10 c10,.slice A11 n11 c11,.slice A12 n12 c12,.int .i64 hn,.int .i64 sq,.slice A15 n15 c15,.slice A16 n16 c16,.int .i64 bd,.int .i64 po]] w fun e w'=>e=.returned (.bool false)∧Below w.heap.size w w':=by
 have HA := Aside0.mk hA
 have HX := Aside0.mk hX
 have HEL := Aside0.mk hel
 clear hA hX hel
 generalize hnn : wrap64 (d * b) = nn at HA HX
 clear hnn
 go_enter Try.func30, Try.ntmps30
 go_upto_region 1 with (first|((with_reducible refine gate_dst (N:=1) rfl ?_);(try (refine gate_guard (by rfl) ?_;dsimp only));refine box_event ?hg (N:=1) ?hd (cs:=#[.int .i64 d,.int .i64 b,.int .i64 p,.slice A3 n3 c3,.int .i64 u,.int .i64 v,.bool o,.int .i64 z,.int .i64 mb,.int .i64 mp,.slice A10 n10 c10,.slice A11 n11 c11,.slice A12 n12 c12,.int .i64 hn,.int .i64 sq,.slice A15 n15 c15,.slice A16 n16 c16,.int .i64 bd,.int .i64 po]) (t:=44) ?hr ?_;(case hd=>rfl);(case hg=>rfl);(case hr=>first|(go_simp;done)|(go_simp;rfl));intro gb hg W1 hbox hb;have HT:Aside0 (∀ W,Below W1.heap.size W1 W→Below w.heap.size w W):=⟨fun W h=>hb.trans (h.mono hb.size)⟩;have LG:=blk_lt hbox;have HSS:Aside0 (∀ w',Below W1.heap.size W1 w'→(w'.cell? ⟨gb,0,none⟩=some (.int .i64 d)∧w'.cell? ⟨gb,1,none⟩=some (.int .i64 b)∧w'.cell? ⟨gb,2,none⟩=some (.int .i64 p)∧w'.cell? ⟨gb,15,none⟩=some (.slice A15 n15 c15))):=⟨fun w' h=>⟨(h.cell LG).trans ((blk_cell hbox 0).trans rfl),(h.cell LG).trans ((blk_cell hbox 1).trans rfl),(h.cell LG).trans ((blk_cell hbox 2).trans rfl),(h.cell LG).trans ((blk_cell hbox 15).trans rfl)⟩⟩;clear LG;have HB:=Aside0.mk (Below.refl W1.heap.size W1);clear hb hbox hg;(try simp only [Act.put,lSXOpenI_,lZXOpenI_,lCXOpenI_])))
 have qK1 : ((n15 : Int) == (2 : Int)) = false := qK
 have qK2:((n15:Int) != (2:Int))=true:=by rw [bne,qK];rfl
 have qK3 : (n15 == 2) = false := by rw [← qK]; exact natbeqO _ 2
 have n0_ := Aside0.mk (below_drew1 HB.out)
 clear HB
 have HB := n0_
 clear n0_
 refine start_ (n:=33) (S:=fun w'=>w'.cell? ⟨gb,0,none⟩=some (.int .i64 d)∧w'.cell? ⟨gb,1,none⟩=some (.int .i64 b)∧w'.cell? ⟨gb,2,none⟩=some (.int .i64 p)∧w'.cell? ⟨gb,15,none⟩=some (.slice A15 n15 c15)) (ds:=[]) #[false,false,false,false,false,false,false,false,false,false,false,false,false,false,false,false,false,false,false,false,false,false,false,false,false,false,false,false,false,false,false,false,false] (by kernel_rfl) rfl rfl (HSS.out _ HB.out) (fun hHeld=>?_)
 refine with_tabW openr1.tab openr1.bits (fun HT_ HW_ => ?_)
 generalize World.drew _ = W5 at HB hHeld ⊢
 refine ord_ [(1,0,some 3),(2,1,some 4),(1,2,some 5),(1,3,some 6),(1,4,some 7),(0,5,some 8),(0,6,some 9),(0,7,some 10),(0,8,some 11),(0,9,some 12),(0,10,some 13),(0,11,some 14),(0,12,some 15),(1,13,some 16),(1,14,some 17),(0,15,some 18),(0,16,some 19),(0,17,some 20),(0,18,some 21),(0,19,some 22),(0,20,some 23),(0,21,some 24),(0,22,some 25),(0,23,some 26),(0,24,some 27),(0,25,some 28),(0,26,some 29),(0,27,some 30),(0,28,some 31),(0,29,some 32),(0,30,some 33),(1,31,some 34),(1,32,some 2)] ?_
 repeat (first|(refine Ord.offL (l':=?_) (t':=?_) rfl rfl (fun _ _ _ h=>h) (by kernel_rfl) ?_ ?_ ?_ ?_;rotate_left 2;dsimp only [s0,s1];rfl;exact any_of HT_.out (by kernel_rfl);dsimp only [s0,s1];rfl)|(refine Ord.pureL (v:=?_) (l':=?_) (t':=?_) rfl rfl (fun _ _ _ h=>h) (by kernel_rfl) ?_ ?_ ?_ ?_ ?_;rotate_left 3;dsimp only [s0,s1];rfl;exact any_of HT_.out (by kernel_rfl);intro w';go_simp;(try simp only [i64_w]);with_reducible rfl;dsimp only [s0,s1];rfl)|(refine Ord.takeL (v:=?_) (l':=?_) (t':=?_) rfl rfl (fun _ _ _ h=>h) hHeld (by kernel_rfl) ?_ ?_ ?_ ?_ ?_;rotate_left 3;dsimp only [s0,s1];rfl;exact take_ofW HT_.out HW_.out (by kernel_rfl);rintro w' ⟨s0,s1,s2,s3⟩;go_simp;with_reducible rfl;dsimp only [s0,s1];rfl))
 refine Ord.nil ?_
 refine done_ (done_of HT_.out (by kernel_rfl)) ?_
 clear hHeld
 try go_wp2
 go_ret
 exact ⟨rfl, HT.out _ HB.out⟩

set_option maxHeartbeats 16000000 in
set_option maxRecDepth 100000 in
theorem openI_2 (d b p:Int) (A3:Option Addr) (n3 c3:Nat) (u v:Int) (o:Bool) (z mb mp:Int) (A10:Option Addr) (n10 c10:Nat) (A11:Option Addr) (n11 c11:Nat) (A12:Option Addr) (n12 c12:Nat) (hn sq:Int) (A15:Option Addr) (n15 c15:Nat) (A16:Option Addr) (n16 c16:Nat) (bd po:Int) (o0 o1:Int) (bZ bM bb_:Bool) (w:World)
  (hA:∀ W,Calls Try.prog 27 #[.agg #[.int .i64 d,.int .i64 b,.int .i64 p]] W fun e w'=>e=.returned (.int .i64 (wrap64 (d * b)))∧Below W.heap.size W w')
  (hX:∀ W,Below w.heap.size w W→Calls Try.prog 31 #[.slice A15 n15 c15,.int .i64 (-1),.int .i64 (wrap64 (wrap64 (d * b) - 1))] W fun e w'=>e=.returned (.bool false)∧Below W.heap.size W w')
  (hel:n15=2→∃ ad,A15=some ad∧w.cell? ad=some (.int .i64 o0)∧w.cell? ⟨ad.block,ad.off+1,none⟩=some (.int .i64 o1))
  (qK : ((n15 : Int) == 2) = true)
  (qZ : (o0 == o1) = bZ)
  (qM : (o0 == -1) = bM) :
  Calls Try.prog 30 #[.agg #[.int .i64 d,.int .i64 b,.int .i64 p,.slice A3 n3 c3,.int .i64 u,.int .i64 v,.bool o,.int .i64 z,.int .i64 mb,.int .i64 mp,.slice A10 n10 c10,.slice A11 n11 c11,.slice A12 n12 c12,.int .i64 hn,.int .i64 sq,.slice A15 n15 c15,.slice A16 n16 c16,.int .i64 bd,.int .i64 po]] w fun e w'=>e=.returned (.bool false)∧Below w.heap.size w w':=by
 have HA := Aside0.mk hA
 have HX := Aside0.mk hX
 have HEL := Aside0.mk hel
 clear hA hX hel
 generalize hnn : wrap64 (d * b) = nn at HA HX
 clear hnn
 have hk2 : n15 = 2 := by have := beq_iff_eq.1 qK; omega
 clear qK
 subst hk2
 obtain ⟨ad, e15, hc0, hc1⟩ := HEL.out rfl
 subst e15
 have LO : ad.block < w.heap.size := World.block_lt_of_cell? w _ hc0
 have HE2 := Aside0.mk (And.intro hc0 hc1)
 clear hc0 hc1
 go_enter Try.func30, Try.ntmps30
 go_upto_region 1 with (first|((with_reducible refine gate_dst (N:=1) rfl ?_);(try (refine gate_guard (by rfl) ?_;dsimp only));refine box_event ?hg (N:=1) ?hd (cs:=#[.int .i64 d,.int .i64 b,.int .i64 p,.slice A3 n3 c3,.int .i64 u,.int .i64 v,.bool o,.int .i64 z,.int .i64 mb,.int .i64 mp,.slice A10 n10 c10,.slice A11 n11 c11,.slice A12 n12 c12,.int .i64 hn,.int .i64 sq,.slice (some ad) 2 c15,.slice A16 n16 c16,.int .i64 bd,.int .i64 po]) (t:=44) ?hr ?_;(case hd=>rfl);(case hg=>rfl);(case hr=>first|(go_simp;done)|(go_simp;rfl));intro gb hg W1 hbox hb;have HT:Aside0 (∀ W,Below W1.heap.size W1 W→Below w.heap.size w W):=⟨fun W h=>hb.trans (h.mono hb.size)⟩;have LG:=blk_lt hbox;have HSS:Aside0 (∀ w',Below W1.heap.size W1 w'→(w'.cell? ⟨gb,0,none⟩=some (.int .i64 d)∧w'.cell? ⟨gb,1,none⟩=some (.int .i64 b)∧w'.cell? ⟨gb,2,none⟩=some (.int .i64 p)∧w'.cell? ⟨gb,15,none⟩=some (.slice (some ad) 2 c15)∧w'.cell? ad=some (.int .i64 o0)∧w'.cell? ⟨ad.block,ad.off+1,none⟩=some (.int .i64 o1))):=⟨fun w' h=>⟨(h.cell LG).trans ((blk_cell hbox 0).trans rfl),(h.cell LG).trans ((blk_cell hbox 1).trans rfl),(h.cell LG).trans ((blk_cell hbox 2).trans rfl),(h.cell LG).trans ((blk_cell hbox 15).trans rfl),((hb.trans (h.mono hb.size)).cell LO).trans HE2.out.1,((hb.trans (h.mono hb.size)).cell (show (⟨ad.block,ad.off+1,none⟩:Addr).block < _ from LO)).trans HE2.out.2⟩⟩;clear LG;have HB:=Aside0.mk (Below.refl W1.heap.size W1);clear hb hbox hg;(try simp only [Act.put,lSXOpenI_,lZXOpenI_,lCXOpenI_])))
 have n0_ := Aside0.mk (below_drew1 HB.out)
 clear HB
 have HB := n0_
 clear n0_
 refine start_ (n:=33) (S:=fun w'=>w'.cell? ⟨gb,0,none⟩=some (.int .i64 d)∧w'.cell? ⟨gb,1,none⟩=some (.int .i64 b)∧w'.cell? ⟨gb,2,none⟩=some (.int .i64 p)∧w'.cell? ⟨gb,15,none⟩=some (.slice (some ad) 2 c15)∧w'.cell? ad=some (.int .i64 o0)∧w'.cell? ⟨ad.block,ad.off+1,none⟩=some (.int .i64 o1)) (ds:=[]) #[false,false,false,false,false,false,false,false,false,false,false,false,false,false,false,false,false,false,false,false,false,false,false,false,false,false,false,false,false,false,false,false,false] (by kernel_rfl) rfl rfl (HSS.out _ HB.out) (fun hHeld=>?_)
 refine with_tabW openr1.tab openr1.bits (fun HT_ HW_ => ?_)
 generalize World.drew _ = W5 at HB hHeld ⊢
 refine ord_ [(1,0,some 3),(2,1,some 4),(1,2,some 5),(1,3,some 6),(1,4,some 7),(1,5,some 8),(1,7,some 10),(1,8,some 11),(2,6,some 9),(2,9,some 12)] ?_
 repeat (first|(refine Ord.pureL (v:=?_) (l':=?_) (t':=?_) rfl rfl (fun _ _ _ h=>h) (by kernel_rfl) ?_ ?_ ?_ ?_ ?_;rotate_left 3;dsimp only [s0,s1];rfl;exact any_of HT_.out (by kernel_rfl);intro w';go_simp;(try simp only [i64_w]);with_reducible rfl;dsimp only [s0,s1];rfl)|(refine Ord.takeL (v:=?_) (l':=?_) (t':=?_) rfl rfl (fun _ _ _ h=>h) hHeld (by kernel_rfl) ?_ ?_ ?_ ?_ ?_;rotate_left 3;dsimp only [s0,s1];rfl;exact take_ofW HT_.out HW_.out (by kernel_rfl);rintro w' ⟨s0,s1,s2,s3,s4,s5⟩;go_simp;with_reducible rfl;dsimp only [s0,s1];rfl))
 refine Ord.nil ?_
 refine one_ (i:=10) (N:=some 13) #[true,true,true,true,true,true,true,true,true,true,true,false,false,false,false,false,false,false,false,false,false,false,false,false,false,false,false,false,false,false,false,false,false] rfl rfl (one_of HT_.out (by kernel_rfl)) (by decide) (fun K hK=>?_)
 refine goes_ Try.func27 (by kernel_rfl) rfl #[.agg #[.int .i64 d,.int .i64 b,.int .i64 p]] (by rfl) rfl rfl (by simp only [mAXOpenI_,List.map_cons,List.map_nil];rfl) ?_
 with_reducible refine (HA.out _).mono ?_
 rintro e W6 ⟨rfl, hb⟩
 refine ⟨_, rfl, ?_⟩
 have n0_ := Aside0.mk (below_step HB.out hb)
 clear HB hb
 have HB := n0_
 clear n0_
 refine hK.out _ _ (HSS.out _ HB.out) (fun hHeld => ?_)
 clear hK K
 refine norm_ (a' := ?_) ?_ ?_
 rotate_left
 ·show Act.put _ (some 13) _ = _
  simp only [Act.put,lSXOpenI_,lZXOpenI_,lCXOpenI_,i64_w,i32_w]
  rfl
 refine ord_ [(1, 11, some 14)] ?_
 repeat (first|(refine Ord.pureL (v:=?_) (l':=?_) (t':=?_) rfl rfl (fun _ _ _ h=>h) (by kernel_rfl) ?_ ?_ ?_ ?_ ?_;rotate_left 3;dsimp only [s0,s1];rfl;exact any_of HT_.out (by kernel_rfl);intro w';go_simp;(try simp only [i64_w]);with_reducible rfl;dsimp only [s0,s1];rfl))
 refine Ord.nil ?_
 refine one_ (i:=12) (N:=some 15) #[true,true,true,true,true,true,true,true,true,true,true,true,true,false,false,false,false,false,false,false,false,false,false,false,false,false,false,false,false,false,false,false,false] rfl rfl (one_of HT_.out (by kernel_rfl)) (by decide) (fun K hK=>?_)
 refine goes_ Try.func31 (by kernel_rfl) rfl #[.slice (some ad) 2 c15,.int .i64 (-1),.int .i64 (wrap64 (nn - 1))] (by rfl) rfl rfl (by simp only [mAXOpenI_,List.map_cons,List.map_nil];rfl) ?_
 with_reducible refine (HX.out _ (HT.out _ HB.out)).mono ?_
 rintro e W7 ⟨rfl, hb⟩
 refine ⟨_, rfl, ?_⟩
 have n0_ := Aside0.mk (below_step HB.out hb)
 clear HB hb
 have HB := n0_
 clear n0_
 refine hK.out _ _ (HSS.out _ HB.out) (fun hHeld => ?_)
 clear hK K
 refine norm_ (a' := ?_) ?_ ?_
 rotate_left
 ·show Act.put _ (some 15) _ = _
  simp only [Act.put,lSXOpenI_,lZXOpenI_,lCXOpenI_,i64_w,i32_w]
  rfl
 refine ord_ [(1,13,some 16),(1,14,some 17),(0,15,some 18),(0,16,some 19),(0,17,some 20),(0,18,some 21),(0,19,some 22),(0,20,some 23),(0,21,some 24),(0,22,some 25),(0,23,some 26),(0,24,some 27),(0,25,some 28),(0,26,some 29),(0,27,some 30),(0,28,some 31),(0,29,some 32),(0,30,some 33),(1,31,some 34),(1,32,some 2)] ?_
 repeat (first|(refine Ord.offL (l':=?_) (t':=?_) rfl rfl (fun _ _ _ h=>h) (by kernel_rfl) ?_ ?_ ?_ ?_;rotate_left 2;dsimp only [s0,s1];rfl;exact any_of HT_.out (by kernel_rfl);dsimp only [s0,s1];rfl)|(refine Ord.pureL (v:=?_) (l':=?_) (t':=?_) rfl rfl (fun _ _ _ h=>h) (by kernel_rfl) ?_ ?_ ?_ ?_ ?_;rotate_left 3;dsimp only [s0,s1];rfl;exact any_of HT_.out (by kernel_rfl);intro w';go_simp;(try simp only [i64_w]);with_reducible rfl;dsimp only [s0,s1];rfl))
 refine Ord.nil ?_
 refine done_ (done_of HT_.out (by kernel_rfl)) ?_
 clear hHeld
 try go_wp2
 go_ret
 exact ⟨rfl, HT.out _ HB.out⟩

set_option maxHeartbeats 16000000 in
set_option maxRecDepth 100000 in
theorem openI_3 (d b p:Int) (A3:Option Addr) (n3 c3:Nat) (u v:Int) (o:Bool) (z mb mp:Int) (A10:Option Addr) (n10 c10:Nat) (A11:Option Addr) (n11 c11:Nat) (A12:Option Addr) (n12 c12:Nat) (hn sq:Int) (A15:Option Addr) (n15 c15:Nat) (A16:Option Addr) (n16 c16:Nat) (bd po:Int) (o0 o1:Int) (bM bb_:Bool) (w:World)
  (hA:∀ W,Calls Try.prog 27 #[.agg #[.int .i64 d,.int .i64 b,.int .i64 p]] W fun e w'=>e=.returned (.int .i64 (wrap64 (d * b)))∧Below W.heap.size W w')
  (hX:∀ W,Below w.heap.size w W→Calls Try.prog 31 #[.slice A15 n15 c15,.int .i64 (-1),.int .i64 (wrap64 (wrap64 (d * b) - 1))] W fun e w'=>e=.returned (.bool true)∧Below W.heap.size W w')
  (hel:n15=2→∃ ad,A15=some ad∧w.cell? ad=some (.int .i64 o0)∧w.cell? ⟨ad.block,ad.off+1,none⟩=some (.int .i64 o1))
  (qK : ((n15 : Int) == 2) = true)
  (qZ : (o0 == o1) = false)
  (qM : (o0 == -1) = bM) :
  Calls Try.prog 30 #[.agg #[.int .i64 d,.int .i64 b,.int .i64 p,.slice A3 n3 c3,.int .i64 u,.int .i64 v,.bool o,.int .i64 z,.int .i64 mb,.int .i64 mp,.slice A10 n10 c10,.slice A11 n11 c11,.slice A12 n12 c12,.int .i64 hn,.int .i64 sq,.slice A15 n15 c15,.slice A16 n16 c16,.int .i64 bd,.int .i64 po]] w fun e w'=>e=.returned (.bool true)∧Below w.heap.size w w':=by
 have HA := Aside0.mk hA
 have HX := Aside0.mk hX
 have HEL := Aside0.mk hel
 clear hA hX hel
 generalize hnn : wrap64 (d * b) = nn at HA HX
 clear hnn
 have hk2 : n15 = 2 := by have := beq_iff_eq.1 qK; omega
 clear qK
 subst hk2
 obtain ⟨ad, e15, hc0, hc1⟩ := HEL.out rfl
 subst e15
 have LO : ad.block < w.heap.size := World.block_lt_of_cell? w _ hc0
 have HE2 := Aside0.mk (And.intro hc0 hc1)
 clear hc0 hc1
 go_enter Try.func30, Try.ntmps30
 go_upto_region 1 with (first|((with_reducible refine gate_dst (N:=1) rfl ?_);(try (refine gate_guard (by rfl) ?_;dsimp only));refine box_event ?hg (N:=1) ?hd (cs:=#[.int .i64 d,.int .i64 b,.int .i64 p,.slice A3 n3 c3,.int .i64 u,.int .i64 v,.bool o,.int .i64 z,.int .i64 mb,.int .i64 mp,.slice A10 n10 c10,.slice A11 n11 c11,.slice A12 n12 c12,.int .i64 hn,.int .i64 sq,.slice (some ad) 2 c15,.slice A16 n16 c16,.int .i64 bd,.int .i64 po]) (t:=44) ?hr ?_;(case hd=>rfl);(case hg=>rfl);(case hr=>first|(go_simp;done)|(go_simp;rfl));intro gb hg W1 hbox hb;have HT:Aside0 (∀ W,Below W1.heap.size W1 W→Below w.heap.size w W):=⟨fun W h=>hb.trans (h.mono hb.size)⟩;have LG:=blk_lt hbox;have HSS:Aside0 (∀ w',Below W1.heap.size W1 w'→(w'.cell? ⟨gb,0,none⟩=some (.int .i64 d)∧w'.cell? ⟨gb,1,none⟩=some (.int .i64 b)∧w'.cell? ⟨gb,2,none⟩=some (.int .i64 p)∧w'.cell? ⟨gb,15,none⟩=some (.slice (some ad) 2 c15)∧w'.cell? ad=some (.int .i64 o0)∧w'.cell? ⟨ad.block,ad.off+1,none⟩=some (.int .i64 o1))):=⟨fun w' h=>⟨(h.cell LG).trans ((blk_cell hbox 0).trans rfl),(h.cell LG).trans ((blk_cell hbox 1).trans rfl),(h.cell LG).trans ((blk_cell hbox 2).trans rfl),(h.cell LG).trans ((blk_cell hbox 15).trans rfl),((hb.trans (h.mono hb.size)).cell LO).trans HE2.out.1,((hb.trans (h.mono hb.size)).cell (show (⟨ad.block,ad.off+1,none⟩:Addr).block < _ from LO)).trans HE2.out.2⟩⟩;clear LG;have HB:=Aside0.mk (Below.refl W1.heap.size W1);clear hb hbox hg;(try simp only [Act.put,lSXOpenI_,lZXOpenI_,lCXOpenI_])))
 have qZ1 : (o0 == o1) = false := qZ
 have qZ2 : (o0 != o1) = true := by rw [bne, qZ]; rfl
 have n0_ := Aside0.mk (below_drew1 HB.out)
 clear HB
 have HB := n0_
 clear n0_
 refine start_ (n:=33) (S:=fun w'=>w'.cell? ⟨gb,0,none⟩=some (.int .i64 d)∧w'.cell? ⟨gb,1,none⟩=some (.int .i64 b)∧w'.cell? ⟨gb,2,none⟩=some (.int .i64 p)∧w'.cell? ⟨gb,15,none⟩=some (.slice (some ad) 2 c15)∧w'.cell? ad=some (.int .i64 o0)∧w'.cell? ⟨ad.block,ad.off+1,none⟩=some (.int .i64 o1)) (ds:=[]) #[false,false,false,false,false,false,false,false,false,false,false,false,false,false,false,false,false,false,false,false,false,false,false,false,false,false,false,false,false,false,false,false,false] (by kernel_rfl) rfl rfl (HSS.out _ HB.out) (fun hHeld=>?_)
 refine with_tabW openr1.tab openr1.bits (fun HT_ HW_ => ?_)
 generalize World.drew _ = W5 at HB hHeld ⊢
 refine ord_ [(1,0,some 3),(2,1,some 4),(1,2,some 5),(1,3,some 6),(1,4,some 7),(1,5,some 8),(1,7,some 10),(1,8,some 11),(2,6,some 9),(2,9,some 12)] ?_
 repeat (first|(refine Ord.pureL (v:=?_) (l':=?_) (t':=?_) rfl rfl (fun _ _ _ h=>h) (by kernel_rfl) ?_ ?_ ?_ ?_ ?_;rotate_left 3;dsimp only [s0,s1];rfl;exact any_of HT_.out (by kernel_rfl);intro w';go_simp;(try simp only [i64_w]);with_reducible rfl;dsimp only [s0,s1];rfl)|(refine Ord.takeL (v:=?_) (l':=?_) (t':=?_) rfl rfl (fun _ _ _ h=>h) hHeld (by kernel_rfl) ?_ ?_ ?_ ?_ ?_;rotate_left 3;dsimp only [s0,s1];rfl;exact take_ofW HT_.out HW_.out (by kernel_rfl);rintro w' ⟨s0,s1,s2,s3,s4,s5⟩;go_simp;with_reducible rfl;dsimp only [s0,s1];rfl))
 refine Ord.nil ?_
 refine one_ (i:=10) (N:=some 13) #[true,true,true,true,true,true,true,true,true,true,true,false,false,false,false,false,false,false,false,false,false,false,false,false,false,false,false,false,false,false,false,false,false] rfl rfl (one_of HT_.out (by kernel_rfl)) (by decide) (fun K hK=>?_)
 refine goes_ Try.func27 (by kernel_rfl) rfl #[.agg #[.int .i64 d,.int .i64 b,.int .i64 p]] (by rfl) rfl rfl (by simp only [mAXOpenI_,List.map_cons,List.map_nil];rfl) ?_
 with_reducible refine (HA.out _).mono ?_
 rintro e W6 ⟨rfl, hb⟩
 refine ⟨_, rfl, ?_⟩
 have n0_ := Aside0.mk (below_step HB.out hb)
 clear HB hb
 have HB := n0_
 clear n0_
 refine hK.out _ _ (HSS.out _ HB.out) (fun hHeld => ?_)
 clear hK K
 refine norm_ (a' := ?_) ?_ ?_
 rotate_left
 ·show Act.put _ (some 13) _ = _
  simp only [Act.put,lSXOpenI_,lZXOpenI_,lCXOpenI_,i64_w,i32_w]
  rfl
 refine ord_ [(1, 11, some 14)] ?_
 repeat (first|(refine Ord.pureL (v:=?_) (l':=?_) (t':=?_) rfl rfl (fun _ _ _ h=>h) (by kernel_rfl) ?_ ?_ ?_ ?_ ?_;rotate_left 3;dsimp only [s0,s1];rfl;exact any_of HT_.out (by kernel_rfl);intro w';go_simp;(try simp only [i64_w]);with_reducible rfl;dsimp only [s0,s1];rfl))
 refine Ord.nil ?_
 refine one_ (i:=12) (N:=some 15) #[true,true,true,true,true,true,true,true,true,true,true,true,true,false,false,false,false,false,false,false,false,false,false,false,false,false,false,false,false,false,false,false,false] rfl rfl (one_of HT_.out (by kernel_rfl)) (by decide) (fun K hK=>?_)
 refine goes_ Try.func31 (by kernel_rfl) rfl #[.slice (some ad) 2 c15,.int .i64 (-1),.int .i64 (wrap64 (nn - 1))] (by rfl) rfl rfl (by simp only [mAXOpenI_,List.map_cons,List.map_nil];rfl) ?_
 with_reducible refine (HX.out _ (HT.out _ HB.out)).mono ?_
 rintro e W7 ⟨rfl, hb⟩
 refine ⟨_, rfl, ?_⟩
 have n0_ := Aside0.mk (below_step HB.out hb)
 clear HB hb
 have HB := n0_
 clear n0_
 refine hK.out _ _ (HSS.out _ HB.out) (fun hHeld => ?_)
 clear hK K
 refine norm_ (a' := ?_) ?_ ?_
 rotate_left
 ·show Act.put _ (some 15) _ = _
  simp only [Act.put,lSXOpenI_,lZXOpenI_,lCXOpenI_,i64_w,i32_w]
  rfl
 refine ord_ [(1,13,some 16),(1,14,some 17),(1,15,some 18),(1,19,some 22),(2,16,some 19),(1,17,some 20),(2,18,some 21),(2,20,some 23),(1,21,some 24),(2,22,some 25),(1,23,some 26),(1,24,some 27),(0,25,some 28),(0,26,some 29),(0,27,some 30),(0,28,some 31),(0,29,some 32),(1,30,some 33),(1,31,some 34),(1,32,some 2)] ?_
 repeat (first|(refine Ord.offL (l':=?_) (t':=?_) rfl rfl (fun _ _ _ h=>h) (by kernel_rfl) ?_ ?_ ?_ ?_;rotate_left 2;dsimp only [s0,s1];rfl;exact any_of HT_.out (by kernel_rfl);dsimp only [s0,s1];rfl)|(refine Ord.pureL (v:=?_) (l':=?_) (t':=?_) rfl rfl (fun _ _ _ h=>h) (by kernel_rfl) ?_ ?_ ?_ ?_ ?_;rotate_left 3;dsimp only [s0,s1];rfl;exact any_of HT_.out (by kernel_rfl);intro w';go_simp;(try simp only [i64_w]);with_reducible rfl;dsimp only [s0,s1];rfl)|(refine Ord.takeL (v:=?_) (l':=?_) (t':=?_) rfl rfl (fun _ _ _ h=>h) hHeld (by kernel_rfl) ?_ ?_ ?_ ?_ ?_;rotate_left 3;dsimp only [s0,s1];rfl;exact take_ofW HT_.out HW_.out (by kernel_rfl);rintro w' ⟨s0,s1,s2,s3,s4,s5⟩;go_simp;with_reducible rfl;dsimp only [s0,s1];rfl))
 refine Ord.nil ?_
 refine done_ (done_of HT_.out (by kernel_rfl)) ?_
 clear hHeld
 try go_wp2
 go_ret
 exact ⟨rfl, HT.out _ HB.out⟩

set_option maxHeartbeats 16000000 in
set_option maxRecDepth 100000 in
theorem openI_4 (d b p:Int) (A3:Option Addr) (n3 c3:Nat) (u v:Int) (o:Bool) (z mb mp:Int) (A10:Option Addr) (n10 c10:Nat) (A11:Option Addr) (n11 c11:Nat) (A12:Option Addr) (n12 c12:Nat) (hn sq:Int) (A15:Option Addr) (n15 c15:Nat) (A16:Option Addr) (n16 c16:Nat) (bd po:Int) (o0 o1:Int) (bM bb_:Bool) (w:World)
  (hA:∀ W,Calls Try.prog 27 #[.agg #[.int .i64 d,.int .i64 b,.int .i64 p]] W fun e w'=>e=.returned (.int .i64 (wrap64 (d * b)))∧Below W.heap.size W w')
  (hX:∀ W,Below w.heap.size w W→Calls Try.prog 31 #[.slice A15 n15 c15,.int .i64 (-1),.int .i64 (wrap64 (wrap64 (d * b) - 1))] W fun e w'=>e=.returned (.bool true)∧Below W.heap.size W w')
  (hel:n15=2→∃ ad,A15=some ad∧w.cell? ad=some (.int .i64 o0)∧w.cell? ⟨ad.block,ad.off+1,none⟩=some (.int .i64 o1))
  (qK : ((n15 : Int) == 2) = true)
  (qZ : (o0 == o1) = true)
  (qM : (o0 == -1) = bM) :
  Calls Try.prog 30 #[.agg #[.int .i64 d,.int .i64 b,.int .i64 p,.slice A3 n3 c3,.int .i64 u,.int .i64 v,.bool o,.int .i64 z,.int .i64 mb,.int .i64 mp,.slice A10 n10 c10,.slice A11 n11 c11,.slice A12 n12 c12,.int .i64 hn,.int .i64 sq,.slice A15 n15 c15,.slice A16 n16 c16,.int .i64 bd,.int .i64 po]] w fun e w'=>e=.returned (.bool bM)∧Below w.heap.size w w':=by
 have HA := Aside0.mk hA
 have HX := Aside0.mk hX
 have HEL := Aside0.mk hel
 clear hA hX hel
 generalize hnn : wrap64 (d * b) = nn at HA HX
 clear hnn
 have hk2 : n15 = 2 := by have := beq_iff_eq.1 qK; omega
 clear qK
 subst hk2
 obtain ⟨ad, e15, hc0, hc1⟩ := HEL.out rfl
 subst e15
 have LO : ad.block < w.heap.size := World.block_lt_of_cell? w _ hc0
 have HE2 := Aside0.mk (And.intro hc0 hc1)
 clear hc0 hc1
 go_enter Try.func30, Try.ntmps30
 go_upto_region 1 with (first|((with_reducible refine gate_dst (N:=1) rfl ?_);(try (refine gate_guard (by rfl) ?_;dsimp only));refine box_event ?hg (N:=1) ?hd (cs:=#[.int .i64 d,.int .i64 b,.int .i64 p,.slice A3 n3 c3,.int .i64 u,.int .i64 v,.bool o,.int .i64 z,.int .i64 mb,.int .i64 mp,.slice A10 n10 c10,.slice A11 n11 c11,.slice A12 n12 c12,.int .i64 hn,.int .i64 sq,.slice (some ad) 2 c15,.slice A16 n16 c16,.int .i64 bd,.int .i64 po]) (t:=44) ?hr ?_;(case hd=>rfl);(case hg=>rfl);(case hr=>first|(go_simp;done)|(go_simp;rfl));intro gb hg W1 hbox hb;have HT:Aside0 (∀ W,Below W1.heap.size W1 W→Below w.heap.size w W):=⟨fun W h=>hb.trans (h.mono hb.size)⟩;have LG:=blk_lt hbox;have HSS:Aside0 (∀ w',Below W1.heap.size W1 w'→(w'.cell? ⟨gb,0,none⟩=some (.int .i64 d)∧w'.cell? ⟨gb,1,none⟩=some (.int .i64 b)∧w'.cell? ⟨gb,2,none⟩=some (.int .i64 p)∧w'.cell? ⟨gb,15,none⟩=some (.slice (some ad) 2 c15)∧w'.cell? ad=some (.int .i64 o0)∧w'.cell? ⟨ad.block,ad.off+1,none⟩=some (.int .i64 o1))):=⟨fun w' h=>⟨(h.cell LG).trans ((blk_cell hbox 0).trans rfl),(h.cell LG).trans ((blk_cell hbox 1).trans rfl),(h.cell LG).trans ((blk_cell hbox 2).trans rfl),(h.cell LG).trans ((blk_cell hbox 15).trans rfl),((hb.trans (h.mono hb.size)).cell LO).trans HE2.out.1,((hb.trans (h.mono hb.size)).cell (show (⟨ad.block,ad.off+1,none⟩:Addr).block < _ from LO)).trans HE2.out.2⟩⟩;clear LG;have HB:=Aside0.mk (Below.refl W1.heap.size W1);clear hb hbox hg;(try simp only [Act.put,lSXOpenI_,lZXOpenI_,lCXOpenI_])))
 have qZ1 : (o0 == o1) = true := qZ
 have qZ2 : (o0 != o1) = false := by rw [bne, qZ]; rfl
 have qM1 : (o0 == (-1 : Int)) = bM := qM
 have n0_ := Aside0.mk (below_drew1 HB.out)
 clear HB
 have HB := n0_
 clear n0_
 refine start_ (n:=33) (S:=fun w'=>w'.cell? ⟨gb,0,none⟩=some (.int .i64 d)∧w'.cell? ⟨gb,1,none⟩=some (.int .i64 b)∧w'.cell? ⟨gb,2,none⟩=some (.int .i64 p)∧w'.cell? ⟨gb,15,none⟩=some (.slice (some ad) 2 c15)∧w'.cell? ad=some (.int .i64 o0)∧w'.cell? ⟨ad.block,ad.off+1,none⟩=some (.int .i64 o1)) (ds:=[]) #[false,false,false,false,false,false,false,false,false,false,false,false,false,false,false,false,false,false,false,false,false,false,false,false,false,false,false,false,false,false,false,false,false] (by kernel_rfl) rfl rfl (HSS.out _ HB.out) (fun hHeld=>?_)
 refine with_tabW openr1.tab openr1.bits (fun HT_ HW_ => ?_)
 generalize World.drew _ = W5 at HB hHeld ⊢
 refine ord_ [(1,0,some 3),(2,1,some 4),(1,2,some 5),(1,3,some 6),(1,4,some 7),(1,5,some 8),(1,7,some 10),(1,8,some 11),(2,6,some 9),(2,9,some 12)] ?_
 repeat (first|(refine Ord.pureL (v:=?_) (l':=?_) (t':=?_) rfl rfl (fun _ _ _ h=>h) (by kernel_rfl) ?_ ?_ ?_ ?_ ?_;rotate_left 3;dsimp only [s0,s1];rfl;exact any_of HT_.out (by kernel_rfl);intro w';go_simp;(try simp only [i64_w]);with_reducible rfl;dsimp only [s0,s1];rfl)|(refine Ord.takeL (v:=?_) (l':=?_) (t':=?_) rfl rfl (fun _ _ _ h=>h) hHeld (by kernel_rfl) ?_ ?_ ?_ ?_ ?_;rotate_left 3;dsimp only [s0,s1];rfl;exact take_ofW HT_.out HW_.out (by kernel_rfl);rintro w' ⟨s0,s1,s2,s3,s4,s5⟩;go_simp;with_reducible rfl;dsimp only [s0,s1];rfl))
 refine Ord.nil ?_
 refine one_ (i:=10) (N:=some 13) #[true,true,true,true,true,true,true,true,true,true,true,false,false,false,false,false,false,false,false,false,false,false,false,false,false,false,false,false,false,false,false,false,false] rfl rfl (one_of HT_.out (by kernel_rfl)) (by decide) (fun K hK=>?_)
 refine goes_ Try.func27 (by kernel_rfl) rfl #[.agg #[.int .i64 d,.int .i64 b,.int .i64 p]] (by rfl) rfl rfl (by simp only [mAXOpenI_,List.map_cons,List.map_nil];rfl) ?_
 with_reducible refine (HA.out _).mono ?_
 rintro e W6 ⟨rfl, hb⟩
 refine ⟨_, rfl, ?_⟩
 have n0_ := Aside0.mk (below_step HB.out hb)
 clear HB hb
 have HB := n0_
 clear n0_
 refine hK.out _ _ (HSS.out _ HB.out) (fun hHeld => ?_)
 clear hK K
 refine norm_ (a' := ?_) ?_ ?_
 rotate_left
 ·show Act.put _ (some 13) _ = _
  simp only [Act.put,lSXOpenI_,lZXOpenI_,lCXOpenI_,i64_w,i32_w]
  rfl
 refine ord_ [(1, 11, some 14)] ?_
 repeat (first|(refine Ord.pureL (v:=?_) (l':=?_) (t':=?_) rfl rfl (fun _ _ _ h=>h) (by kernel_rfl) ?_ ?_ ?_ ?_ ?_;rotate_left 3;dsimp only [s0,s1];rfl;exact any_of HT_.out (by kernel_rfl);intro w';go_simp;(try simp only [i64_w]);with_reducible rfl;dsimp only [s0,s1];rfl))
 refine Ord.nil ?_
 refine one_ (i:=12) (N:=some 15) #[true,true,true,true,true,true,true,true,true,true,true,true,true,false,false,false,false,false,false,false,false,false,false,false,false,false,false,false,false,false,false,false,false] rfl rfl (one_of HT_.out (by kernel_rfl)) (by decide) (fun K hK=>?_)
 refine goes_ Try.func31 (by kernel_rfl) rfl #[.slice (some ad) 2 c15,.int .i64 (-1),.int .i64 (wrap64 (nn - 1))] (by rfl) rfl rfl (by simp only [mAXOpenI_,List.map_cons,List.map_nil];rfl) ?_
 with_reducible refine (HX.out _ (HT.out _ HB.out)).mono ?_
 rintro e W7 ⟨rfl, hb⟩
 refine ⟨_, rfl, ?_⟩
 have n0_ := Aside0.mk (below_step HB.out hb)
 clear HB hb
 have HB := n0_
 clear n0_
 refine hK.out _ _ (HSS.out _ HB.out) (fun hHeld => ?_)
 clear hK K
 refine norm_ (a' := ?_) ?_ ?_
 rotate_left
 ·show Act.put _ (some 15) _ = _
  simp only [Act.put,lSXOpenI_,lZXOpenI_,lCXOpenI_,i64_w,i32_w]
  rfl
 refine ord_ [(1,13,some 16),(1,14,some 17),(1,15,some 18),(1,19,some 22),(2,16,some 19),(1,17,some 20),(2,18,some 21),(2,20,some 23),(1,21,some 24),(2,22,some 25),(1,23,some 26),(1,24,some 27),(1,25,some 28),(2,26,some 29),(1,27,some 30),(2,28,some 31),(1,29,some 32),(1,30,some 33),(1,31,some 34),(1,32,some 2)] ?_
 repeat (first|(refine Ord.pureL (v:=?_) (l':=?_) (t':=?_) rfl rfl (fun _ _ _ h=>h) (by kernel_rfl) ?_ ?_ ?_ ?_ ?_;rotate_left 3;dsimp only [s0,s1];rfl;exact any_of HT_.out (by kernel_rfl);intro w';go_simp;(try simp only [i64_w]);with_reducible rfl;dsimp only [s0,s1];rfl)|(refine Ord.takeL (v:=?_) (l':=?_) (t':=?_) rfl rfl (fun _ _ _ h=>h) hHeld (by kernel_rfl) ?_ ?_ ?_ ?_ ?_;rotate_left 3;dsimp only [s0,s1];rfl;exact take_ofW HT_.out HW_.out (by kernel_rfl);rintro w' ⟨s0,s1,s2,s3,s4,s5⟩;go_simp;with_reducible rfl;dsimp only [s0,s1];rfl))
 refine Ord.nil ?_
 refine done_ (done_of HT_.out (by kernel_rfl)) ?_
 clear hHeld
 try go_wp2
 go_ret
 exact ⟨by first|rfl|(rw [qM1];rfl)|simp [qM1],HT.out _ HB.out⟩

theorem openI_core (d b p:Int) (A3:Option Addr) (n3 c3:Nat) (u v:Int) (o:Bool) (z mb mp:Int) (A10:Option Addr) (n10 c10:Nat) (A11:Option Addr) (n11 c11:Nat) (A12:Option Addr) (n12 c12:Nat) (hn sq:Int) (A15:Option Addr) (n15 c15:Nat) (A16:Option Addr) (n16 c16:Nat) (bd po:Int) (o0 o1:Int) (bK bW bZ bM r:Bool) (w:World)
  (hA:∀ W,Calls Try.prog 27 #[.agg #[.int .i64 d,.int .i64 b,.int .i64 p]] W fun e w'=>e=.returned (.int .i64 (wrap64 (d * b)))∧Below W.heap.size W w')
  (hX:∀ W,Below w.heap.size w W→Calls Try.prog 31 #[.slice A15 n15 c15,.int .i64 (-1),.int .i64 (wrap64 (wrap64 (d * b) - 1))] W fun e w'=>e=.returned (.bool bW)∧Below W.heap.size W w')
  (hel:n15=2→∃ ad,A15=some ad∧w.cell? ad=some (.int .i64 o0)∧w.cell? ⟨ad.block,ad.off+1,none⟩=some (.int .i64 o1))
  (qK : ((n15 : Int) == 2) = bK)
  (qZ : (o0 == o1) = bZ)
  (qM : (o0 == -1) = bM)
  (hr : (bK && (bW && (!bZ || bM))) = r) :
  Calls Try.prog 30 #[.agg #[.int .i64 d,.int .i64 b,.int .i64 p,.slice A3 n3 c3,.int .i64 u,.int .i64 v,.bool o,.int .i64 z,.int .i64 mb,.int .i64 mp,.slice A10 n10 c10,.slice A11 n11 c11,.slice A12 n12 c12,.int .i64 hn,.int .i64 sq,.slice A15 n15 c15,.slice A16 n16 c16,.int .i64 bd,.int .i64 po]] w fun e w'=>e=.returned (.bool r)∧Below w.heap.size w w':=by
 subst hr
 cases bK
 ·exact openI_1 d b p A3 n3 c3 u v o z mb mp A10 n10 c10 A11 n11 c11 A12 n12 c12 hn sq A15 n15 c15 A16 n16 c16 bd po o0 o1 bW bZ bM true w hA hX hel qK qZ qM
 cases bW
 ·exact openI_2 d b p A3 n3 c3 u v o z mb mp A10 n10 c10 A11 n11 c11 A12 n12 c12 hn sq A15 n15 c15 A16 n16 c16 bd po o0 o1 bZ bM true w hA hX hel qK qZ qM
 cases bZ
 ·exact openI_3 d b p A3 n3 c3 u v o z mb mp A10 n10 c10 A11 n11 c11 A12 n12 c12 hn sq A15 n15 c15 A16 n16 c16 bd po o0 o1 bM true w hA hX hel qK qZ qM
 ·exact openI_4 d b p A3 n3 c3 u v o z mb mp A10 n10 c10 A11 n11 c11 A12 n12 c12 hn sq A15 n15 c15 A16 n16 c16 bd po o0 o1 bM true w hA hX hel qK qZ qM
def openB (O:List Int) (n:Int):Bool:=((O.length:Int) == 2) && (allIn O (-1) (wrap64 (n - 1)) && (!(rd O 0 == rd O 1) || (rd O 0 == -1)))
theorem el2 {w:World} {A:Option Addr} {O:List Int} (h:Kd.C (Kd.int .i64) w A O.length O) (hl:O.length=2):∃ ad,A=some ad∧w.cell? ad=some (.int .i64 (rd O 0))∧w.cell? ⟨ad.block,ad.off+1,none⟩=some (.int .i64 (rd O 1)):=by
 obtain ⟨ad, e0, h0⟩ := Kd.at_int h 0 (by omega) (by omega)
 obtain ⟨ad1, e1, h1⟩ := Kd.at_int h 1 (by omega) (by omega)
 rw [e0] at e1
 injection e1 with e1
 subst e1
 refine ⟨ad, e0, ?_, ?_⟩
 ·rw [show ((0 : Int).toNat) = 0 from rfl, Addr.add_zero'] at h0
  exact h0
 ·simp only [show (1:Int).toNat=1 from rfl,Nat.reduceMul,Nat.reduceEqDiff,Go.Addr.add,↓reduceIte] at h1
  exact h1
def impl_FTL_openOk.f (a0_0:Int) (a0_1:Int) (a0_2:Int) (l0_3:List (S92)) (a0_4:Int) (a0_5:Int) (a0_6:Bool) (a0_7:Int) (a0_8:Int) (a0_9:Int) (l0_10:List Int) (l0_11:List Bool) (l0_12:List Int) (a0_13:Int) (a0_14:Int) (l0_15:List Int) (l0_16:List Int) (a0_17:Int) (a0_18:Int):Option Bool:=some (openB l0_15 (wrap64 (a0_0 * a0_1)))
theorem impl_FTL_openOk.calls (a0_0:Int) (a0_1:Int) (a0_2:Int) (A0_3:Option Addr) (c0_3:Nat) (l0_3:List (S92)) (a0_4:Int) (a0_5:Int) (a0_6:Bool) (a0_7:Int) (a0_8:Int) (a0_9:Int) (A0_10:Option Addr) (c0_10:Nat) (l0_10:List Int) (A0_11:Option Addr) (c0_11:Nat) (l0_11:List Bool) (A0_12:Option Addr) (c0_12:Nat) (l0_12:List Int) (a0_13:Int) (a0_14:Int) (A0_15:Option Addr) (c0_15:Nat) (l0_15:List Int) (A0_16:Option Addr) (c0_16:Nat) (l0_16:List Int) (a0_17:Int) (a0_18:Int) (r:Bool) (w:World) (hr0_3:Kd.C k92 w A0_3 l0_3.length l0_3) (hc0_3:l0_3.length≤c0_3) (hr0_10:Kd.C (Kd.int .i64) w A0_10 l0_10.length l0_10) (hc0_10:l0_10.length≤c0_10) (hr0_11:Kd.C Kd.bool w A0_11 l0_11.length l0_11) (hc0_11:l0_11.length≤c0_11) (hr0_12:Kd.C (Kd.int .i64) w A0_12 l0_12.length l0_12) (hc0_12:l0_12.length≤c0_12) (hr0_15:Kd.C (Kd.int .i64) w A0_15 l0_15.length l0_15) (hc0_15:l0_15.length≤c0_15) (hr0_16:Kd.C (Kd.int .i64) w A0_16 l0_16.length l0_16) (hc0_16:l0_16.length≤c0_16) (h:impl_FTL_openOk.f a0_0 a0_1 a0_2 l0_3 a0_4 a0_5 a0_6 a0_7 a0_8 a0_9 l0_10 l0_11 l0_12 a0_13 a0_14 l0_15 l0_16 a0_17 a0_18=some r) :
  Calls Try.prog 30 #[.agg #[.int .i64 a0_0,.int .i64 a0_1,.int .i64 a0_2,.slice A0_3 l0_3.length c0_3,.int .i64 a0_4,.int .i64 a0_5,.bool a0_6,.int .i64 a0_7,.int .i64 a0_8,.int .i64 a0_9,.slice A0_10 l0_10.length c0_10,.slice A0_11 l0_11.length c0_11,.slice A0_12 l0_12.length c0_12,.int .i64 a0_13,.int .i64 a0_14,.slice A0_15 l0_15.length c0_15,.slice A0_16 l0_16.length c0_16,.int .i64 a0_17,.int .i64 a0_18]] w fun e w'=>e=.returned (.bool r)∧Below w.heap.size w w':=by
 refine openI_core a0_0 a0_1 a0_2 A0_3 l0_3.length c0_3 a0_4 a0_5 a0_6 a0_7 a0_8 a0_9 A0_10 l0_10.length c0_10 A0_11 l0_11.length c0_11 A0_12 l0_12.length c0_12 a0_13 a0_14 A0_15 l0_15.length c0_15 A0_16 l0_16.length c0_16 a0_17 a0_18 (rd l0_15 0) (rd l0_15 1) _ _ _ _ r w ?_ ?_ ?_ rfl rfl rfl (Option.some.inj h)
 ·exact fun W => impl_Geometry_all.calls a0_0 a0_1 a0_2 _ W rfl
 ·exact fun W hb=>impl_allWithin.calls A0_15 c0_15 l0_15 (-1) (wrap64 (wrap64 (a0_0 * a0_1) - 1)) _ W (Kd.C_below hr0_15 hb) hc0_15 rfl
 ·exact fun hl => el2 hr0_15 hl
end Go.Proofs.Ytajocpalpnpmdaa.Q
