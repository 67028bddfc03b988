/- The specification's test of a page map that lies in the middle of a flash translation layer's variable. Conditions: those before each theorem. -/
import Derived.Test.YtajocpalpnpmdaaXMidHeat
import Derived.Test.YtajocpalpnpmdaaXOrdL
import Derived.Test.YtajocpalpnpmdaaQ4
namespace Go.Proofs.Ytajocpalpnpmdaa.Q
open Go.RowKit Go.Proofs.YtajocpalpnpmdaaW.PrintWords Go.Proofs.YtajocpalpnpmdaaW.PrintMore Go.Proofs.YtajocpalpnpmdaaW.PrintLast
abbrev lSXMidMap_ := @List.setIfInBounds_toArray
abbrev lZXMidMap_ := @List.set_cons_zero
abbrev lCXMidMap_ := @List.set_cons_succ
abbrev mAXMidMap_ := @List.map_toArray
set_option linter.unusedVariables false
set_option linter.unusedSimpArgs false
def sizeB (n a b:Int):Bool:=decide (1≤n∧n≤48) && (decide (1≤a∧a≤640) && (decide (1≤b∧b≤640) && decide (wrap64 (a * b)≤640)))
theorem l09Size_eq (n a b:Int):spec_l09Size.f n a b=some (sizeB n a b):=by
 unfold spec_l09Size.f sizeB
 rw [l00In_eq, l00In_eq, l00In_eq]
 cases decide (1≤n∧n≤48) <;> cases decide (1≤a∧a≤640) <;> cases decide (1≤b∧b≤640) <;> simp
def mapAt (p:Int) (M:List Int) (T:List Bool) (i:Nat):Bool:=decide (-1≤rd M i∧rd M i≤p) && (!(decide (rd M i < 0) && rdOf false T i) && (List.range i).all fun j=>!(decide (0≤rd M i) && rd M j == rd M i))
def mapB (a b:Int) (M:List Int) (T:List Bool):Bool:=sizeB M.length a b && (decide (T.length=M.length) && (List.range M.length).all (mapAt (wrap64 (wrap64 (a * b) - 1)) M T))
theorem all_range {n:Nat} {p:Nat→Bool} (h:∀ j,j < n→p j=true):(List.range n).all p=true:=by
 rw [List.all_eq_true]
 exact fun x hx => h x (List.mem_range.1 hx)
theorem not_all_range {n:Nat} {p:Nat→Bool} {j:Nat} (hj:j < n) (h:p j=false):(List.range n).all p=false:=by
 rw [List.all_eq_false]
 exact ⟨j, List.mem_range.2 hj, by simp [h]⟩
theorem sizeM_calls (n a b:Int) (W:World):Calls Try.prog 70 #[.int .i64 n,.int .i64 a,.int .i64 b] W fun e w'=>e=.returned (.bool (sizeB n a b))∧Below W.heap.size W w' :=
 (spec_l09Size.calls n a b _ W (l09Size_eq n a b)).mono fun e w' ⟨he,hd⟩=>⟨he,by obtain ⟨nn,rfl⟩:=hd.out;exact pw_below_drewN (Below.refl _ _) nn⟩
def l09r1.T:Bool × List (List Nat × List Nat):=(true,[([],[]),([0],[0]),([1],[1]),([2],[2]),([3],[3]),([],[]),([5],[5]),([6],[6]),([7],[7]),([],[]),([9],[9]),([10],[10]),([11],[11]),([4,8,12],[4,8,12]),([13],[13]),([14,13],[14]),([15],[15]),([16,15],[15,16]),([17,15],[15,17]),([18,15],[15,18]),([19,15],[15,19]),([15],[15]),([21,15],[15,21]),([22,15],[15,22]),([23,15],[15,23]),([24,15],[15,24]),([20,25,15],[15,20,25]),([15,26],[15,26])])
def l09r1.B:List Nat:=[0,1,3,7,15,0,32,96,224,0,512,1536,3584,8191,16383,32767,65535,131071,262143,524287,1048575,65535,2162687,6356991,14745599,31522815,67108863,134217727]
theorem l09r1.tab:rtab .any (opsOf Try.f45 1)=l09r1.T:=by kernel_rfl
theorem l09r1.bits:waitsOk l09r1.T.2 l09r1.B=true:=by kernel_rfl
def l09r6.T:Bool × List (List Nat × List Nat):=(true,[([],[]),([0],[0]),([1],[1]),([2],[2]),([],[]),([3,4],[3,4]),([5],[5]),([],[]),([7],[7]),([8],[8]),([9],[9]),([],[]),([11],[11]),([12],[12]),([13],[13]),([10,14],[10,14]),([15],[15]),([6,16],[6,16]),([17],[17]),([18,17],[18]),([19],[19]),([20,19],[19,20]),([21,19],[19,21]),([22,19],[19,22]),([19],[19]),([23,24,19],[19,23,24]),([25,19],[19,25]),([26,19],[19,26]),([27,19,19],[19,27]),([28],[28]),([29,28],[28,29]),([30,28],[28,30]),([31,28],[28,31]),([28],[28]),([32,33,28],[28,32,33]),([34,28],[28,34]),([28,35,19],[19,28,35]),([19,36],[19,36])])
def l09r6.B:List Nat:=[0,1,3,7,0,31,63,0,128,384,896,0,2048,6144,14336,32640,65408,131071,262143,524287,1048575,2097151,4194303,8388607,1048575,33554431,67108863,134217727,268435455,536870911,1073741823,2147483647,4294967295,536870911,17179869183,34359738367,68719476735,137438953471]
theorem l09r6.tab:rtab .any (opsOf Try.f45 6)=l09r6.T:=by kernel_rfl
theorem l09r6.bits:waitsOk l09r6.T.2 l09r6.B=true:=by kernel_rfl
def l09r11.T:Bool × List (List Nat × List Nat):=(true,[([],[]),([0],[0]),([1],[1]),([2],[2]),([],[]),([3,4],[3,4]),([5],[5]),([6],[6]),([7],[7]),([8],[8]),([9,8],[8,9]),([10,8],[8,10]),([11,8],[8,11]),([8],[8]),([12,13,8],[8,12,13]),([14,8],[8,14]),([8],[8]),([16,8],[8,16]),([17,8],[8,17]),([18,8],[8,18]),([8],[8]),([19,20,8],[8,19,20]),([21,8],[8,21]),([15,22,8],[8,15,22]),([8,23],[8,23])])
def l09r11.B:List Nat:=[0,1,3,7,0,31,63,127,255,511,1023,2047,4095,511,16383,32767,511,66047,197119,459263,511,2032127,4129279,8388607,16777215]
theorem l09r11.tab:rtab .any (opsOf Try.f45 11)=l09r11.T:=by kernel_rfl
theorem l09r11.bits:waitsOk l09r11.T.2 l09r11.B=true:=by kernel_rfl
set_option maxHeartbeats 16000000 in
set_option maxRecDepth 100000 in
theorem mapM_calls (g:Nat) (a b:Int) (A10:Option Addr) (c10:Nat) (M:List Int) (A11:Option Addr) (c11:Nat) (T:List Bool) (w:World)
  (h8:w.cell? ⟨g,8,none⟩=some (.int .i64 a)) (h9:w.cell? ⟨g,9,none⟩=some (.int .i64 b)) (h10:w.cell? ⟨g,10,none⟩=some (.slice A10 M.length c10)) (h11:w.cell? ⟨g,11,none⟩=some (.slice A11 T.length c11))
  (hr10:Kd.C (Kd.int .i64) w A10 M.length M) (hc10:M.length≤c10) (hr11:Kd.C Kd.bool w A11 T.length T) (hc11:T.length≤c11) :
  Calls Try.prog 45 #[.pointer (some ⟨g,8,none⟩)] w fun e w'=>e=.returned (.bool (mapB a b M T))∧Below w.heap.size w w':=by
 have hbig := hr10.2.1
 have L8 : g < w.heap.size := World.block_lt_of_cell? w _ h8
 have HSS:Aside0 (∀ w',Below w.heap.size w w'→w'.cell? ⟨g,8,none⟩=some (.int .i64 a)∧w'.cell? ⟨g,9,none⟩=some (.int .i64 b)∧w'.cell? ⟨g,10,none⟩=some (.slice A10 M.length c10)∧w'.cell? ⟨g,11,none⟩=some (.slice A11 T.length c11)):=⟨fun w' hb=>⟨(hb.cell L8).trans h8,(hb.cell L8).trans h9,(hb.cell L8).trans h10,(hb.cell L8).trans h11⟩⟩
 have HR10 := Aside0.mk hr10
 have HR11 := Aside0.mk hr11
 have HB := Aside0.mk (Below.refl w.heap.size w)
 have HZ := Aside0.mk (sizeM_calls (M.length : Int) a b)
 clear hr10 hr11
 unfold mapB
 cases cz : sizeB (M.length : Int) a b with
 | false =>
  rw [cz] at HZ
  rw [Bool.false_and]
  clear cz hbig h8 h9 h10 h11
  go_enter Try.func45, Try.ntmps45
  go_upto_region 1 with (fail)
  have n0_ := Aside0.mk (below_drew1 HB.out)
  clear HB
  have HB := n0_
  clear n0_
  refine start_ (n:=28) (S:=fun w'=>w'.cell? ⟨g,8,none⟩=some (.int .i64 a)∧w'.cell? ⟨g,9,none⟩=some (.int .i64 b)∧w'.cell? ⟨g,10,none⟩=some (.slice A10 M.length c10)∧w'.cell? ⟨g,11,none⟩=some (.slice A11 T.length c11)) (ds:=[]) #[false,false,false,false,false,false,false,false,false,false,false,false,false,false,false,false,false,false,false,false,false,false,false,false,false,false,false,false] (by kernel_rfl) rfl rfl (HSS.out _ HB.out) (fun hHeld=>?_)
  refine with_tabW l09r1.tab l09r1.bits (fun HT_ HW_ => ?_)
  generalize World.drew _ = W5 at HB hHeld ⊢
  refine ord_ [(1,0,some 5),(1,1,some 6),(1,2,some 7),(1,5,some 10),(1,6,some 11),(1,7,some 12),(1,9,some 14),(1,10,some 15),(1,11,some 16),(2,3,some 8),(1,4,some 9),(2,8,some 13),(2,12,some 17)] ?_
  repeat (first|(refine Ord.pureL (v:=?_) (l':=?_) (t':=?_) rfl rfl (fun _ _ _ h=>h) (by kernel_rfl) ?_ ?_ ?_ ?_ ?_;rotate_left 3;dsimp only [s0,s1];rfl;exact any_of HT_.out (by kernel_rfl);intro w';go_simp;(try simp only [i64_w]);with_reducible rfl;dsimp only [s0,s1];rfl)|(refine Ord.takeL (v:=?_) (l':=?_) (t':=?_) rfl rfl (fun _ _ _ h=>h) hHeld (by kernel_rfl) ?_ ?_ ?_ ?_ ?_;rotate_left 3;dsimp only [s0,s1];rfl;exact take_ofW HT_.out HW_.out (by kernel_rfl);rintro w' ⟨s0,s1,s2,s3⟩;go_simp;with_reducible rfl;dsimp only [s0,s1];rfl))
  refine Ord.nil ?_
  refine one_ (i:=13) (N:=some 18) #[true,true,true,true,true,true,true,true,true,true,true,true,true,true,false,false,false,false,false,false,false,false,false,false,false,false,false,false] rfl rfl (one_of HT_.out (by kernel_rfl)) (by decide) (fun K hK=>?_)
  refine goes_ Try.func70 (by kernel_rfl) rfl #[.int .i64 (M.length:Int),.int .i64 a,.int .i64 b] (by rfl) rfl rfl (by simp only [mAXMidMap_,List.map_cons,List.map_nil];rfl) ?_
  with_reducible refine (HZ.out _).mono ?_
  rintro e W6 ⟨rfl, hb⟩
  refine ⟨_, rfl, ?_⟩
  have n0_ := Aside0.mk (below_step HB.out hb)
  clear HB hb
  have HB := n0_
  clear n0_
  refine hK.out _ _ (HSS.out _ HB.out) (fun hHeld => ?_)
  clear hK K
  refine norm_ (a' := ?_) ?_ ?_
  rotate_left
  ·show Act.put _ (some 18) _ = _
   simp only [Act.put,lSXMidMap_,lZXMidMap_,lCXMidMap_,i64_w,i32_w]
   rfl
  refine ord_ [(1,14,some 19),(1,15,some 20),(0,16,some 21),(0,17,some 22),(0,18,some 23),(0,19,some 24),(0,20,some 25),(0,21,some 26),(0,22,some 27),(0,23,some 28),(0,24,some 29),(0,25,some 30),(0,26,some 31),(1,27,some 32)] ?_
  repeat (first|(refine Ord.offL (l':=?_) (t':=?_) rfl rfl (fun _ _ _ h=>h) (by kernel_rfl) ?_ ?_ ?_ ?_;rotate_left 2;dsimp only [s0,s1];rfl;exact any_of HT_.out (by kernel_rfl);dsimp only [s0,s1];rfl)|(refine Ord.pureL (v:=?_) (l':=?_) (t':=?_) rfl rfl (fun _ _ _ h=>h) (by kernel_rfl) ?_ ?_ ?_ ?_ ?_;rotate_left 3;dsimp only [s0,s1];rfl;exact any_of HT_.out (by kernel_rfl);intro w';go_simp;(try simp only [i64_w]);with_reducible rfl;dsimp only [s0,s1];rfl))
  refine Ord.nil ?_
  refine done_ (done_of HT_.out (by kernel_rfl)) ?_
  try go_wp2
  go_ret
  exact ⟨rfl, HB.out⟩
 | true =>
  rw [cz] at HZ
  rw [Bool.true_and]
  clear cz
  by_cases ct : T.length = M.length
  rotate_left
  ·have q1:((T.length:Int) == (M.length:Int))=false:=beq_eq_false_iff_ne.2 (by omega)
   have q2:((T.length:Int) != (M.length:Int))=true:=bne_iff_ne.2 (by omega)
   have q3:(T.length == M.length)=false:=beq_eq_false_iff_ne.2 ct
   rw [decide_eq_false ct, Bool.false_and]
   clear hbig h8 h9 h10 h11 ct
   go_enter Try.func45, Try.ntmps45
   go_upto_region 1 with (fail)
   have n0_ := Aside0.mk (below_drew1 HB.out)
   clear HB
   have HB := n0_
   clear n0_
   refine start_ (n:=28) (S:=fun w'=>w'.cell? ⟨g,8,none⟩=some (.int .i64 a)∧w'.cell? ⟨g,9,none⟩=some (.int .i64 b)∧w'.cell? ⟨g,10,none⟩=some (.slice A10 M.length c10)∧w'.cell? ⟨g,11,none⟩=some (.slice A11 T.length c11)) (ds:=[]) #[false,false,false,false,false,false,false,false,false,false,false,false,false,false,false,false,false,false,false,false,false,false,false,false,false,false,false,false] (by kernel_rfl) rfl rfl (HSS.out _ HB.out) (fun hHeld=>?_)
   refine with_tabW l09r1.tab l09r1.bits (fun HT_ HW_ => ?_)
   generalize World.drew _ = W5 at HB hHeld ⊢
   refine ord_ [(1,0,some 5),(1,1,some 6),(1,2,some 7),(1,5,some 10),(1,6,some 11),(1,7,some 12),(1,9,some 14),(1,10,some 15),(1,11,some 16),(2,3,some 8),(1,4,some 9),(2,8,some 13),(2,12,some 17)] ?_
   repeat (first|(refine Ord.pureL (v:=?_) (l':=?_) (t':=?_) rfl rfl (fun _ _ _ h=>h) (by kernel_rfl) ?_ ?_ ?_ ?_ ?_;rotate_left 3;dsimp only [s0,s1];rfl;exact any_of HT_.out (by kernel_rfl);intro w';go_simp;(try simp only [i64_w]);with_reducible rfl;dsimp only [s0,s1];rfl)|(refine Ord.takeL (v:=?_) (l':=?_) (t':=?_) rfl rfl (fun _ _ _ h=>h) hHeld (by kernel_rfl) ?_ ?_ ?_ ?_ ?_;rotate_left 3;dsimp only [s0,s1];rfl;exact take_ofW HT_.out HW_.out (by kernel_rfl);rintro w' ⟨s0,s1,s2,s3⟩;go_simp;with_reducible rfl;dsimp only [s0,s1];rfl))
   refine Ord.nil ?_
   refine one_ (i:=13) (N:=some 18) #[true,true,true,true,true,true,true,true,true,true,true,true,true,true,false,false,false,false,false,false,false,false,false,false,false,false,false,false] rfl rfl (one_of HT_.out (by kernel_rfl)) (by decide) (fun K hK=>?_)
   refine goes_ Try.func70 (by kernel_rfl) rfl #[.int .i64 (M.length:Int),.int .i64 a,.int .i64 b] (by rfl) rfl rfl (by simp only [mAXMidMap_,List.map_cons,List.map_nil];rfl) ?_
   with_reducible refine (HZ.out _).mono ?_
   rintro e W6 ⟨rfl, hb⟩
   refine ⟨_, rfl, ?_⟩
   have n0_ := Aside0.mk (below_step HB.out hb)
   clear HB hb
   have HB := n0_
   clear n0_
   refine hK.out _ _ (HSS.out _ HB.out) (fun hHeld => ?_)
   clear hK K
   refine norm_ (a' := ?_) ?_ ?_
   rotate_left
   ·show Act.put _ (some 18) _ = _
    simp only [Act.put,lSXMidMap_,lZXMidMap_,lCXMidMap_,i64_w,i32_w]
    rfl
   refine ord_ [(1,14,some 19),(1,15,some 20),(1,16,some 21),(1,17,some 22),(1,18,some 23),(1,21,some 26),(1,22,some 27),(1,23,some 28),(2,19,some 24),(1,20,some 25),(2,24,some 29),(1,25,some 30),(1,26,some 31),(1,27,some 32)] ?_
   repeat (first|(refine Ord.pureL (v:=?_) (l':=?_) (t':=?_) rfl rfl (fun _ _ _ h=>h) (by kernel_rfl) ?_ ?_ ?_ ?_ ?_;rotate_left 3;dsimp only [s0,s1];rfl;exact any_of HT_.out (by kernel_rfl);intro w';go_simp;(try simp only [i64_w]);with_reducible rfl;dsimp only [s0,s1];rfl)|(refine Ord.takeL (v:=?_) (l':=?_) (t':=?_) rfl rfl (fun _ _ _ h=>h) hHeld (by kernel_rfl) ?_ ?_ ?_ ?_ ?_;rotate_left 3;dsimp only [s0,s1];rfl;exact take_ofW HT_.out HW_.out (by kernel_rfl);rintro w' ⟨s0,s1,s2,s3⟩;go_simp;with_reducible rfl;dsimp only [s0,s1];rfl))
   refine Ord.nil ?_
   refine done_ (done_of HT_.out (by kernel_rfl)) ?_
   try go_wp2
   go_ret
   exact ⟨rfl, HB.out⟩
  ·have q1:((T.length:Int) == (M.length:Int))=true:=beq_iff_eq.2 (by omega)
   have q2:((T.length:Int) != (M.length:Int))=false:=bne_eq_false_iff_eq.2 (by omega)
   have q3 : (T.length == M.length) = true := beq_iff_eq.2 ct
   rw [decide_eq_true ct, Bool.true_and]
   have CT := Aside0.mk ct
   clear ct h8 h9 h10 h11
   go_enter Try.func45, Try.ntmps45
   go_upto_region 1 with (fail)
   have n0_ := Aside0.mk (below_drew1 HB.out)
   clear HB
   have HB := n0_
   clear n0_
   refine start_ (n:=28) (S:=fun w'=>w'.cell? ⟨g,8,none⟩=some (.int .i64 a)∧w'.cell? ⟨g,9,none⟩=some (.int .i64 b)∧w'.cell? ⟨g,10,none⟩=some (.slice A10 M.length c10)∧w'.cell? ⟨g,11,none⟩=some (.slice A11 T.length c11)) (ds:=[]) #[false,false,false,false,false,false,false,false,false,false,false,false,false,false,false,false,false,false,false,false,false,false,false,false,false,false,false,false] (by kernel_rfl) rfl rfl (HSS.out _ HB.out) (fun hHeld=>?_)
   refine with_tabW l09r1.tab l09r1.bits (fun HT_ HW_ => ?_)
   generalize World.drew _ = W5 at HB hHeld ⊢
   refine ord_ [(1,0,some 5),(1,1,some 6),(1,2,some 7),(1,5,some 10),(1,6,some 11),(1,7,some 12),(1,9,some 14),(1,10,some 15),(1,11,some 16),(2,3,some 8),(1,4,some 9),(2,8,some 13),(2,12,some 17)] ?_
   repeat (first|(refine Ord.pureL (v:=?_) (l':=?_) (t':=?_) rfl rfl (fun _ _ _ h=>h) (by kernel_rfl) ?_ ?_ ?_ ?_ ?_;rotate_left 3;dsimp only [s0,s1];rfl;exact any_of HT_.out (by kernel_rfl);intro w';go_simp;(try simp only [i64_w]);with_reducible rfl;dsimp only [s0,s1];rfl)|(refine Ord.takeL (v:=?_) (l':=?_) (t':=?_) rfl rfl (fun _ _ _ h=>h) hHeld (by kernel_rfl) ?_ ?_ ?_ ?_ ?_;rotate_left 3;dsimp only [s0,s1];rfl;exact take_ofW HT_.out HW_.out (by kernel_rfl);rintro w' ⟨s0,s1,s2,s3⟩;go_simp;with_reducible rfl;dsimp only [s0,s1];rfl))
   refine Ord.nil ?_
   refine one_ (i:=13) (N:=some 18) #[true,true,true,true,true,true,true,true,true,true,true,true,true,true,false,false,false,false,false,false,false,false,false,false,false,false,false,false] rfl rfl (one_of HT_.out (by kernel_rfl)) (by decide) (fun K hK=>?_)
   refine goes_ Try.func70 (by kernel_rfl) rfl #[.int .i64 (M.length:Int),.int .i64 a,.int .i64 b] (by rfl) rfl rfl (by simp only [mAXMidMap_,List.map_cons,List.map_nil];rfl) ?_
   with_reducible refine (HZ.out _).mono ?_
   rintro e W6 ⟨rfl, hb⟩
   refine ⟨_, rfl, ?_⟩
   have n0_ := Aside0.mk (below_step HB.out hb)
   clear HB hb
   have HB := n0_
   clear n0_
   refine hK.out _ _ (HSS.out _ HB.out) (fun hHeld => ?_)
   clear hK K
   refine norm_ (a' := ?_) ?_ ?_
   rotate_left
   ·show Act.put _ (some 18) _ = _
    simp only [Act.put,lSXMidMap_,lZXMidMap_,lCXMidMap_,i64_w,i32_w]
    rfl
   refine ord_ [(1,14,some 19),(1,15,some 20),(1,16,some 21),(1,17,some 22),(1,18,some 23),(1,21,some 26),(1,22,some 27),(1,23,some 28),(2,19,some 24),(1,20,some 25),(2,24,some 29),(1,25,some 30),(1,26,some 31),(1,27,some 32)] ?_
   repeat (first|(refine Ord.pureL (v:=?_) (l':=?_) (t':=?_) rfl rfl (fun _ _ _ h=>h) (by kernel_rfl) ?_ ?_ ?_ ?_ ?_;rotate_left 3;dsimp only [s0,s1];rfl;exact any_of HT_.out (by kernel_rfl);intro w';go_simp;(try simp only [i64_w]);with_reducible rfl;dsimp only [s0,s1];rfl)|(refine Ord.takeL (v:=?_) (l':=?_) (t':=?_) rfl rfl (fun _ _ _ h=>h) hHeld (by kernel_rfl) ?_ ?_ ?_ ?_ ?_;rotate_left 3;dsimp only [s0,s1];rfl;exact take_ofW HT_.out HW_.out (by kernel_rfl);rintro w' ⟨s0,s1,s2,s3⟩;go_simp;with_reducible rfl;dsimp only [s0,s1];rfl))
   refine Ord.nil ?_
   refine done_ (done_of HT_.out (by kernel_rfl)) ?_
   clear hHeld q1 q2 q3
   try go_wp2
   go_loopg [3,4] M.length (fun gg s3 _ wr=>∃ kk:Nat,kk≤M.length∧M.length - kk≤gg∧s3=.int .i64 kk∧Aside0 (Below w.heap.size w wr)∧Aside0 (∀ j,j < kk→mapAt (wrap64 (wrap64 (a * b) - 1)) M T j=true))
   case atStart=>exact ⟨0,Nat.zero_le _,by omega,rfl,HB,⟨fun j hj=>absurd hj (Nat.not_lt_zero _)⟩⟩
   case round =>
    clear HB
    obtain ⟨kk, hkk, hg, rfl, HB, HA⟩ := hrel
    obtain ⟨z8, z9, z10, z11⟩ := HSS.out _ HB.out
    by_cases hlt : kk < M.length
    ·have hlti : (kk : Int) < (M.length : Int) := by omega
     have hltb:decide ((kk:Int) < (M.length:Int))=true:=decide_eq_true hlti
     have hltt:(kk:Int) < (T.length:Int):=by have:=CT.out;omega
     have hlttb:decide ((kk:Int) < (T.length:Int))=true:=decide_eq_true hltt
     obtain ⟨ad,e1,hcell⟩:=Kd.at_int HR10.out (kk:Int) (by omega) (by omega)
     obtain ⟨adt,e2,hcellt⟩:=Kd.at_bool HR11.out (kk:Int) (by omega) (by omega)
     subst e1
     subst e2
     have HMA:Aside0 (mapAt (wrap64 (wrap64 (a * b) - 1)) M T kk=(decide (-1≤rd M kk∧rd M kk≤wrap64 (wrap64 (a * b) - 1)) && (!(decide (rd M kk < 0) && rdOf false T kk) && (List.range kk).all fun j=>!(decide (0≤rd M kk) && rd M j == rd M kk)))):=⟨rfl⟩
     rw [Int.toNat_natCast] at hcell hcellt
     have HY:=Aside0.mk (inS_calls (rd M kk) (-1) (wrap64 (wrap64 (a * b) - 1)))
     have HIX:Aside0 (∀ j:Nat,j < M.length→w.cell? (ad.add j)=some (.int .i64 (rd M j))):=⟨fun j hj=>by
      obtain ⟨ad',e',hc'⟩:=Kd.at_int HR10.out (j:Int) (by omega) (by omega)
      injection e' with e'
      subst e'
      rw [Int.toNat_natCast] at hc'
      exact hc'⟩
     have LA := World.block_lt_of_cell? w _ hcell
     have LT := World.block_lt_of_cell? w _ hcellt
     generalize rd M kk = y at hcell HMA HY
     generalize rdOf false T kk = t at hcellt HMA
     have HS6:Aside0 (∀ w',Below w.heap.size w w'→(w'.cell? ⟨g,8,none⟩=some (.int .i64 a)∧w'.cell? ⟨g,9,none⟩=some (.int .i64 b)∧w'.cell? ⟨g,10,none⟩=some (.slice (some ad) M.length c10)∧w'.cell? ⟨g,11,none⟩=some (.slice (some adt) T.length c11)∧w'.cell? (ad.add kk)=some (.int .i64 y)∧w'.cell? (adt.add kk)=some (.bool t))):=⟨fun w' hb=>by
      obtain ⟨y8, y9, y10, y11⟩ := HSS.out _ hb
      exact ⟨y8,y9,y10,y11,(hb.cell LA).trans hcell,(hb.cell LT).trans hcellt⟩⟩
     clear hcell hcellt LA LT
     cases ci:decide (-1≤y∧y≤wrap64 (wrap64 (a * b) - 1)) with
     | false =>
      rw [ci] at HY HMA
      have HMF:Aside0 (mapAt (wrap64 (wrap64 (a * b) - 1)) M T kk=false):=⟨HMA.out.trans (Bool.false_and _)⟩
      clear HMA ci
      go_upto_region 6 with (fail)
      have n0_ := Aside0.mk (below_drew1 HB.out)
      clear HB
      have HB := n0_
      clear n0_
      refine start_ (n:=38) (S:=fun w'=>w'.cell? ⟨g,8,none⟩=some (.int .i64 a)∧w'.cell? ⟨g,9,none⟩=some (.int .i64 b)∧w'.cell? ⟨g,10,none⟩=some (.slice (some ad) M.length c10)∧w'.cell? ⟨g,11,none⟩=some (.slice (some adt) T.length c11)∧w'.cell? (ad.add kk)=some (.int .i64 y)∧w'.cell? (adt.add kk)=some (.bool t)) (ds:=[]) #[false,false,false,false,false,false,false,false,false,false,false,false,false,false,false,false,false,false,false,false,false,false,false,false,false,false,false,false,false,false,false,false,false,false,false,false,false,false] (by kernel_rfl) rfl rfl (HS6.out _ HB.out) (fun hHeld=>?_)
      refine with_tabW l09r6.tab l09r6.bits (fun HT_ HW_ => ?_)
      generalize World.drew _ = W5 at HB hHeld ⊢
      refine ord_ [(1,0,some 42),(1,1,some 43),(1,2,some 44),(1,4,some 46),(1,7,some 49),(1,8,some 50),(1,9,some 51),(1,11,some 53),(1,12,some 54),(1,13,some 55),(2,3,some 45),(1,5,some 47),(2,6,some 48),(2,10,some 52),(2,14,some 56),(1,15,some 57),(1,16,some 58)] ?_
      repeat (first|(refine Ord.pureL (v:=?_) (l':=?_) (t':=?_) rfl rfl (fun _ _ _ h=>h) (by kernel_rfl) ?_ ?_ ?_ ?_ ?_;rotate_left 3;dsimp only [s0,s1];rfl;exact any_of HT_.out (by kernel_rfl);intro w';go_simp;(try simp only [i64_w]);with_reducible rfl;dsimp only [s0,s1];rfl)|(refine Ord.takeL (v:=?_) (l':=?_) (t':=?_) rfl rfl (fun _ _ _ h=>h) hHeld (by kernel_rfl) ?_ ?_ ?_ ?_ ?_;rotate_left 3;dsimp only [s0,s1];rfl;exact take_ofW HT_.out HW_.out (by kernel_rfl);rintro w' ⟨s0,s1,s2,s3,s4,s5⟩;go_simp;with_reducible rfl;dsimp only [s0,s1];rfl))
      refine Ord.nil ?_
      refine one_ (i:=17) (N:=some 59) #[true,true,true,true,true,true,true,true,true,true,true,true,true,true,true,true,true,true,false,false,false,false,false,false,false,false,false,false,false,false,false,false,false,false,false,false,false,false] rfl rfl (one_of HT_.out (by kernel_rfl)) (by decide) (fun K hK=>?_)
      refine goes_ Try.func47 (by kernel_rfl) rfl #[.int .i64 y,.int .i64 (-1),.int .i64 (wrap64 (wrap64 (a * b) - 1))] (by rfl) rfl rfl (by simp only [mAXMidMap_,List.map_cons,List.map_nil];rfl) ?_
      with_reducible refine (HY.out _).mono ?_
      rintro e W6 ⟨rfl, hb⟩
      refine ⟨_, rfl, ?_⟩
      have n0_ := Aside0.mk (below_step HB.out hb)
      clear HB hb
      have HB := n0_
      clear n0_
      refine hK.out _ _ (HS6.out _ HB.out) (fun hHeld => ?_)
      clear hK K
      refine norm_ (a' := ?_) ?_ ?_
      rotate_left
      ·show Act.put _ (some 59) _ = _
       simp only [Act.put,lSXMidMap_,lZXMidMap_,lCXMidMap_,i64_w,i32_w]
       rfl
      refine ord_ [(1,18,some 60),(1,19,some 61),(0,20,some 62),(0,21,some 63),(0,22,some 64),(0,23,some 65),(0,24,some 66),(0,25,some 67),(0,26,some 68),(0,27,some 69),(0,28,some 70),(0,29,some 71),(0,30,some 72),(0,31,some 73),(0,32,some 74),(0,33,some 75),(0,34,some 76),(0,35,some 77),(0,36,some 78),(1,37,some 79)] ?_
      repeat (first|(refine Ord.offL (l':=?_) (t':=?_) rfl rfl (fun _ _ _ h=>h) (by kernel_rfl) ?_ ?_ ?_ ?_;rotate_left 2;dsimp only [s0,s1];rfl;exact any_of HT_.out (by kernel_rfl);dsimp only [s0,s1];rfl)|(refine Ord.pureL (v:=?_) (l':=?_) (t':=?_) rfl rfl (fun _ _ _ h=>h) (by kernel_rfl) ?_ ?_ ?_ ?_ ?_;rotate_left 3;dsimp only [s0,s1];rfl;exact any_of HT_.out (by kernel_rfl);intro w';go_simp;(try simp only [i64_w]);with_reducible rfl;dsimp only [s0,s1];rfl))
      refine Ord.nil ?_
      refine done_ (done_of HT_.out (by kernel_rfl)) ?_
      have HF:=Aside0.mk (not_all_range (p:=mapAt (wrap64 (wrap64 (a * b) - 1)) M T) hlt HMF.out)
      try go_wp2
      go_ret
      exact ⟨by rw [HF.out]; rfl, HB.out⟩
     | true =>
      rw [ci] at HY HMA
      clear ci
      by_cases cn : y < 0
      ·have cn1 : decide (y < 0) = true := decide_eq_true cn
       have cn2:decide (0≤y)=false:=decide_eq_false (by omega)
       rw [cn1, cn2] at HMA
       cases t with
       | true =>
        have HMF:Aside0 (mapAt (wrap64 (wrap64 (a * b) - 1)) M T kk=false):=⟨HMA.out.trans rfl⟩
        clear HMA cn
        go_upto_region 6 with (fail)
        have n0_ := Aside0.mk (below_drew1 HB.out)
        clear HB
        have HB := n0_
        clear n0_
        refine start_ (n:=38) (S:=fun w'=>w'.cell? ⟨g,8,none⟩=some (.int .i64 a)∧w'.cell? ⟨g,9,none⟩=some (.int .i64 b)∧w'.cell? ⟨g,10,none⟩=some (.slice (some ad) M.length c10)∧w'.cell? ⟨g,11,none⟩=some (.slice (some adt) T.length c11)∧w'.cell? (ad.add kk)=some (.int .i64 y)∧w'.cell? (adt.add kk)=some (.bool true)) (ds:=[]) #[false,false,false,false,false,false,false,false,false,false,false,false,false,false,false,false,false,false,false,false,false,false,false,false,false,false,false,false,false,false,false,false,false,false,false,false,false,false] (by kernel_rfl) rfl rfl (HS6.out _ HB.out) (fun hHeld=>?_)
        refine with_tabW l09r6.tab l09r6.bits (fun HT_ HW_=>?_)
        generalize World.drew _ = W5 at HB hHeld ⊢
        refine ord_ [(1,0,some 42),(1,1,some 43),(1,2,some 44),(1,4,some 46),(1,7,some 49),(1,8,some 50),(1,9,some 51),(1,11,some 53),(1,12,some 54),(1,13,some 55),(2,3,some 45),(1,5,some 47),(2,6,some 48),(2,10,some 52),(2,14,some 56),(1,15,some 57),(1,16,some 58)] ?_
        repeat (first|(refine Ord.pureL (v:=?_) (l':=?_) (t':=?_) rfl rfl (fun _ _ _ h=>h) (by kernel_rfl) ?_ ?_ ?_ ?_ ?_;rotate_left 3;dsimp only [s0,s1];rfl;exact any_of HT_.out (by kernel_rfl);intro w';go_simp;(try simp only [i64_w]);with_reducible rfl;dsimp only [s0,s1];rfl)|(refine Ord.takeL (v:=?_) (l':=?_) (t':=?_) rfl rfl (fun _ _ _ h=>h) hHeld (by kernel_rfl) ?_ ?_ ?_ ?_ ?_;rotate_left 3;dsimp only [s0,s1];rfl;exact take_ofW HT_.out HW_.out (by kernel_rfl);rintro w' ⟨s0,s1,s2,s3,s4,s5⟩;go_simp;with_reducible rfl;dsimp only [s0,s1];rfl))
        refine Ord.nil ?_
        refine one_ (i:=17) (N:=some 59) #[true,true,true,true,true,true,true,true,true,true,true,true,true,true,true,true,true,true,false,false,false,false,false,false,false,false,false,false,false,false,false,false,false,false,false,false,false,false] rfl rfl (one_of HT_.out (by kernel_rfl)) (by decide) (fun K hK=>?_)
        refine goes_ Try.func47 (by kernel_rfl) rfl #[.int .i64 y,.int .i64 (-1),.int .i64 (wrap64 (wrap64 (a * b) - 1))] (by rfl) rfl rfl (by simp only [mAXMidMap_,List.map_cons,List.map_nil];rfl) ?_
        with_reducible refine (HY.out _).mono ?_
        rintro e W6 ⟨rfl, hb⟩
        refine ⟨_, rfl, ?_⟩
        have n0_ := Aside0.mk (below_step HB.out hb)
        clear HB hb
        have HB := n0_
        clear n0_
        refine hK.out _ _ (HS6.out _ HB.out) (fun hHeld=>?_)
        clear hK K
        refine norm_ (a' := ?_) ?_ ?_
        rotate_left
        ·show Act.put _ (some 59) _ = _
         simp only [Act.put,lSXMidMap_,lZXMidMap_,lCXMidMap_,i64_w,i32_w]
         rfl
        refine ord_ [(1,18,some 60),(1,19,some 61),(1,20,some 62),(1,21,some 63),(1,22,some 64),(1,24,some 66),(2,23,some 65),(1,25,some 67),(2,26,some 68),(1,27,some 69),(1,28,some 70),(1,29,some 71),(1,30,some 72),(1,31,some 73),(1,33,some 75),(2,32,some 74),(1,34,some 76),(2,35,some 77),(1,36,some 78),(1,37,some 79)] ?_
        repeat (first|(refine Ord.pureL (v:=?_) (l':=?_) (t':=?_) rfl rfl (fun _ _ _ h=>h) (by kernel_rfl) ?_ ?_ ?_ ?_ ?_;rotate_left 3;dsimp only [s0,s1];rfl;exact any_of HT_.out (by kernel_rfl);intro w';go_simp;(try simp only [i64_w]);with_reducible rfl;dsimp only [s0,s1];rfl)|(refine Ord.takeL (v:=?_) (l':=?_) (t':=?_) rfl rfl (fun _ _ _ h=>h) hHeld (by kernel_rfl) ?_ ?_ ?_ ?_ ?_;rotate_left 3;dsimp only [s0,s1];rfl;exact take_ofW HT_.out HW_.out (by kernel_rfl);rintro w' ⟨s0,s1,s2,s3,s4,s5⟩;go_simp;with_reducible rfl;dsimp only [s0,s1];rfl))
        refine Ord.nil ?_
        refine done_ (done_of HT_.out (by kernel_rfl)) ?_
        have HF:=Aside0.mk (not_all_range (p:=mapAt (wrap64 (wrap64 (a * b) - 1)) M T) hlt HMF.out)
        try go_wp2
        go_ret
        exact ⟨by rw [HF.out]; rfl, HB.out⟩
       | false =>
        clear cn
        go_upto_region 6 with (fail)
        have n0_ := Aside0.mk (below_drew1 HB.out)
        clear HB
        have HB := n0_
        clear n0_
        refine start_ (n:=38) (S:=fun w'=>w'.cell? ⟨g,8,none⟩=some (.int .i64 a)∧w'.cell? ⟨g,9,none⟩=some (.int .i64 b)∧w'.cell? ⟨g,10,none⟩=some (.slice (some ad) M.length c10)∧w'.cell? ⟨g,11,none⟩=some (.slice (some adt) T.length c11)∧w'.cell? (ad.add kk)=some (.int .i64 y)∧w'.cell? (adt.add kk)=some (.bool false)) (ds:=[]) #[false,false,false,false,false,false,false,false,false,false,false,false,false,false,false,false,false,false,false,false,false,false,false,false,false,false,false,false,false,false,false,false,false,false,false,false,false,false] (by kernel_rfl) rfl rfl (HS6.out _ HB.out) (fun hHeld=>?_)
        refine with_tabW l09r6.tab l09r6.bits (fun HT_ HW_=>?_)
        generalize World.drew _ = W5 at HB hHeld ⊢
        refine ord_ [(1,0,some 42),(1,1,some 43),(1,2,some 44),(1,4,some 46),(1,7,some 49),(1,8,some 50),(1,9,some 51),(1,11,some 53),(1,12,some 54),(1,13,some 55),(2,3,some 45),(1,5,some 47),(2,6,some 48),(2,10,some 52),(2,14,some 56),(1,15,some 57),(1,16,some 58)] ?_
        repeat (first|(refine Ord.pureL (v:=?_) (l':=?_) (t':=?_) rfl rfl (fun _ _ _ h=>h) (by kernel_rfl) ?_ ?_ ?_ ?_ ?_;rotate_left 3;dsimp only [s0,s1];rfl;exact any_of HT_.out (by kernel_rfl);intro w';go_simp;(try simp only [i64_w]);with_reducible rfl;dsimp only [s0,s1];rfl)|(refine Ord.takeL (v:=?_) (l':=?_) (t':=?_) rfl rfl (fun _ _ _ h=>h) hHeld (by kernel_rfl) ?_ ?_ ?_ ?_ ?_;rotate_left 3;dsimp only [s0,s1];rfl;exact take_ofW HT_.out HW_.out (by kernel_rfl);rintro w' ⟨s0,s1,s2,s3,s4,s5⟩;go_simp;with_reducible rfl;dsimp only [s0,s1];rfl))
        refine Ord.nil ?_
        refine one_ (i:=17) (N:=some 59) #[true,true,true,true,true,true,true,true,true,true,true,true,true,true,true,true,true,true,false,false,false,false,false,false,false,false,false,false,false,false,false,false,false,false,false,false,false,false] rfl rfl (one_of HT_.out (by kernel_rfl)) (by decide) (fun K hK=>?_)
        refine goes_ Try.func47 (by kernel_rfl) rfl #[.int .i64 y,.int .i64 (-1),.int .i64 (wrap64 (wrap64 (a * b) - 1))] (by rfl) rfl rfl (by simp only [mAXMidMap_,List.map_cons,List.map_nil];rfl) ?_
        with_reducible refine (HY.out _).mono ?_
        rintro e W6 ⟨rfl, hb⟩
        refine ⟨_, rfl, ?_⟩
        have n0_ := Aside0.mk (below_step HB.out hb)
        clear HB hb
        have HB := n0_
        clear n0_
        refine hK.out _ _ (HS6.out _ HB.out) (fun hHeld=>?_)
        clear hK K
        refine norm_ (a' := ?_) ?_ ?_
        rotate_left
        ·show Act.put _ (some 59) _ = _
         simp only [Act.put,lSXMidMap_,lZXMidMap_,lCXMidMap_,i64_w,i32_w]
         rfl
        refine ord_ [(1,18,some 60),(1,19,some 61),(1,20,some 62),(1,21,some 63),(1,22,some 64),(1,24,some 66),(2,23,some 65),(1,25,some 67),(2,26,some 68),(1,27,some 69),(1,28,some 70),(1,29,some 71),(1,30,some 72),(1,31,some 73),(1,33,some 75),(2,32,some 74),(1,34,some 76),(2,35,some 77),(1,36,some 78),(1,37,some 79)] ?_
        repeat (first|(refine Ord.pureL (v:=?_) (l':=?_) (t':=?_) rfl rfl (fun _ _ _ h=>h) (by kernel_rfl) ?_ ?_ ?_ ?_ ?_;rotate_left 3;dsimp only [s0,s1];rfl;exact any_of HT_.out (by kernel_rfl);intro w';go_simp;(try simp only [i64_w]);with_reducible rfl;dsimp only [s0,s1];rfl)|(refine Ord.takeL (v:=?_) (l':=?_) (t':=?_) rfl rfl (fun _ _ _ h=>h) hHeld (by kernel_rfl) ?_ ?_ ?_ ?_ ?_;rotate_left 3;dsimp only [s0,s1];rfl;exact take_ofW HT_.out HW_.out (by kernel_rfl);rintro w' ⟨s0,s1,s2,s3,s4,s5⟩;go_simp;with_reducible rfl;dsimp only [s0,s1];rfl))
        refine Ord.nil ?_
        refine done_ (done_of HT_.out (by kernel_rfl)) ?_
        clear hHeld
        try go_wp2
        go_loopg [4] kk (fun gg2 s4 wr2=>∃ jj:Nat,jj≤kk∧kk - jj≤gg2∧s4=.int .i64 jj∧Aside0 (Below w.heap.size w wr2)∧Aside0 (∀ j:Nat,j < jj→(!(false && rd M j == y))=true))
        case atStart=>exact ⟨0,Nat.zero_le _,by omega,rfl,HB,⟨fun j hj=>absurd hj (Nat.not_lt_zero _)⟩⟩
        case round =>
         clear HB
         obtain ⟨jj, hjj, hg2, rfl, HB, HA2⟩ := hrel
         by_cases hj2 : jj < kk
         ·have hj2b:decide ((jj:Int) < (kk:Int))=true:=decide_eq_true (by omega)
          have hjM:(jj:Int) < (M.length:Int):=by omega
          have hjMb:decide ((jj:Int) < (M.length:Int))=true:=decide_eq_true hjM
          have HS11:Aside0 (∀ w',Below w.heap.size w w'→(w'.cell? ⟨g,10,none⟩=some (.slice (some ad) M.length c10)∧w'.cell? (ad.add kk)=some (.int .i64 y))):=⟨fun w' hb=>by
           obtain ⟨y8,y9,y10,y11,y12,y13⟩:=HS6.out _ hb
           exact ⟨y10, y12⟩⟩
          go_upto_region 11 with (fail)
          have n0_ := Aside0.mk (below_drew1 HB.out)
          clear HB
          have HB := n0_
          clear n0_
          refine start_ (n:=25) (S:=fun w'=>w'.cell? ⟨g,10,none⟩=some (.slice (some ad) M.length c10)∧w'.cell? (ad.add kk)=some (.int .i64 y)) (ds:=[]) #[false,false,false,false,false,false,false,false,false,false,false,false,false,false,false,false,false,false,false,false,false,false,false,false,false] (by kernel_rfl) rfl rfl (HS11.out _ HB.out) (fun hHeld=>?_)
          refine with_tabW l09r11.tab l09r11.bits (fun HT_ HW_=>?_)
          generalize World.drew _ = W5 at HB hHeld ⊢
          refine ord_ [(1,0,some 85),(1,1,some 86),(1,2,some 87),(1,4,some 89),(2,3,some 88),(1,5,some 90),(2,6,some 91),(1,7,some 92),(1,8,some 93),(0,9,some 94),(0,10,some 95),(0,11,some 96),(0,12,some 97),(0,13,some 98),(0,14,some 99),(0,15,some 100),(0,16,some 101),(0,17,some 102),(0,18,some 103),(0,19,some 104),(0,20,some 105),(0,21,some 106),(0,22,some 107),(0,23,some 108),(1,24,some 109)] ?_
          repeat (first|(refine Ord.offL (l':=?_) (t':=?_) rfl rfl (fun _ _ _ h=>h) (by kernel_rfl) ?_ ?_ ?_ ?_;rotate_left 2;dsimp only [s0,s1];rfl;exact any_of HT_.out (by kernel_rfl);dsimp only [s0,s1];rfl)|(refine Ord.pureL (v:=?_) (l':=?_) (t':=?_) rfl rfl (fun _ _ _ h=>h) (by kernel_rfl) ?_ ?_ ?_ ?_ ?_;rotate_left 3;dsimp only [s0,s1];rfl;exact any_of HT_.out (by kernel_rfl);intro w';go_simp;(try simp only [i64_w]);with_reducible rfl;dsimp only [s0,s1];rfl)|(refine Ord.takeL (v:=?_) (l':=?_) (t':=?_) rfl rfl (fun _ _ _ h=>h) hHeld (by kernel_rfl) ?_ ?_ ?_ ?_ ?_;rotate_left 3;dsimp only [s0,s1];rfl;exact take_ofW HT_.out HW_.out (by kernel_rfl);rintro w' ⟨s0,s1⟩;go_simp;with_reducible rfl;dsimp only [s0,s1];rfl))
          refine Ord.nil ?_
          refine done_ (done_of HT_.out (by kernel_rfl)) ?_
          clear hHeld
          try go_wp2
          go_roundg (kk - (jj + 1))
          case measure => omega
          case rel =>
           refine ⟨jj+1,by omega,by omega,by go_num,HB,⟨fun j hj=>?_⟩⟩
           by_cases e : j = jj
           ·subst e
            simp
           ·exact HA2.out j (by omega)
         ·have hj2b:decide ((jj:Int) < (kk:Int))=false:=decide_eq_false (by omega)
          obtain rfl : jj = kk := by omega
          have HMT:Aside0 (mapAt (wrap64 (wrap64 (a * b) - 1)) M T jj=true):=⟨by rw [HMA.out,all_range HA2.out];simp⟩
          go_wp2
          go_roundg (M.length - (jj + 1))
          case measure => omega
          case rel =>
           refine ⟨jj+1,by omega,by omega,by go_num,HB,⟨fun j hj=>?_⟩⟩
           by_cases e : j = jj
           ·subst e
            exact HMT.out
           ·exact HA.out j (by omega)
      ·have cn1 : decide (y < 0) = false := decide_eq_false cn
       have cn2:decide (0≤y)=true:=decide_eq_true (by omega)
       rw [cn1, cn2] at HMA
       clear cn
       go_upto_region 6 with (fail)
       have n0_ := Aside0.mk (below_drew1 HB.out)
       clear HB
       have HB := n0_
       clear n0_
       refine start_ (n:=38) (S:=fun w'=>w'.cell? ⟨g,8,none⟩=some (.int .i64 a)∧w'.cell? ⟨g,9,none⟩=some (.int .i64 b)∧w'.cell? ⟨g,10,none⟩=some (.slice (some ad) M.length c10)∧w'.cell? ⟨g,11,none⟩=some (.slice (some adt) T.length c11)∧w'.cell? (ad.add kk)=some (.int .i64 y)∧w'.cell? (adt.add kk)=some (.bool t)) (ds:=[]) #[false,false,false,false,false,false,false,false,false,false,false,false,false,false,false,false,false,false,false,false,false,false,false,false,false,false,false,false,false,false,false,false,false,false,false,false,false,false] (by kernel_rfl) rfl rfl (HS6.out _ HB.out) (fun hHeld=>?_)
       refine with_tabW l09r6.tab l09r6.bits (fun HT_ HW_=>?_)
       generalize World.drew _ = W5 at HB hHeld ⊢
       refine ord_ [(1,0,some 42),(1,1,some 43),(1,2,some 44),(1,4,some 46),(1,7,some 49),(1,8,some 50),(1,9,some 51),(1,11,some 53),(1,12,some 54),(1,13,some 55),(2,3,some 45),(1,5,some 47),(2,6,some 48),(2,10,some 52),(2,14,some 56),(1,15,some 57),(1,16,some 58)] ?_
       repeat (first|(refine Ord.pureL (v:=?_) (l':=?_) (t':=?_) rfl rfl (fun _ _ _ h=>h) (by kernel_rfl) ?_ ?_ ?_ ?_ ?_;rotate_left 3;dsimp only [s0,s1];rfl;exact any_of HT_.out (by kernel_rfl);intro w';go_simp;(try simp only [i64_w]);with_reducible rfl;dsimp only [s0,s1];rfl)|(refine Ord.takeL (v:=?_) (l':=?_) (t':=?_) rfl rfl (fun _ _ _ h=>h) hHeld (by kernel_rfl) ?_ ?_ ?_ ?_ ?_;rotate_left 3;dsimp only [s0,s1];rfl;exact take_ofW HT_.out HW_.out (by kernel_rfl);rintro w' ⟨s0,s1,s2,s3,s4,s5⟩;go_simp;with_reducible rfl;dsimp only [s0,s1];rfl))
       refine Ord.nil ?_
       refine one_ (i:=17) (N:=some 59) #[true,true,true,true,true,true,true,true,true,true,true,true,true,true,true,true,true,true,false,false,false,false,false,false,false,false,false,false,false,false,false,false,false,false,false,false,false,false] rfl rfl (one_of HT_.out (by kernel_rfl)) (by decide) (fun K hK=>?_)
       refine goes_ Try.func47 (by kernel_rfl) rfl #[.int .i64 y,.int .i64 (-1),.int .i64 (wrap64 (wrap64 (a * b) - 1))] (by rfl) rfl rfl (by simp only [mAXMidMap_,List.map_cons,List.map_nil];rfl) ?_
       with_reducible refine (HY.out _).mono ?_
       rintro e W6 ⟨rfl, hb⟩
       refine ⟨_, rfl, ?_⟩
       have n0_ := Aside0.mk (below_step HB.out hb)
       clear HB hb
       have HB := n0_
       clear n0_
       refine hK.out _ _ (HS6.out _ HB.out) (fun hHeld => ?_)
       clear hK K
       refine norm_ (a' := ?_) ?_ ?_
       rotate_left
       ·show Act.put _ (some 59) _ = _
        simp only [Act.put,lSXMidMap_,lZXMidMap_,lCXMidMap_,i64_w,i32_w]
        rfl
       refine ord_ [(1,18,some 60),(1,19,some 61),(1,20,some 62),(1,21,some 63),(1,22,some 64),(1,24,some 66),(2,23,some 65),(1,25,some 67),(2,26,some 68),(1,27,some 69),(1,28,some 70),(0,29,some 71),(0,30,some 72),(0,31,some 73),(0,32,some 74),(0,33,some 75),(0,34,some 76),(0,35,some 77),(1,36,some 78),(1,37,some 79)] ?_
       repeat (first|(refine Ord.offL (l':=?_) (t':=?_) rfl rfl (fun _ _ _ h=>h) (by kernel_rfl) ?_ ?_ ?_ ?_;rotate_left 2;dsimp only [s0,s1];rfl;exact any_of HT_.out (by kernel_rfl);dsimp only [s0,s1];rfl)|(refine Ord.pureL (v:=?_) (l':=?_) (t':=?_) rfl rfl (fun _ _ _ h=>h) (by kernel_rfl) ?_ ?_ ?_ ?_ ?_;rotate_left 3;dsimp only [s0,s1];rfl;exact any_of HT_.out (by kernel_rfl);intro w';go_simp;(try simp only [i64_w]);with_reducible rfl;dsimp only [s0,s1];rfl)|(refine Ord.takeL (v:=?_) (l':=?_) (t':=?_) rfl rfl (fun _ _ _ h=>h) hHeld (by kernel_rfl) ?_ ?_ ?_ ?_ ?_;rotate_left 3;dsimp only [s0,s1];rfl;exact take_ofW HT_.out HW_.out (by kernel_rfl);rintro w' ⟨s0,s1,s2,s3,s4,s5⟩;go_simp;with_reducible rfl;dsimp only [s0,s1];rfl))
       refine Ord.nil ?_
       refine done_ (done_of HT_.out (by kernel_rfl)) ?_
       clear hHeld
       try go_wp2
       go_loopg [4] kk (fun gg2 s4 wr2=>∃ jj:Nat,jj≤kk∧kk - jj≤gg2∧s4=.int .i64 jj∧Aside0 (Below w.heap.size w wr2)∧Aside0 (∀ j:Nat,j < jj→(!(true && rd M j == y))=true))
       case atStart=>exact ⟨0,Nat.zero_le _,by omega,rfl,HB,⟨fun j hj=>absurd hj (Nat.not_lt_zero _)⟩⟩
       case round =>
        clear HB
        obtain ⟨jj, hjj, hg2, rfl, HB, HA2⟩ := hrel
        by_cases hj2 : jj < kk
        ·have hj2b:decide ((jj:Int) < (kk:Int))=true:=decide_eq_true (by omega)
         have hjM:(jj:Int) < (M.length:Int):=by omega
         have hjMb:decide ((jj:Int) < (M.length:Int))=true:=decide_eq_true hjM
         have hz := HIX.out jj (by omega)
         have LZ := World.block_lt_of_cell? w _ hz
         obtain ⟨z,hrz⟩:∃ z:Int,rd M jj=z:=⟨_,rfl⟩
         rw [hrz] at hz
         have HRZ := Aside0.mk hrz
         clear hrz
         have HS11:Aside0 (∀ w',Below w.heap.size w w'→(w'.cell? ⟨g,10,none⟩=some (.slice (some ad) M.length c10)∧w'.cell? (ad.add kk)=some (.int .i64 y)∧w'.cell? (ad.add jj)=some (.int .i64 z))):=⟨fun w' hb=>by
          obtain ⟨y8,y9,y10,y11,y12,y13⟩:=HS6.out _ hb
          exact ⟨y10, y12, (hb.cell LZ).trans hz⟩⟩
         clear hz LZ
         cases ce : (z == y) with
         | true =>
          have HMF:Aside0 (mapAt (wrap64 (wrap64 (a * b) - 1)) M T kk=false):=⟨by rw [HMA.out,not_all_range (j:=jj) hj2 (by rw [HRZ.out,ce];rfl)];simp⟩
          go_upto_region 11 with (fail)
          have n0_ := Aside0.mk (below_drew1 HB.out)
          clear HB
          have HB := n0_
          clear n0_
          refine start_ (n:=25) (S:=fun w'=>w'.cell? ⟨g,10,none⟩=some (.slice (some ad) M.length c10)∧w'.cell? (ad.add kk)=some (.int .i64 y)∧w'.cell? (ad.add jj)=some (.int .i64 z)) (ds:=[]) #[false,false,false,false,false,false,false,false,false,false,false,false,false,false,false,false,false,false,false,false,false,false,false,false,false] (by kernel_rfl) rfl rfl (HS11.out _ HB.out) (fun hHeld=>?_)
          refine with_tabW l09r11.tab l09r11.bits (fun HT_ HW_=>?_)
          generalize World.drew _ = W5 at HB hHeld ⊢
          refine ord_ [(1,0,some 85),(1,1,some 86),(1,2,some 87),(1,4,some 89),(2,3,some 88),(1,5,some 90),(2,6,some 91),(1,7,some 92),(1,8,some 93),(1,9,some 94),(1,10,some 95),(1,11,some 96),(1,13,some 98),(1,16,some 101),(1,17,some 102),(1,18,some 103),(1,20,some 105),(2,12,some 97),(1,14,some 99),(2,15,some 100),(2,19,some 104),(1,21,some 106),(2,22,some 107),(1,23,some 108),(1,24,some 109)] ?_
          repeat (first|(refine Ord.pureL (v:=?_) (l':=?_) (t':=?_) rfl rfl (fun _ _ _ h=>h) (by kernel_rfl) ?_ ?_ ?_ ?_ ?_;rotate_left 3;dsimp only [s0,s1];rfl;exact any_of HT_.out (by kernel_rfl);intro w';go_simp;(try simp only [i64_w]);with_reducible rfl;dsimp only [s0,s1];rfl)|(refine Ord.takeL (v:=?_) (l':=?_) (t':=?_) rfl rfl (fun _ _ _ h=>h) hHeld (by kernel_rfl) ?_ ?_ ?_ ?_ ?_;rotate_left 3;dsimp only [s0,s1];rfl;exact take_ofW HT_.out HW_.out (by kernel_rfl);rintro w' ⟨s0,s1,s2⟩;go_simp;with_reducible rfl;dsimp only [s0,s1];rfl))
          refine Ord.nil ?_
          refine done_ (done_of HT_.out (by kernel_rfl)) ?_
          have HF:=Aside0.mk (not_all_range (p:=mapAt (wrap64 (wrap64 (a * b) - 1)) M T) hlt HMF.out)
          try go_wp2
          go_ret
          exact ⟨by rw [HF.out]; rfl, HB.out⟩
         | false =>
          have CE := Aside0.mk ce
          go_upto_region 11 with (fail)
          have n0_ := Aside0.mk (below_drew1 HB.out)
          clear HB
          have HB := n0_
          clear n0_
          refine start_ (n:=25) (S:=fun w'=>w'.cell? ⟨g,10,none⟩=some (.slice (some ad) M.length c10)∧w'.cell? (ad.add kk)=some (.int .i64 y)∧w'.cell? (ad.add jj)=some (.int .i64 z)) (ds:=[]) #[false,false,false,false,false,false,false,false,false,false,false,false,false,false,false,false,false,false,false,false,false,false,false,false,false] (by kernel_rfl) rfl rfl (HS11.out _ HB.out) (fun hHeld=>?_)
          refine with_tabW l09r11.tab l09r11.bits (fun HT_ HW_=>?_)
          generalize World.drew _ = W5 at HB hHeld ⊢
          refine ord_ [(1,0,some 85),(1,1,some 86),(1,2,some 87),(1,4,some 89),(2,3,some 88),(1,5,some 90),(2,6,some 91),(1,7,some 92),(1,8,some 93),(1,9,some 94),(1,10,some 95),(1,11,some 96),(1,13,some 98),(1,16,some 101),(1,17,some 102),(1,18,some 103),(1,20,some 105),(2,12,some 97),(1,14,some 99),(2,15,some 100),(2,19,some 104),(1,21,some 106),(2,22,some 107),(1,23,some 108),(1,24,some 109)] ?_
          repeat (first|(refine Ord.pureL (v:=?_) (l':=?_) (t':=?_) rfl rfl (fun _ _ _ h=>h) (by kernel_rfl) ?_ ?_ ?_ ?_ ?_;rotate_left 3;dsimp only [s0,s1];rfl;exact any_of HT_.out (by kernel_rfl);intro w';go_simp;(try simp only [i64_w]);with_reducible rfl;dsimp only [s0,s1];rfl)|(refine Ord.takeL (v:=?_) (l':=?_) (t':=?_) rfl rfl (fun _ _ _ h=>h) hHeld (by kernel_rfl) ?_ ?_ ?_ ?_ ?_;rotate_left 3;dsimp only [s0,s1];rfl;exact take_ofW HT_.out HW_.out (by kernel_rfl);rintro w' ⟨s0,s1,s2⟩;go_simp;with_reducible rfl;dsimp only [s0,s1];rfl))
          refine Ord.nil ?_
          refine done_ (done_of HT_.out (by kernel_rfl)) ?_
          clear hHeld
          try go_wp2
          go_roundg (kk - (jj + 1))
          case measure => omega
          case rel =>
           refine ⟨jj+1,by omega,by omega,by go_num,HB,⟨fun j hj=>?_⟩⟩
           by_cases e : j = jj
           ·subst e
            simp [HRZ.out, CE.out]
           ·exact HA2.out j (by omega)
        ·have hj2b:decide ((jj:Int) < (kk:Int))=false:=decide_eq_false (by omega)
         obtain rfl : jj = kk := by omega
         have HMT:Aside0 (mapAt (wrap64 (wrap64 (a * b) - 1)) M T jj=true):=⟨by rw [HMA.out,all_range HA2.out];simp⟩
         go_wp2
         go_roundg (M.length - (jj + 1))
         case measure => omega
         case rel =>
          refine ⟨jj+1,by omega,by omega,by go_num,HB,⟨fun j hj=>?_⟩⟩
          by_cases e : j = jj
          ·subst e
           exact HMT.out
          ·exact HA.out j (by omega)
    ·have hlti : ¬ (kk : Int) < (M.length : Int) := by omega
     have hltb:decide ((kk:Int) < (M.length:Int))=false:=decide_eq_false hlti
     obtain rfl : kk = M.length := by omega
     have HF := Aside0.mk (all_range HA.out)
     go_wp2
     go_ret
     exact ⟨by rw [HF.out]; rfl, HB.out⟩
end Go.Proofs.Ytajocpalpnpmdaa.Q
