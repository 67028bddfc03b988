/- The contract of the program's ValidDevice. Conditions: those before each theorem. -/
import Derived.Test.YtdjbphffibcbeaaSeen
import Derived.Test.YtdjbphffibcbeaaXZoneI
import Derived.Test.YtdjbphffibcbeaaXFlash
namespace Go.Proofs.Ytdjbphffibcbeaa.Q
open Go.RowKit Go.Maps Go.Proofs.YtdjbphffibcbeaaW.PrintWords Go.Proofs.YtdjbphffibcbeaaW.PrintMore Go.Proofs.YtdjbphffibcbeaaW.PrintLast
abbrev kNXValidDevice_ := @blk_drewN
abbrev kDXValidDevice_ := @blk_drew
abbrev rNXValidDevice_ := @Kd.R_drewN
abbrev bAXValidDevice_ := @below_alloc
abbrev bNXValidDevice_ := @pw_below_drewN
abbrev bDXValidDevice_ := @below_drew1
abbrev bSXValidDevice_ := @below_set
abbrev mkXValidDevice_ := @Aside0.mk
abbrev fZXValidDevice_ := @blk_frozen
abbrev sBXValidDevice_ := @Kd.S_below
abbrev bTXValidDevice_ := @below_step
abbrev bZXValidDevice_ := @below_size
set_option linter.unusedVariables false
theorem mapT : Try.prog.underlying 57 = some (.map 2 4) := by kernel_rfl
theorem boolT : Try.prog.underlying 4 = some .bool := by kernel_rfl
theorem intT : Try.prog.underlying 2 = some (.int .i64) := by kernel_rfl
set_option maxRecDepth 100000 in
theorem zeroT (w : World) : (zeroValue 4).run Try.prog w = .ok (.bool false) w := by kernel_rfl
set_option maxRecDepth 100000 in
theorem seen_run {W:World} {B n:Nat} {xs:List Int} {s:Int} {c:Bool} (h:W.ownsMap Try.prog 2 (plainElem Try.prog 4) B n (seenD xs)) (hs:(Lit.int .i64 s).wf=true) (hc:(xs.any fun x=>x == s)=c) :
  (Instr.lookup 57 (.map (some B)) (.int .i64 s) false).run Try.prog W = .ok (.bool c) W := by
 obtain ⟨d, h1, h2⟩ := lookup_bool h (int_keyed intT) mapT boolT (zeroT W) (keyOf_int_mk intT hs)
 rw [seen_at] at h2
 have h3 : (xs.any fun x => x == s) = d := by injection h2 with h4; injection h4
 rw [h1, ← h3, hc]
end Go.Proofs.Ytdjbphffibcbeaa.Q
namespace Go.Proofs.Ytdjbphffibcbeaa.Q
open Go.RowKit Go.Maps Go.Proofs.YtdjbphffibcbeaaW.PrintWords Go.Proofs.YtdjbphffibcbeaaW.PrintMore Go.Proofs.YtdjbphffibcbeaaW.PrintLast
set_option linter.unusedVariables false
set_option linter.unusedSimpArgs false
def freshB : List Int → List Int → Bool
 | _, [] => true
 | pre, y :: l => !(pre.any fun q => q == y) && freshB (pre ++ [y]) l
def zoneB (d b p:Int) (L:List (S68)) (x:S50):Bool:=placesB d b x.f1 && (contB d p x && zstateB p L x)
def zonesB (d b p : Int) (L : List (S68)) : List Int → List (S50) → Bool
 | _, [] => true
 | pre, x :: l => zoneB d b p L x && (freshB pre x.f1 && zonesB d b p L (pre ++ x.f1) l)
def devB (d b p:Int) (L:List (S68)) (u v z:Int) (Zs:List (S50)):Bool:=flashB d b p L u v z && (decide (1≤(Zs.length:Int)∧(Zs.length:Int)≤(if b < 12 then b else 12)) && zonesB d b p L [] Zs)
theorem rdZ_get (l:List (S50)) (i:Nat) (h:i < l.length):rd_T50 l (i:Int)=l[i]:=by simp [rd_T50,h]
theorem flash_bounds {d b p:Int} {L:List (S68)} {u v z:Int} (h:flashB d b p L u v z=true):(2≤d∧d≤3)∧(4≤b∧b≤12)∧(p=8∨p=16)∧(L.length:Int)=wrap64 (d * b):=by
 unfold flashB geoB at h
 simp only [Bool.and_eq_true, Bool.or_eq_true, decide_eq_true_eq] at h
 exact ⟨h.1.1, h.1.2.1, h.1.2.2, h.2.1⟩
theorem seenZ_snoc (pre l:List Int) (j:Nat) (h:j < l.length):seenD (pre ++ l.take (j+1))=(seenD (pre ++ l.take j)).put (.int .i64 (rd l (j:Int))) (.lit (.bool true)):=by
 rw [List.take_succ_eq_append_getElem h,← List.append_assoc,show rd l (j:Int)=l[j] from by simp [rd,h]]
 exact seenD_snoc _ _
set_option maxHeartbeats 16000000 in
set_option maxRecDepth 100000 in
theorem dev_core (d b p:Int) (A3:Option Addr) (c3:Nat) (L:List (S68)) (u v:Int) (o:Bool) (z:Int) (A8:Option Addr) (c8:Nat) (Zs:List (S50)) (lm:Int) (bF bW r:Bool) (w:World) (hrL:Kd.C k68 w A3 L.length L) (hr8:Kd.C k50 w A8 Zs.length Zs)
  (hF:∀ W,Below w.heap.size w W→Calls Try.prog 22 #[.agg #[.int .i64 d,.int .i64 b,.int .i64 p,.slice A3 L.length c3,.int .i64 u,.int .i64 v,.bool o,.int .i64 z]] W fun e w'=>e=.returned (.bool bF)∧Below W.heap.size W w')
  (hW:∀ W,Calls Try.prog 23 #[.int .i64 (Zs.length:Int),.int .i64 1,.int .i64 lm] W fun e w'=>e=.returned (.bool bW)∧Below W.heap.size W w')
  (hfl:bF=true→(2≤d∧d≤3)∧(4≤b∧b≤12)∧(L.length:Int)=wrap64 (d * b)) (hmin:(if b < 12 then b else 12)=lm) (hnz:bW=true→(Zs.length:Int)≤lm)
  (hr : (bF && (bW && zonesB d b p L [] Zs)) = r) :
  Calls Try.prog 8 #[.agg #[.int .i64 d,.int .i64 b,.int .i64 p,.slice A3 L.length c3,.int .i64 u,.int .i64 v,.bool o,.int .i64 z,.slice A8 Zs.length c8]] w fun e w'=>e=.returned (.bool r)∧Below w.heap.size w w':=by
 have HF := Aside0.mk hF
 have HW := Aside0.mk hW
 have HRL := Aside0.mk hrL
 have HR8 := Aside0.mk hr8
 have HFL := Aside0.mk hfl
 have HNZ := Aside0.mk hnz
 have HLM : Aside0 (lm ≤ 12) := ⟨by rw [← hmin]; split <;> omega⟩
 have hbig := hr8.2.1
 have hmm := @run_makeMap Try.prog
 have hu35 := Try.underlying35
 have hu50 := Try.underlying50
 clear hF hW hrL hr8 hfl hnz
 go_enter Try.func8, Try.ntmps8
 go_upto_region 1 with (first|((with_reducible refine gate_dst (N:=1) rfl ?_);(try (refine gate_guard (by rfl) ?_;dsimp only));refine box_event ?hg (N:=1) ?hd (cs:=#[.int .i64 d,.int .i64 b,.int .i64 p,.slice A3 L.length c3,.int .i64 u,.int .i64 v,.bool o,.int .i64 z,.slice A8 Zs.length c8]) (t:=38) ?hr ?_;(case hd=>rfl);(case hg=>rfl);(case hr=>first|(go_simp;done)|(go_simp;rfl));intro g hg W1 hbox hb;have LG:=blk_lt hbox;have HT:Aside0 (∀ W,Below W1.heap.size W1 W→Below w.heap.size w W):=⟨fun W h=>hb.trans (h.mono hb.size)⟩;have HDB:=mkXValidDevice_ hbox;have HSS:Aside0 (∀ w',Below W1.heap.size W1 w'→(w'.cell? ⟨g,0,none⟩=some (.int .i64 d)∧w'.cell? ⟨g,1,none⟩=some (.int .i64 b)∧w'.cell? ⟨g,2,none⟩=some (.int .i64 p)∧w'.cell? ⟨g,3,none⟩=some (.slice A3 L.length c3)∧w'.cell? ⟨g,4,none⟩=some (.int .i64 u)∧w'.cell? ⟨g,5,none⟩=some (.int .i64 v)∧w'.cell? ⟨g,6,none⟩=some (.bool o)∧w'.cell? ⟨g,7,none⟩=some (.int .i64 z)∧w'.cell? ⟨g,8,none⟩=some (.slice A8 Zs.length c8))):=⟨fun w' h=>⟨(h.cell LG).trans ((blk_cell hbox 0).trans rfl),(h.cell LG).trans ((blk_cell hbox 1).trans rfl),(h.cell LG).trans ((blk_cell hbox 2).trans rfl),(h.cell LG).trans ((blk_cell hbox 3).trans rfl),(h.cell LG).trans ((blk_cell hbox 4).trans rfl),(h.cell LG).trans ((blk_cell hbox 5).trans rfl),(h.cell LG).trans ((blk_cell hbox 6).trans rfl),(h.cell LG).trans ((blk_cell hbox 7).trans rfl),(h.cell LG).trans ((blk_cell hbox 8).trans rfl)⟩⟩;have HB:=mkXValidDevice_ (Below.refl W1.heap.size W1);clear hb hbox hg LG;(try simp only [Act.put,List.setIfInBounds_toArray,List.set_cons_zero,List.set_cons_succ])))
 (try simp only [Act.put, List.setIfInBounds_toArray, List.set_cons_zero, List.set_cons_succ])
 obtain ⟨z0, z1, z2, z3, z4, z5, z6, z7, z8⟩ := HSS.out _ HB.out
 cases bF with
 | false =>
  obtain rfl : r = false := hr.symm.trans (by first | rfl | simp)
  clear hr
  go_wp2_with (first|(go_at_call 22;with_reducible refine Calls.mono (HF.out _ (HT.out _ HB.out)) ?_;rintro e W6 ⟨rfl,hb⟩;have n0_:=mkXValidDevice_ (bTXValidDevice_ HB.out hb);clear HB hb;have HB:=n0_;clear n0_;clear z0 z1 z2 z3 z4 z5 z6 z7 z8;obtain ⟨z0,z1,z2,z3,z4,z5,z6,z7,z8⟩:=HSS.out _ HB.out)|(go_at_call 23;with_reducible refine Calls.mono (HW.out _) ?_;rintro e W7 ⟨rfl,hb⟩;have n0_:=mkXValidDevice_ (bTXValidDevice_ HB.out hb);clear HB hb;have HB:=n0_;clear n0_;skip))
  go_ret
  exact ⟨rfl, HT.out _ HB.out⟩
 | true =>
  cases bW with
  | false =>
   obtain rfl : r = false := hr.symm.trans (by first | rfl | simp)
   clear hr
   go_wp2_with (first|(go_at_call 22;with_reducible refine Calls.mono (HF.out _ (HT.out _ HB.out)) ?_;rintro e W6 ⟨rfl,hb⟩;have n0_:=mkXValidDevice_ (bTXValidDevice_ HB.out hb);clear HB hb;have HB:=n0_;clear n0_;clear z0 z1 z2 z3 z4 z5 z6 z7 z8;obtain ⟨z0,z1,z2,z3,z4,z5,z6,z7,z8⟩:=HSS.out _ HB.out)|(go_at_call 23;with_reducible refine Calls.mono (HW.out _) ?_;rintro e W7 ⟨rfl,hb⟩;have n0_:=mkXValidDevice_ (bTXValidDevice_ HB.out hb);clear HB hb;have HB:=n0_;clear n0_;skip))
   go_ret
   exact ⟨rfl, HT.out _ HB.out⟩
  | true =>
   rw [Bool.true_and, Bool.true_and] at hr
   have HE := Aside0.mk hr
   clear hr
   replace HFL := Aside0.mk (HFL.out rfl)
   replace HNZ := Aside0.mk (HNZ.out rfl)
   go_upto_region 4 with (first|(go_at_call 22;with_reducible refine Calls.mono (HF.out _ (HT.out _ HB.out)) ?_;rintro e W6 ⟨rfl,hb⟩;have n0_:=mkXValidDevice_ (bTXValidDevice_ HB.out hb);clear HB hb;have HB:=n0_;clear n0_;clear z0 z1 z2 z3 z4 z5 z6 z7 z8;obtain ⟨z0,z1,z2,z3,z4,z5,z6,z7,z8⟩:=HSS.out _ HB.out)|(go_at_call 23;with_reducible refine Calls.mono (HW.out _) ?_;rintro e W7 ⟨rfl,hb⟩;have n0_:=mkXValidDevice_ (bTXValidDevice_ HB.out hb);clear HB hb;have HB:=n0_;clear n0_;have hM:=mkXValidDevice_ (World.ownsMap_made (H:=Unit) W7 Try.prog 2 (plainElem Try.prog 4))))
   (try simp only [Act.put, List.setIfInBounds_toArray, List.set_cons_zero, List.set_cons_succ])
   clear z0 z1 z2 z3 z4 z5 z6 z7 z8
   have HBM:Aside0 (Below W1.heap.size W1 (W7.alloc (.map #[] 0))∧W1.heap.size≤W7.heap.size):=⟨HB.out.alloc HB.out.size _,HB.out.size⟩
   clear HB HF HW hmm
   generalize W7.alloc (.map #[] 0) = W8 at hM HBM ⊢
   generalize W7.heap.size = M at hM HBM ⊢
   have HB := Aside0.mk HBM.out.1
   have HMB := Aside0.mk HBM.out.2
   clear HBM
   clear hmin
   obtain ⟨z0, z1, z2, z3, z4, z5, z6, z7, z8⟩ := HSS.out _ HB.out
   go_wp2
   clear z0 z1 z2 z3 z4 z5 z6 z7 z8
   go_loopg [5,7,28] Zs.length (fun gg _ _ s28 wr=>∃ (kk:Nat) (pre:List Int),kk≤Zs.length∧Zs.length - kk≤gg∧s28=.int .i64 kk∧pre.length≤3 * kk∧Aside0 (zonesB d b p L pre (Zs.drop kk)=r)∧Aside0 (wr.ownsMap Try.prog 2 (plainElem Try.prog 4) M pre.length (seenD pre))∧Aside0 (Below W1.heap.size W1 wr))
   case atStart=>exact ⟨0,[],Nat.zero_le _,by omega,rfl,Nat.zero_le _,⟨by rw [List.drop_zero];exact HE.out⟩,hM,HB⟩
   case round =>
    clear HB hM HE
    obtain ⟨kk, pre, hkk, hg, rfl, hpl, HE, HM, HB⟩ := hrel
    by_cases hlt : kk < Zs.length
    ·have hlti : (kk : Int) < (Zs.length : Int) := by omega
     have hltb : decide ((kk : Int) < (Zs.length : Int)) = true := decide_eq_true hlti
     have HX:Aside0 (Zs.drop kk=rd_T50 Zs (kk:Int)::Zs.drop (kk+1)):=⟨by rw [rdZ_get Zs kk hlt];exact List.drop_eq_getElem_cons hlt⟩
     obtain ⟨ad,B1,e1,B4,e4,B5,e5,hA,f0,f1,f2,f3,f4,f5,l1,C1,l4,C4,l5,C5⟩:=at_T50 HR8.out (kk:Int) (by omega) (by omega)
     subst hA
     rw [Int.toNat_natCast] at f0 f1 f2 f3 f4 f5
     generalize rd_T50 Zs (kk : Int) = x at f0 f1 f2 f3 f4 f5 l1 C1 l4 C4 l5 C5 HX
     have HBW := Aside0.mk (HT.out _ HB.out)
     replace f0 := pw_cell_below HBW.out f0
     replace f1 := pw_cell_below HBW.out f1
     replace f2 := pw_cell_below HBW.out f2
     replace f3 := pw_cell_below HBW.out f3
     replace f4 := pw_cell_below HBW.out f4
     replace f5 := pw_cell_below HBW.out f5
     clear HBW
     have HC1 := Aside0.mk C1
     have HCL := Aside0.mk (And.intro C4 C5)
     have HLL := Aside0.mk (And.intro l1 (And.intro l4 l5))
     clear C1 C4 C5 l1 l4 l5
     have HRR:Aside0 ((zoneB d b p L x && (freshB pre x.f1 && zonesB d b p L (pre ++ x.f1) (Zs.drop (kk+1))))=r):=⟨by rw [← HE.out,HX.out];rfl⟩
     clear HE HX
     have hbig1 := HC1.out.2.1
     go_upto_region 7 with (fail)
     (try simp only [Act.put,List.setIfInBounds_toArray,List.set_cons_zero,List.set_cons_succ])
     have HB5:Aside0 (Below W1.heap.size W1 (wr.alloc (.cells #[.int .i64 x.f0,.slice B1 x.f1.length e1,.int .i64 x.f2,.int .i64 x.f3,.slice B4 x.f4.length e4,.slice B5 x.f5.length e5] 50))):=⟨HB.out.alloc HB.out.size _⟩
     have hblk:(wr.alloc (.cells #[.int .i64 x.f0,.slice B1 x.f1.length e1,.int .i64 x.f2,.int .i64 x.f3,.slice B4 x.f4.length e4,.slice B5 x.f5.length e5] 50)).heap[wr.heap.size]?=some (.cells #[.int .i64 x.f0,.slice B1 x.f1.length e1,.int .i64 x.f2,.int .i64 x.f3,.slice B4 x.f4.length e4,.slice B5 x.f5.length e5] 50 (0,0)):=blk_new wr _
     have HO5:=mkXValidDevice_ (HM.out.alloc (.cells #[.int .i64 x.f0,.slice B1 x.f1.length e1,.int .i64 x.f2,.int .i64 x.f3,.slice B4 x.f4.length e4,.slice B5 x.f5.length e5] 50))
     clear HB HM f0 f1 f2 f3 f4 f5
     generalize wr.alloc (.cells #[.int .i64 x.f0,.slice B1 x.f1.length e1,.int .i64 x.f2,.int .i64 x.f3,.slice B4 x.f4.length e4,.slice B5 x.f5.length e5] 50)=W4 at HB5 hblk HO5 ⊢
     generalize wr.heap.size = gz at hblk ⊢
     have LZ : gz < W4.heap.size := blk_lt hblk
     have HS7:Aside0 (∀ w',Below W4.heap.size W4 w'→(w'.cell? ⟨gz,0,none⟩=some (.int .i64 x.f0)∧w'.cell? ⟨gz,1,none⟩=some (.slice B1 x.f1.length e1)∧w'.cell? ⟨gz,2,none⟩=some (.int .i64 x.f2)∧w'.cell? ⟨gz,3,none⟩=some (.int .i64 x.f3)∧w'.cell? ⟨gz,4,none⟩=some (.slice B4 x.f4.length e4)∧w'.cell? ⟨gz,5,none⟩=some (.slice B5 x.f5.length e5))):=⟨fun w' h=>⟨(h.cell LZ).trans ((blk_cell hblk 0).trans rfl),(h.cell LZ).trans ((blk_cell hblk 1).trans rfl),(h.cell LZ).trans ((blk_cell hblk 2).trans rfl),(h.cell LZ).trans ((blk_cell hblk 3).trans rfl),(h.cell LZ).trans ((blk_cell hblk 4).trans rfl),(h.cell LZ).trans ((blk_cell hblk 5).trans rfl)⟩⟩
     clear LZ hblk
     have HTT:Aside0 (∀ W,Below W4.heap.size W4 W→Below W1.heap.size W1 W):=⟨fun W h=>HB5.out.trans (h.mono HB5.out.size)⟩
     have HP:Aside0 (∀ W,Below W4.heap.size W4 W→Calls Try.prog 24 #[.pointer (some ⟨g,0,none⟩),.agg #[.int .i64 x.f0,.slice B1 x.f1.length e1,.int .i64 x.f2,.int .i64 x.f3,.slice B4 x.f4.length e4,.slice B5 x.f5.length e5]] W fun e w'=>e=.returned (.bool (placesB d b x.f1))∧Below W.heap.size W w'):=⟨fun W h=>places_calls g d b p A3 c3 L u v o z (some ad) Zs.length c8 x.f0 B1 e1 x.f1 x.f2 x.f3 B4 x.f4.length e4 B5 x.f5.length e5 W (blk_below HDB.out (HTT.out _ h)) (Kd.C_below HC1.out (HT.out _ (HTT.out _ h))) HLL.out.1⟩
     have HC:Aside0 (∀ W,Below W4.heap.size W4 W→Calls Try.prog 25 #[.pointer (some ⟨g,0,none⟩),.agg #[.int .i64 x.f0,.slice B1 x.f1.length e1,.int .i64 x.f2,.int .i64 x.f3,.slice B4 x.f4.length e4,.slice B5 x.f5.length e5]] W fun e w'=>e=.returned (.bool (contB d p x))∧Below W.heap.size W w'):=⟨fun W h=>contZ_calls g d b p A3 c3 L u v o z (some ad) Zs.length c8 x B1 e1 B4 e4 B5 e5 W (blk_below HDB.out (HTT.out _ h)) (Kd.C_below HC1.out (HT.out _ (HTT.out _ h))) HLL.out.1 (Kd.C_below HCL.out.1 (HT.out _ (HTT.out _ h))) HLL.out.2.1 (Kd.C_below HCL.out.2 (HT.out _ (HTT.out _ h))) HLL.out.2.2⟩
     have HS:Aside0 (placesB d b x.f1=true→∀ W,Below W4.heap.size W4 W→Calls Try.prog 26 #[.pointer (some ⟨g,0,none⟩),.agg #[.int .i64 x.f0,.slice B1 x.f1.length e1,.int .i64 x.f2,.int .i64 x.f3,.slice B4 x.f4.length e4,.slice B5 x.f5.length e5]] W fun e w'=>e=.returned (.bool (zstateB p L x))∧Below W.heap.size W w'):=⟨fun hq W h=>stateZ_calls g d b p A3 c3 L u v o z (some ad) Zs.length c8 x B1 e1 B4 e4 B5 e5 W (blk_below HDB.out (HTT.out _ h)) (Kd.C_below HRL.out (HT.out _ (HTT.out _ h))) (Kd.C_below HC1.out (HT.out _ (HTT.out _ h))) HLL.out.1 (Kd.C_below HCL.out.1 (HT.out _ (HTT.out _ h))) HLL.out.2.1 (Kd.C_below HCL.out.2 (HT.out _ (HTT.out _ h))) HLL.out.2.2 (fun y hy=>by have q1:=(place_in HFL.out.1 HFL.out.2.1 hq).2 y hy;have q2:=HFL.out.2.2;omega)⟩
     have HWF:Aside0 (placesB d b x.f1=true→x.f1.length≤3∧∀ y ∈ x.f1,(Lit.int .i64 y).wf=true):=⟨fun hq=>⟨by have q0:=(place_in HFL.out.1 HFL.out.2.1 hq).1;have q1:=HFL.out.1;omega,fun y hy=>by have q1:=(place_in HFL.out.1 HFL.out.2.1 hq).2 y hy;simp only [Lit.wf,IntKind.min,IntKind.max,IntKind.signed,IntKind.bits,Bool.and_eq_true,decide_eq_true_eq];unfold wrap64 at q1;simp;omega⟩⟩
     have HB := Aside0.mk (Below.refl W4.heap.size W4)
     unfold zoneB at HRR
     generalize placesB d b x.f1 = bP at HP HS HWF HRR
     generalize contB d p x = bC at HC HRR
     generalize zstateB p L x = bS at HS HRR
     generalize hrest : zonesB d b p L (pre ++ x.f1) (Zs.drop (kk + 1)) = rest at HRR
     replace hrest := Aside0.mk hrest
     obtain ⟨z0, z1, z2, z3, z4, z5⟩ := HS7.out _ HB.out
     cases bP with
     | false =>
      have hq0 : false = r := HRR.out
      clear HRR
      subst hq0
      clear HC HS
      go_wp2_with (first|(go_at_call 24;with_reducible refine Calls.mono (HP.out _ HB.out) ?_;rintro e W6 ⟨rfl,hb⟩;have n0_:=mkXValidDevice_ (bTXValidDevice_ HB.out hb);clear HB hb;have HB:=n0_;clear n0_;clear z0 z1 z2 z3 z4 z5;obtain ⟨z0,z1,z2,z3,z4,z5⟩:=HS7.out _ HB.out))
      go_ret
      exact ⟨rfl, HT.out _ (HTT.out _ HB.out)⟩
     | true =>
      replace HS := Aside0.mk (HS.out rfl)
      replace HWF := Aside0.mk (HWF.out rfl)
      cases bC with
      | false =>
       have hq0 : false = r := HRR.out
       clear HRR
       subst hq0
       clear HS
       go_wp2_with (first|(go_at_call 24;with_reducible refine Calls.mono (HP.out _ HB.out) ?_;rintro e W6 ⟨rfl,hb⟩;have n0_:=mkXValidDevice_ (bTXValidDevice_ HB.out hb);clear HB hb;have HB:=n0_;clear n0_;clear z0 z1 z2 z3 z4 z5;obtain ⟨z0,z1,z2,z3,z4,z5⟩:=HS7.out _ HB.out)|(go_at_call 25;with_reducible refine Calls.mono (HC.out _ HB.out) ?_;rintro e W7 ⟨rfl,hb⟩;have n0_:=mkXValidDevice_ (bTXValidDevice_ HB.out hb);clear HB hb;have HB:=n0_;clear n0_;clear z0 z1 z2 z3 z4 z5;obtain ⟨z0,z1,z2,z3,z4,z5⟩:=HS7.out _ HB.out))
       go_ret
       exact ⟨rfl, HT.out _ (HTT.out _ HB.out)⟩
      | true =>
       cases bS with
       | false =>
        have hq0 : false = r := HRR.out
        clear HRR
        subst hq0
        go_wp2_with (first|(go_at_call 24;with_reducible refine Calls.mono (HP.out _ HB.out) ?_;rintro e W6 ⟨rfl,hb⟩;have n0_:=mkXValidDevice_ (bTXValidDevice_ HB.out hb);clear HB hb;have HB:=n0_;clear n0_;clear z0 z1 z2 z3 z4 z5;obtain ⟨z0,z1,z2,z3,z4,z5⟩:=HS7.out _ HB.out)|(go_at_call 25;with_reducible refine Calls.mono (HC.out _ HB.out) ?_;rintro e W7 ⟨rfl,hb⟩;have n0_:=mkXValidDevice_ (bTXValidDevice_ HB.out hb);clear HB hb;have HB:=n0_;clear n0_;clear z0 z1 z2 z3 z4 z5;obtain ⟨z0,z1,z2,z3,z4,z5⟩:=HS7.out _ HB.out)|(go_at_call 26;with_reducible refine Calls.mono (HS.out _ HB.out) ?_;rintro e W8 ⟨rfl,hb⟩;have n0_:=mkXValidDevice_ (bTXValidDevice_ HB.out hb);clear HB hb;have HB:=n0_;clear n0_;clear z0 z1 z2 z3 z4 z5;obtain ⟨z0,z1,z2,z3,z4,z5⟩:=HS7.out _ HB.out))
        go_ret
        exact ⟨rfl, HT.out _ (HTT.out _ HB.out)⟩
       | true =>
        go_upto_region 9 with (first|(go_at_call 24;with_reducible refine Calls.mono (HP.out _ HB.out) ?_;rintro e W6 ⟨rfl,hb⟩;have n0_:=mkXValidDevice_ (bTXValidDevice_ HB.out hb);clear HB hb;have HB:=n0_;clear n0_;clear z0 z1 z2 z3 z4 z5;obtain ⟨z0,z1,z2,z3,z4,z5⟩:=HS7.out _ HB.out)|(go_at_call 25;with_reducible refine Calls.mono (HC.out _ HB.out) ?_;rintro e W7 ⟨rfl,hb⟩;have n0_:=mkXValidDevice_ (bTXValidDevice_ HB.out hb);clear HB hb;have HB:=n0_;clear n0_;clear z0 z1 z2 z3 z4 z5;obtain ⟨z0,z1,z2,z3,z4,z5⟩:=HS7.out _ HB.out)|(go_at_call 26;with_reducible refine Calls.mono (HS.out _ HB.out) ?_;rintro e W8 ⟨rfl,hb⟩;have n0_:=mkXValidDevice_ (bTXValidDevice_ HB.out hb);clear HB hb;have HB:=n0_;clear n0_;clear z0 z1 z2 z3 z4 z5;obtain ⟨z0,z1,z2,z3,z4,z5⟩:=HS7.out _ HB.out))
        clear HP HC HS
        have HE2:Aside0 ((freshB (pre ++ x.f1.take 0) (x.f1.drop 0) && rest)=r):=⟨by rw [← HRR.out,List.take_zero,List.append_nil,List.drop_zero];simp⟩
        have hM2:Aside0 (W8.ownsMap Try.prog 2 (plainElem Try.prog 4) M (pre.length+0) (seenD (pre ++ x.f1.take 0))):=⟨by rw [List.take_zero,List.append_nil,Nat.add_zero];exact HO5.out.kept (grown_of_below HB.out none) (by simp)⟩
        have HBN := Aside0.mk (HTT.out _ HB.out)
        clear HRR HB HO5
        go_wp2
        clear z0 z1 z2 z3 z4 z5
        go_loopg [7,48] x.f1.length (fun g2 _ s48 wr2=>∃ jj:Nat,jj≤x.f1.length∧x.f1.length - jj≤g2∧s48=.int .i64 jj∧Aside0 ((freshB (pre ++ x.f1.take jj) (x.f1.drop jj) && rest)=r)∧Aside0 (wr2.ownsMap Try.prog 2 (plainElem Try.prog 4) M (pre.length+jj) (seenD (pre ++ x.f1.take jj)))∧Aside0 (Below W1.heap.size W1 wr2))
        case atStart => exact ⟨0, Nat.zero_le _, by omega, rfl, HE2, hM2, HBN⟩
        case round =>
         clear HE2 hM2 HBN
         obtain ⟨jj, hjj, hg2, rfl, HE, HM, HB⟩ := hrel
         by_cases hjl : jj < x.f1.length
         ·have hjli : (jj : Int) < (x.f1.length : Int) := by omega
          have hjlb:decide ((jj:Int) < (x.f1.length:Int))=true:=decide_eq_true hjli
          obtain ⟨ad2,hA2,hcell⟩:=Kd.at_int (Kd.C_below HC1.out (HT.out _ HB.out)) (jj:Int) (by omega) (by omega)
          subst hA2
          rw [Int.toNat_natCast] at hcell
          have HG:Aside0 (rd x.f1 (jj:Int) ∈ x.f1):=⟨by rw [show rd x.f1 (jj:Int)=x.f1[jj] from by simp [rd,hjl]];exact List.getElem_mem hjl⟩
          have HY:Aside0 ((!((pre ++ x.f1.take jj).any fun q=>q == rd x.f1 (jj:Int)) && freshB (pre ++ x.f1.take (jj+1)) (x.f1.drop (jj+1)) && rest)=r):=⟨by
           rw [← HE.out,List.drop_eq_getElem_cons hjl,show rd x.f1 (jj:Int)=x.f1[jj] from by simp [rd,hjl],List.take_succ_eq_append_getElem hjl,← List.append_assoc]
           rfl⟩
          have HSN := Aside0.mk (seenZ_snoc pre x.f1 jj hjl)
          have HWY := Aside0.mk (HWF.out.2 _ HG.out)
          have hpn:pre.length+jj≤40:=by have q0:=HWF.out.1;have q1:=HNZ.out;have q2:=HLM.out;omega
          clear HG HE
          generalize rd x.f1 (jj : Int) = y at hcell HY HSN HWY
          cases hs : (pre ++ x.f1.take jj).any fun q => q == y with
          | true =>
           have hlook := seen_run HM.out HWY.out hs
           have hq0 : false = r := by rw [← HY.out, hs]; rfl
           clear HY hs
           subst hq0
           go_wp2
           go_ret
           exact ⟨rfl, HT.out _ HB.out⟩
          | false =>
           have hlook := seen_run HM.out HWY.out hs
           have HE:Aside0 ((freshB (pre ++ x.f1.take (jj+1)) (x.f1.drop (jj+1)) && rest)=r):=⟨by rw [← HY.out,hs];simp⟩
           clear HY hs
           go_wp2_with (first|(at_mapUpdate;refine wpList_mapUpdate_own _ rfl _ _ _ 57 rfl 2 4 (int_keyed intT) mapT _ M (pre.length+jj) _ rfl HM.out (by unfold maxLen;omega) _ _ _ rfl rfl (keyOf_int_mk intT HWY.out) _ [] (plainElem_bool boolT true) ?_;intro w3 hown3 hgrow3))
           go_roundg (x.f1.length - (jj + 1))
           case measure => omega
           case rel=>exact ⟨jj+1,by omega,by omega,by go_num,HE,⟨by rw [HSN.out];exact hown3⟩,⟨HB.out.grown hgrow3 HB.out.size (fun j hj=>by cases hj;exact HMB.out)⟩⟩
         ·have hjli : ¬ (jj : Int) < (x.f1.length : Int) := by omega
          have hjlb:decide ((jj:Int) < (x.f1.length:Int))=false:=decide_eq_false hjli
          have hje : jj = x.f1.length := by omega
          have HE3:Aside0 (zonesB d b p L (pre ++ x.f1) (Zs.drop (kk+1))=r):=⟨by rw [hrest.out,← HE.out,hje,List.take_length,List.drop_length];simp [freshB]⟩
          have HM3:Aside0 (wr.ownsMap Try.prog 2 (plainElem Try.prog 4) M (pre ++ x.f1).length (seenD (pre ++ x.f1))):=⟨by have q:=HM.out;rw [hje,List.take_length] at q;rw [List.length_append];exact q⟩
          have HLP:Aside0 ((pre ++ x.f1).length≤3 * (kk+1)):=⟨by have q0:=HWF.out.1;rw [List.length_append];omega⟩
          clear HE HM hje
          go_wp2
          go_roundg (Zs.length - (kk + 1))
          case measure => omega
          case rel=>exact ⟨kk+1,pre ++ x.f1,by omega,by omega,by go_num,HLP.out,HE3,HM3,HB⟩
    ·have hlti : ¬ (kk : Int) < (Zs.length : Int) := by omega
     have hltb : decide ((kk : Int) < (Zs.length : Int)) = false := decide_eq_false hlti
     have hq0:true=r:=by rw [← HE.out,show kk=Zs.length from by omega,List.drop_length];rfl
     clear HE
     subst hq0
     go_wp2
     go_ret
     exact ⟨rfl, HT.out _ HB.out⟩
def impl_ValidDevice.f (a0_0 a0_1 a0_2:Int) (l0_3:List (S68)) (a0_4 a0_5:Int) (a0_6:Bool) (a0_7:Int) (l0_8:List (S50)):Option Bool:=some (devB a0_0 a0_1 a0_2 l0_3 a0_4 a0_5 a0_7 l0_8)
theorem impl_ValidDevice.calls (a0_0 a0_1 a0_2:Int) (A0_3:Option Addr) (c0_3:Nat) (l0_3:List (S68)) (a0_4 a0_5:Int) (a0_6:Bool) (a0_7:Int) (A0_8:Option Addr) (c0_8:Nat) (l0_8:List (S50)) (r:Bool) (w:World) (hr0_3:Kd.C k68 w A0_3 l0_3.length l0_3) (hc0_3:l0_3.length≤c0_3) (hr0_8:Kd.C k50 w A0_8 l0_8.length l0_8) (hc0_8:l0_8.length≤c0_8) (h:impl_ValidDevice.f a0_0 a0_1 a0_2 l0_3 a0_4 a0_5 a0_6 a0_7 l0_8=some r) :
  Calls Try.prog 8 #[.agg #[.int .i64 a0_0,.int .i64 a0_1,.int .i64 a0_2,.slice A0_3 l0_3.length c0_3,.int .i64 a0_4,.int .i64 a0_5,.bool a0_6,.int .i64 a0_7,.slice A0_8 l0_8.length c0_8]] w fun e w'=>e=.returned (.bool r)∧Below w.heap.size w w':=by
 have h := Option.some.inj h
 unfold devB at h
 refine dev_core a0_0 a0_1 a0_2 A0_3 c0_3 l0_3 a0_4 a0_5 a0_6 a0_7 A0_8 c0_8 l0_8 _ _ _ r w hr0_3 hr0_8 ?_ ?_ ?_ rfl ?_ h
 ·exact fun W hb=>impl_ValidFlash.calls a0_0 a0_1 a0_2 A0_3 c0_3 l0_3 a0_4 a0_5 a0_6 a0_7 _ W (Kd.C_below hr0_3 hb) hc0_3 rfl
 ·exact fun W => inD_calls _ _ _ W
 ·exact fun hf => ⟨(flash_bounds hf).1, (flash_bounds hf).2.1, (flash_bounds hf).2.2.2⟩
 ·exact fun hf => (of_decide_eq_true hf).2
end Go.Proofs.Ytdjbphffibcbeaa.Q
