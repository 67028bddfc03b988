/- The program's ValidFlash: slices.IndexFunc and slices.ContainsFunc over blocks,the closure,and the contract. Conditions: those before each theorem. -/
import Derived.Test.YtajocpalpnpmdaaFlashV
import Derived.Test.YtajocpalpnpmdaaIdx
import Derived.Test.YtajocpalpnpmdaaXOrdL
import Derived.Test.YtajocpalpnpmdaaXAllW
import Derived.Test.YtajocpalpnpmdaaQ5
import Derived.Shelf.Abstract
namespace Go.Proofs.Ytajocpalpnpmdaa.Q
open Go.RowKit Go.Proofs.YtajocpalpnpmdaaW.PrintWords Go.Proofs.YtajocpalpnpmdaaW.PrintMore Go.Proofs.YtajocpalpnpmdaaW.PrintLast
abbrev lSXFlash_ := @List.setIfInBounds_toArray
abbrev lZXFlash_ := @List.set_cons_zero
abbrev lCXFlash_ := @List.set_cons_succ
abbrev mAXFlash_ := @List.map_toArray
abbrev mCXFlash_ := @List.map_cons
abbrev mNXFlash_ := @List.map_nil
set_option linter.unusedVariables false
set_option maxHeartbeats 2000000 in
theorem idxB_calls (A:Option Addr) (c:Nat) (xs:List S92) (w:World) (hr:Kd.C k92 w A xs.length xs) (hc:xs.length≤c) (g:FuncId) (lb:Array Value) (p:S92→Bool)
  (eg:∀ args w,(callFunc g args).run Try.prog w=.ok (.enter g args) w)
  (hp:∀ (W:World) (x:S92) (A3:Option Addr) (c3:Nat),x ∈ xs→Below w.heap.size w W→x.f3.length≤c3→Kd.C Kd.string W A3 x.f3.length x.f3→Calls Try.prog g (#[.agg #[.int .i64 x.f0,.int .i64 x.f1,.bool x.f2,.slice A3 x.f3.length c3]] ++ lb) W fun e w'=>e=.returned (.bool (p x))∧Below w.heap.size w w') :
  Calls Try.prog 72 #[.slice A xs.length c,.func (.func g) #[] lb] w fun e w'=>e=.returned (.int .i64 (idxOf p xs))∧Below w.heap.size w w':=by
 have hbig := hr.2.1
 have hu := Try.underlying92
 go_enter Try.func72, Try.ntmps72
 go_wp2
 go_loopg [5,8] xs.length (fun gg _ s8 wr=>∃ kk:Nat,kk≤xs.length∧xs.length - kk≤gg∧s8=.int .i64 kk∧Aside0 (Below w.heap.size w wr)∧Aside0 (∀ j y,j < kk→xs[j]?=some y→p y=false))
 case atStart=>exact ⟨0,Nat.zero_le _,by omega,rfl,⟨Below.refl _ w⟩,⟨fun j y hj=>absurd hj (Nat.not_lt_zero _)⟩⟩
 case round =>
  obtain ⟨kk, hkk, hg, rfl, BW, HA⟩ := hrel
  by_cases hlt : kk < xs.length
  ·obtain ⟨ad,A3,c3,hA,e0,e1,e2,e3,hl3,hC3⟩:=at_T92 (Kd.C_below hr BW.out) (kk:Int) (by omega) (by omega)
   subst hA
   rw [Int.toNat_natCast,show rd_T92 xs (kk:Int)=xs[kk] from by simp [rd_T92,hlt]] at e0 e1 e2 e3
   rw [show rd_T92 xs (kk:Int)=xs[kk] from by simp [rd_T92,hlt]] at hl3 hC3
   have hlti : (kk : Int) < (xs.length : Int) := by omega
   have hcall:=hp wr xs[kk] A3 c3 (List.getElem_mem _) BW.out hl3 hC3
   have HX := Aside0.mk (List.getElem?_eq_getElem hlt)
   have HR := Aside0.mk hr
   clear hp hr hl3 hC3
   generalize xs[kk] = y at e0 e1 e2 e3 hcall HX
   cases hq : p y with
   | true =>
    rw [hq] at hcall
    have HQ := Aside0.mk hq
    clear hq
    go_wp2_with (go_at_fn g;refine hcall.mono ?_;rintro e w' ⟨rfl,hb'⟩)
    go_ret
    exact ⟨by rw [idxOf_hit p xs kk y HX.out HQ.out HA.out];rfl,hb'⟩
   | false =>
    rw [hq] at hcall
    have HQ := Aside0.mk hq
    clear hq
    go_wp2_with (go_at_fn g;refine hcall.mono ?_;rintro e w' ⟨rfl,hb'⟩)
    go_roundg (xs.length - (kk + 1))
    case measure => omega
    case rel =>
     refine ⟨kk+1,by omega,by omega,by go_num,⟨hb'⟩,⟨fun j z hj hz=>?_⟩⟩
     by_cases e : j = kk
     ·subst e
      have := HX.out.symm.trans hz
      simp only [Option.some.injEq] at this
      rw [← this]
      exact HQ.out
     ·exact HA.out j z (by omega) hz
  ·have hlti : ¬ (kk : Int) < (xs.length : Int) := by omega
   have hk : kk = xs.length := by omega
   have HM:=Aside0.mk (idxOf_miss p xs (fun j y hy=>HA.out j y (by have:=(List.getElem?_eq_some_iff.1 hy).1;omega) hy))
   clear hk
   go_wp2
   go_ret
   exact ⟨by rw [HM.out]; rfl, BW.out⟩
theorem anyB_calls (A:Option Addr) (c:Nat) (xs:List S92) (w:World) (hr:Kd.C k92 w A xs.length xs) (hc:xs.length≤c) (g:FuncId) (lb:Array Value) (p:S92→Bool)
  (eg:∀ args w,(callFunc g args).run Try.prog w=.ok (.enter g args) w)
  (hp:∀ (W:World) (x:S92) (A3:Option Addr) (c3:Nat),x ∈ xs→Below w.heap.size w W→x.f3.length≤c3→Kd.C Kd.string W A3 x.f3.length x.f3→Calls Try.prog g (#[.agg #[.int .i64 x.f0,.int .i64 x.f1,.bool x.f2,.slice A3 x.f3.length c3]] ++ lb) W fun e w'=>e=.returned (.bool (p x))∧Below w.heap.size w w') :
  Calls Try.prog 52 #[.slice A xs.length c,.func (.func g) #[] lb] w fun e w'=>e=.returned (.bool (xs.any p))∧Below w.heap.size w w':=by
 rw [← idxOf_any]
 have hcon := idxB_calls A c xs w hr hc g lb p eg hp
 generalize idxOf p xs = r at hcon ⊢
 clear hp hr
 go_enter Try.func52, Try.ntmps52
 go_wp2_with (go_at_call 72;refine hcon.mono ?_;rintro e w' ⟨rfl,hb'⟩)
 go_ret
 exact ⟨rfl, hb'⟩
set_option maxHeartbeats 1000000 in
theorem flash_pred (d b p:Int) (B:Nat) (x:S92) (A3:Option Addr) (c3:Nat) (W:World) (g0:W.cell? ⟨B,0,none⟩=some (.int .i64 d)) (g1:W.cell? ⟨B,1,none⟩=some (.int .i64 b)) (g2:W.cell? ⟨B,2,none⟩=some (.int .i64 p)) (hl:x.f3.length≤c3) (hC:Kd.C Kd.string W A3 x.f3.length x.f3) :
  Calls Try.prog 53 #[.agg #[.int .i64 x.f0,.int .i64 x.f1,.bool x.f2,.slice A3 x.f3.length c3],.pointer (some ⟨B,0,none⟩)] W fun e w'=>e=.returned (.bool (!blkB p x))∧Below W.heap.size W w':=by
 have hbig := hC.2.1
 obtain ⟨K, hK⟩ := iblk_ev d b p x (by omega)
 have hB:Below W.heap.size W (W.alloc (.cells #[.int .i64 x.f0,.int .i64 x.f1,.bool x.f2,.slice A3 x.f3.length c3] 92)):=(Below.refl _ W).alloc (Nat.le_refl _) _
 have hcon:=impl_Geometry_blockOk.calls K d b p x.f0 x.f1 x.f2 A3 c3 x.f3 (blkB p x) _ (Kd.C_below hC hB) hl (hK K (Nat.le_refl _))
 have hu := Try.underlying92
 have hu2 := Try.underlying37
 have hu3 := Try.underlying40
 have k0 := (hB.cell (World.block_lt_of_cell? W _ g0)).trans g0
 have k1 := (hB.cell (World.block_lt_of_cell? W _ g1)).trans g1
 have k2 := (hB.cell (World.block_lt_of_cell? W _ g2)).trans g2
 have HB := Aside0.mk hB
 generalize blkB p x = r at hcon ⊢
 clear hC hl hK hbig hB g0 g1 g2
 go_enter Try.func53, Try.ntmps53
 go_wp2_with (go_at_call 54;refine hcon.mono ?_;rintro e w' ⟨rfl,hb'⟩)
 go_ret
 exact ⟨rfl, HB.out.trans (hb'.mono HB.out.size)⟩
theorem any_not (l:List S92) (p:Int):l.any (fun x=>!blkB p x)=!(l.all (blkB p)):=by
 induction l with
 | nil => rfl
 | cons x l ih=>simp only [List.all_cons,List.any_cons,ih,Bool.not_and]
theorem withinB (a b c:Int) (W:World):Calls Try.prog 29 #[.int .i64 a,.int .i64 b,.int .i64 c] W fun e w'=>e=.returned (.bool (decide (b≤a∧a≤c)))∧Below W.heap.size W w' :=
 (within_any a b c W).mono fun e w' ⟨he,hw⟩=>⟨he,by rw [hw];exact Below.refl _ _⟩
def impl_ValidFlash.f (a0_0 a0_1 a0_2:Int) (l0_3:List S92) (a0_4 a0_5:Int) (a0_6:Bool) (a0_7:Int):Option Bool:=some (flashB a0_0 a0_1 a0_2 l0_3 a0_4 a0_5 a0_7)
set_option linter.unusedSimpArgs false in
set_option maxHeartbeats 8000000 in
set_option maxRecDepth 100000 in
theorem impl_ValidFlash.calls (a0_0 a0_1 a0_2:Int) (A0_3:Option Addr) (c0_3:Nat) (l0_3:List S92) (a0_4 a0_5:Int) (a0_6:Bool) (a0_7:Int) (r:Bool) (w:World) (hr0_3:Kd.C k92 w A0_3 l0_3.length l0_3) (hc0_3:l0_3.length≤c0_3) (h:impl_ValidFlash.f a0_0 a0_1 a0_2 l0_3 a0_4 a0_5 a0_6 a0_7=some r) :
  Calls Try.prog 25 #[.agg #[.int .i64 a0_0,.int .i64 a0_1,.int .i64 a0_2,.slice A0_3 l0_3.length c0_3,.int .i64 a0_4,.int .i64 a0_5,.bool a0_6,.int .i64 a0_7]] w fun e w'=>e=.returned (.bool r)∧Below w.heap.size w w':=by
 obtain rfl := Option.some.inj h
 clear h
 have hu := Try.underlying92
 have hu2 := Try.underlying37
 have hu3 := Try.underlying40
 have hB:Below w.heap.size w (w.alloc (.cells #[.int .i64 a0_0,.int .i64 a0_1,.int .i64 a0_2,.slice A0_3 l0_3.length c0_3,.int .i64 a0_4,.int .i64 a0_5,.bool a0_6,.int .i64 a0_7] 40)):=(Below.refl _ w).alloc (Nat.le_refl _) _
 have hX:(w.alloc (.cells #[.int .i64 a0_0,.int .i64 a0_1,.int .i64 a0_2,.slice A0_3 l0_3.length c0_3,.int .i64 a0_4,.int .i64 a0_5,.bool a0_6,.int .i64 a0_7] 40)).heap[w.heap.size]?=some (.cells #[.int .i64 a0_0,.int .i64 a0_1,.int .i64 a0_2,.slice A0_3 l0_3.length c0_3,.int .i64 a0_4,.int .i64 a0_5,.bool a0_6,.int .i64 a0_7] 40 (0,0)):=blk_new w _
 have c0:(w.alloc (.cells #[.int .i64 a0_0,.int .i64 a0_1,.int .i64 a0_2,.slice A0_3 l0_3.length c0_3,.int .i64 a0_4,.int .i64 a0_5,.bool a0_6,.int .i64 a0_7] 40)).cell? ⟨w.heap.size,0,none⟩=some (.int .i64 a0_0):=(blk_cell hX 0).trans rfl
 have c1:(w.alloc (.cells #[.int .i64 a0_0,.int .i64 a0_1,.int .i64 a0_2,.slice A0_3 l0_3.length c0_3,.int .i64 a0_4,.int .i64 a0_5,.bool a0_6,.int .i64 a0_7] 40)).cell? ⟨w.heap.size,1,none⟩=some (.int .i64 a0_1):=(blk_cell hX 1).trans rfl
 have c2:(w.alloc (.cells #[.int .i64 a0_0,.int .i64 a0_1,.int .i64 a0_2,.slice A0_3 l0_3.length c0_3,.int .i64 a0_4,.int .i64 a0_5,.bool a0_6,.int .i64 a0_7] 40)).cell? ⟨w.heap.size,2,none⟩=some (.int .i64 a0_2):=(blk_cell hX 2).trans rfl
 have c3:(w.alloc (.cells #[.int .i64 a0_0,.int .i64 a0_1,.int .i64 a0_2,.slice A0_3 l0_3.length c0_3,.int .i64 a0_4,.int .i64 a0_5,.bool a0_6,.int .i64 a0_7] 40)).cell? ⟨w.heap.size,3,none⟩=some (.slice A0_3 l0_3.length c0_3):=(blk_cell hX 3).trans rfl
 have c4:(w.alloc (.cells #[.int .i64 a0_0,.int .i64 a0_1,.int .i64 a0_2,.slice A0_3 l0_3.length c0_3,.int .i64 a0_4,.int .i64 a0_5,.bool a0_6,.int .i64 a0_7] 40)).cell? ⟨w.heap.size,4,none⟩=some (.int .i64 a0_4):=(blk_cell hX 4).trans rfl
 have c5:(w.alloc (.cells #[.int .i64 a0_0,.int .i64 a0_1,.int .i64 a0_2,.slice A0_3 l0_3.length c0_3,.int .i64 a0_4,.int .i64 a0_5,.bool a0_6,.int .i64 a0_7] 40)).cell? ⟨w.heap.size,5,none⟩=some (.int .i64 a0_5):=(blk_cell hX 5).trans rfl
 have c7:(w.alloc (.cells #[.int .i64 a0_0,.int .i64 a0_1,.int .i64 a0_2,.slice A0_3 l0_3.length c0_3,.int .i64 a0_4,.int .i64 a0_5,.bool a0_6,.int .i64 a0_7] 40)).cell? ⟨w.heap.size,7,none⟩=some (.int .i64 a0_7):=(blk_cell hX 7).trans rfl
 have HVG:Aside0 (∀ W,Calls Try.prog 51 #[.agg #[.int .i64 a0_0,.int .i64 a0_1,.int .i64 a0_2]] W fun e w'=>e=.returned (.bool (geoB a0_0 a0_1 a0_2))∧Below W.heap.size W w'):=⟨fun W=>impl_ValidGeometry.calls a0_0 a0_1 a0_2 _ W (igeo_eq _ _ _)⟩
 have HAL:Aside0 (∀ W,Calls Try.prog 27 #[.agg #[.int .i64 a0_0,.int .i64 a0_1,.int .i64 a0_2]] W fun e w'=>e=.returned (.int .i64 (wrap64 (a0_0 * a0_1)))∧Below W.heap.size W w'):=⟨fun W=>impl_Geometry_all.calls a0_0 a0_1 a0_2 _ W rfl⟩
 have HW1:Aside0 (∀ W,Calls Try.prog 29 #[.int .i64 a0_4,.int .i64 (-1),.int .i64 1000000] W fun e w'=>e=.returned (.bool (decide (-1≤a0_4∧a0_4≤1000000)))∧Below W.heap.size W w'):=⟨fun W=>withinB _ _ _ W⟩
 have HW2:Aside0 (∀ W,Calls Try.prog 29 #[.int .i64 a0_5,.int .i64 0,.int .i64 91] W fun e w'=>e=.returned (.bool (decide (0≤a0_5∧a0_5≤91)))∧Below W.heap.size W w'):=⟨fun W=>withinB _ _ _ W⟩
 have HC := Aside0.mk hr0_3
 have HCC := Aside0.mk hc0_3
 have HB := Aside0.mk hB
 clear hB hX hr0_3 hc0_3
 by_cases t0 : geoB a0_0 a0_1 a0_2 = true
 ·rw [t0] at HVG
  by_cases t1 : (l0_3.length : Int) = wrap64 (a0_0 * a0_1)
  ·have b1:((l0_3.length:Int) == wrap64 (a0_0 * a0_1))=true:=beq_iff_eq.2 t1
   have b1n:((l0_3.length:Int) != wrap64 (a0_0 * a0_1))=false:=by rw [bne,b1];rfl
   by_cases t2 : (-1 ≤ a0_4 ∧ a0_4 ≤ 1000000)
   ·rw [decide_eq_true t2] at HW1
    by_cases t3 : (0 ≤ a0_5 ∧ a0_5 ≤ 91)
    ·rw [decide_eq_true t3] at HW2
     by_cases t4 : 0 ≤ a0_7
     ·have b4:decide (a0_7 < 0)=false:=decide_eq_false (by omega)
      have HF:Aside0 (flashB a0_0 a0_1 a0_2 l0_3 a0_4 a0_5 a0_7=!(l0_3.any (fun x=>!blkB a0_2 x))):=⟨by unfold flashB;rw [t0,decide_eq_true t1,decide_eq_true t2,decide_eq_true t3,decide_eq_true t4,any_not];simp⟩
      clear t0 t1 t2 t3 t4
      go_enter Try.func25, Try.ntmps25
      go_wp2_with fail
      generalize w.alloc (.cells #[.int .i64 a0_0,.int .i64 a0_1,.int .i64 a0_2,.slice A0_3 l0_3.length c0_3,.int .i64 a0_4,.int .i64 a0_5,.bool a0_6,.int .i64 a0_7] 40)=W1 at c0 c1 c2 c3 c4 c5 c7 HB ⊢
      (try simp only [Act.put,lSXFlash_,lZXFlash_,lCXFlash_])
      refine start_ (n:=30) (S:=fun w'=>w'.cell? ⟨w.heap.size,0,none⟩=some (.int .i64 a0_0)∧w'.cell? ⟨w.heap.size,1,none⟩=some (.int .i64 a0_1)∧w'.cell? ⟨w.heap.size,2,none⟩=some (.int .i64 a0_2)∧w'.cell? ⟨w.heap.size,3,none⟩=some (.slice A0_3 l0_3.length c0_3)∧w'.cell? ⟨w.heap.size,4,none⟩=some (.int .i64 a0_4)∧w'.cell? ⟨w.heap.size,5,none⟩=some (.int .i64 a0_5)∧w'.cell? ⟨w.heap.size,7,none⟩=some (.int .i64 a0_7)∧Aside0 (Below W1.heap.size W1 w')) (ds:=[]) #[false,false,false,false,false,false,false,false,false,false,false,false,false,false,false,false,false,false,false,false,false,false,false,false,false,false,false,false,false,false] (by kernel_rfl) rfl rfl ⟨c0,c1,c2,c3,c4,c5,c7,⟨below_drew1 (Below.refl _ _)⟩⟩ (fun hHeld=>?_)
      refine ord_ [(1, 0, some 3), (2, 1, some 4)] ?_
      repeat (first|(refine Ord.pureL (v:=?_) (l':=?_) (t':=?_) rfl rfl (fun _ _ _ h=>h) (by kernel_rfl) ?_ ?_ ?_ ?_ ?_;rotate_left 3;dsimp only [s0,s1];rfl;kernel_rfl;intro w';go_simp;(try simp only [i64_w]);with_reducible rfl;dsimp only [s0,s1];rfl)|(refine Ord.takeL (v:=?_) (l':=?_) (t':=?_) rfl rfl (fun _ _ _ h=>h) hHeld (by kernel_rfl) ?_ ?_ ?_ ?_ ?_;rotate_left 3;dsimp only [s0,s1];rfl;kernel_rfl;rintro w' ⟨s0,s1,s2,s3,s4,s5,s6,s7⟩;go_simp;with_reducible rfl;dsimp only [s0,s1];rfl))
      refine Ord.nil ?_
      refine one_ (i:=2) (N:=some 5) #[true,true,true,false,false,false,false,false,false,false,false,false,false,false,false,false,false,false,false,false,false,false,false,false,false,false,false,false,false,false] rfl rfl (by kernel_rfl) (by decide) (fun K hK=>?_)
      refine goes_ Try.func51 (by kernel_rfl) rfl #[.agg #[.int .i64 a0_0,.int .i64 a0_1,.int .i64 a0_2]] (by rfl) rfl rfl (by simp only [mAXFlash_,mCXFlash_,mNXFlash_];rfl) ?_
      with_reducible refine (HVG.out _).mono ?_
      rintro e w1 ⟨rfl, hb1⟩
      refine ⟨_, rfl, ?_⟩
      refine hK.out _ _ ⟨(pw_cell_below hb1 hHeld.1),(pw_cell_below hb1 hHeld.2.1),(pw_cell_below hb1 hHeld.2.2.1),(pw_cell_below hb1 hHeld.2.2.2.1),(pw_cell_below hb1 hHeld.2.2.2.2.1),(pw_cell_below hb1 hHeld.2.2.2.2.2.1),(pw_cell_below hb1 hHeld.2.2.2.2.2.2.1),⟨hHeld.2.2.2.2.2.2.2.out.trans (hb1.mono hHeld.2.2.2.2.2.2.2.out.size)⟩⟩ (fun hHeld=>?_)
      clear hK K
      refine norm_ (a' := ?_) ?_ ?_
      rotate_left
      ·show Act.put _ (some 5) _ = _
       simp only [Act.put,lSXFlash_,lZXFlash_,lCXFlash_,i64_w,i32_w]
       rfl
      refine ord_ [(1,3,some 6),(1,4,some 7),(1,5,some 8),(1,8,some 11),(2,6,some 9),(1,7,some 10),(2,9,some 12)] ?_
      repeat (first|(refine Ord.pureL (v:=?_) (l':=?_) (t':=?_) rfl rfl (fun _ _ _ h=>h) (by kernel_rfl) ?_ ?_ ?_ ?_ ?_;rotate_left 3;dsimp only [s0,s1];rfl;kernel_rfl;intro w';go_simp;(try simp only [i64_w]);with_reducible rfl;dsimp only [s0,s1];rfl)|(refine Ord.takeL (v:=?_) (l':=?_) (t':=?_) rfl rfl (fun _ _ _ h=>h) hHeld (by kernel_rfl) ?_ ?_ ?_ ?_ ?_;rotate_left 3;dsimp only [s0,s1];rfl;kernel_rfl;rintro w' ⟨s0,s1,s2,s3,s4,s5,s6,s7⟩;go_simp;with_reducible rfl;dsimp only [s0,s1];rfl))
      refine Ord.nil ?_
      refine one_ (i:=10) (N:=some 13) #[true,true,true,true,true,true,true,true,true,true,true,false,false,false,false,false,false,false,false,false,false,false,false,false,false,false,false,false,false,false] rfl rfl (by kernel_rfl) (by decide) (fun K hK=>?_)
      refine goes_ Try.func27 (by kernel_rfl) rfl #[.agg #[.int .i64 a0_0,.int .i64 a0_1,.int .i64 a0_2]] (by rfl) rfl rfl (by simp only [mAXFlash_,mCXFlash_,mNXFlash_];rfl) ?_
      with_reducible refine (HAL.out _).mono ?_
      rintro e w2 ⟨rfl, hb2⟩
      refine ⟨_, rfl, ?_⟩
      refine hK.out _ _ ⟨(pw_cell_below hb2 hHeld.1),(pw_cell_below hb2 hHeld.2.1),(pw_cell_below hb2 hHeld.2.2.1),(pw_cell_below hb2 hHeld.2.2.2.1),(pw_cell_below hb2 hHeld.2.2.2.2.1),(pw_cell_below hb2 hHeld.2.2.2.2.2.1),(pw_cell_below hb2 hHeld.2.2.2.2.2.2.1),⟨hHeld.2.2.2.2.2.2.2.out.trans (hb2.mono hHeld.2.2.2.2.2.2.2.out.size)⟩⟩ (fun hHeld=>?_)
      clear hK K
      refine norm_ (a' := ?_) ?_ ?_
      rotate_left
      ·show Act.put _ (some 13) _ = _
       simp only [Act.put,lSXFlash_,lZXFlash_,lCXFlash_,i64_w,i32_w]
       rfl
      refine ord_ [(1,11,some 14),(1,12,some 15),(1,13,some 16),(1,14,some 17),(2,15,some 18)] ?_
      repeat (first|(refine Ord.pureL (v:=?_) (l':=?_) (t':=?_) rfl rfl (fun _ _ _ h=>h) (by kernel_rfl) ?_ ?_ ?_ ?_ ?_;rotate_left 3;dsimp only [s0,s1];rfl;kernel_rfl;intro w';go_simp;(try simp only [i64_w]);with_reducible rfl;dsimp only [s0,s1];rfl)|(refine Ord.takeL (v:=?_) (l':=?_) (t':=?_) rfl rfl (fun _ _ _ h=>h) hHeld (by kernel_rfl) ?_ ?_ ?_ ?_ ?_;rotate_left 3;dsimp only [s0,s1];rfl;kernel_rfl;rintro w' ⟨s0,s1,s2,s3,s4,s5,s6,s7⟩;go_simp;with_reducible rfl;dsimp only [s0,s1];rfl))
      refine Ord.nil ?_
      refine one_ (i:=16) (N:=some 19) #[true,true,true,true,true,true,true,true,true,true,true,true,true,true,true,true,true,false,false,false,false,false,false,false,false,false,false,false,false,false] rfl rfl (by kernel_rfl) (by decide) (fun K hK=>?_)
      refine goes_ Try.func29 (by kernel_rfl) rfl #[.int .i64 a0_4,.int .i64 (-1),.int .i64 1000000] (by rfl) rfl rfl (by simp only [mAXFlash_,mCXFlash_,mNXFlash_];rfl) ?_
      with_reducible refine (HW1.out _).mono ?_
      rintro e w3 ⟨rfl, hb3⟩
      refine ⟨_, rfl, ?_⟩
      refine hK.out _ _ ⟨(pw_cell_below hb3 hHeld.1),(pw_cell_below hb3 hHeld.2.1),(pw_cell_below hb3 hHeld.2.2.1),(pw_cell_below hb3 hHeld.2.2.2.1),(pw_cell_below hb3 hHeld.2.2.2.2.1),(pw_cell_below hb3 hHeld.2.2.2.2.2.1),(pw_cell_below hb3 hHeld.2.2.2.2.2.2.1),⟨hHeld.2.2.2.2.2.2.2.out.trans (hb3.mono hHeld.2.2.2.2.2.2.2.out.size)⟩⟩ (fun hHeld=>?_)
      clear hK K
      refine norm_ (a' := ?_) ?_ ?_
      rotate_left
      ·show Act.put _ (some 19) _ = _
       simp only [Act.put,lSXFlash_,lZXFlash_,lCXFlash_,i64_w,i32_w]
       rfl
      refine ord_ [(1,17,some 20),(1,18,some 21),(1,19,some 22),(1,20,some 23),(2,21,some 24)] ?_
      repeat (first|(refine Ord.pureL (v:=?_) (l':=?_) (t':=?_) rfl rfl (fun _ _ _ h=>h) (by kernel_rfl) ?_ ?_ ?_ ?_ ?_;rotate_left 3;dsimp only [s0,s1];rfl;kernel_rfl;intro w';go_simp;(try simp only [i64_w]);with_reducible rfl;dsimp only [s0,s1];rfl)|(refine Ord.takeL (v:=?_) (l':=?_) (t':=?_) rfl rfl (fun _ _ _ h=>h) hHeld (by kernel_rfl) ?_ ?_ ?_ ?_ ?_;rotate_left 3;dsimp only [s0,s1];rfl;kernel_rfl;rintro w' ⟨s0,s1,s2,s3,s4,s5,s6,s7⟩;go_simp;with_reducible rfl;dsimp only [s0,s1];rfl))
      refine Ord.nil ?_
      refine one_ (i:=22) (N:=some 25) #[true,true,true,true,true,true,true,true,true,true,true,true,true,true,true,true,true,true,true,true,true,true,true,false,false,false,false,false,false,false] rfl rfl (by kernel_rfl) (by decide) (fun K hK=>?_)
      refine goes_ Try.func29 (by kernel_rfl) rfl #[.int .i64 a0_5,.int .i64 0,.int .i64 91] (by rfl) rfl rfl (by simp only [mAXFlash_,mCXFlash_,mNXFlash_];rfl) ?_
      with_reducible refine (HW2.out _).mono ?_
      rintro e w4 ⟨rfl, hb4⟩
      refine ⟨_, rfl, ?_⟩
      refine hK.out _ _ ⟨(pw_cell_below hb4 hHeld.1),(pw_cell_below hb4 hHeld.2.1),(pw_cell_below hb4 hHeld.2.2.1),(pw_cell_below hb4 hHeld.2.2.2.1),(pw_cell_below hb4 hHeld.2.2.2.2.1),(pw_cell_below hb4 hHeld.2.2.2.2.2.1),(pw_cell_below hb4 hHeld.2.2.2.2.2.2.1),⟨hHeld.2.2.2.2.2.2.2.out.trans (hb4.mono hHeld.2.2.2.2.2.2.2.out.size)⟩⟩ (fun hHeld=>?_)
      clear hK K
      refine norm_ (a' := ?_) ?_ ?_
      rotate_left
      ·show Act.put _ (some 25) _ = _
       simp only [Act.put,lSXFlash_,lZXFlash_,lCXFlash_,i64_w,i32_w]
       rfl
      refine ord_ [(1,23,some 26),(1,24,some 27),(1,25,some 28),(1,26,some 29),(2,27,some 30),(1,28,some 31),(1,29,some 32)] ?_
      repeat (first|(refine Ord.pureL (v:=?_) (l':=?_) (t':=?_) rfl rfl (fun _ _ _ h=>h) (by kernel_rfl) ?_ ?_ ?_ ?_ ?_;rotate_left 3;dsimp only [s0,s1];rfl;kernel_rfl;intro w';go_simp;(try simp only [i64_w]);with_reducible rfl;dsimp only [s0,s1];rfl)|(refine Ord.takeL (v:=?_) (l':=?_) (t':=?_) rfl rfl (fun _ _ _ h=>h) hHeld (by kernel_rfl) ?_ ?_ ?_ ?_ ?_;rotate_left 3;dsimp only [s0,s1];rfl;kernel_rfl;rintro w' ⟨s0,s1,s2,s3,s4,s5,s6,s7⟩;go_simp;with_reducible rfl;dsimp only [s0,s1];rfl))
      refine Ord.nil ?_
      refine done_ (by kernel_rfl) ?_
      clear c0 c1 c2 c3 c4 c5 c7
      obtain ⟨q0, q1, q2, q3, q4, q5, q7, HW⟩ := hHeld
      have HBW:=Aside0.mk (HB.out.trans (HW.out.mono HB.out.size))
      have eg:∀ args w,(callFunc 53 args).run Try.prog w=.ok (.enter 53 args) w:=enters_of Try.func53 (by kernel_rfl) rfl
      have hcon:=anyB_calls A0_3 c0_3 l0_3 _ (Kd.C_below HC.out HBW.out) HCC.out 53 #[.pointer (some ⟨w.heap.size,0,none⟩)] (fun x=>!blkB a0_2 x) eg (fun W x A3 c3 _ hb hl hC=>(flash_pred a0_0 a0_1 a0_2 w.heap.size x A3 c3 W ((hb.cell (World.block_lt_of_cell? _ _ q0)).trans q0) ((hb.cell (World.block_lt_of_cell? _ _ q1)).trans q1) ((hb.cell (World.block_lt_of_cell? _ _ q2)).trans q2) hl hC).mono fun e w' ⟨he,hw⟩=>⟨he,hb.trans (hw.mono hb.size)⟩)
      generalize l0_3.any (fun x=>!blkB a0_2 x)=r at hcon HF
      clear eg
      go_wp2_with (go_at_call 52;refine hcon.mono ?_;rintro e w' ⟨rfl,hb'⟩)
      go_ret
      exact ⟨by rw [HF.out];rfl,HBW.out.trans (hb'.mono HBW.out.size)⟩
     ·have b4:decide (a0_7 < 0)=true:=decide_eq_true (by omega)
      have HF:Aside0 (flashB a0_0 a0_1 a0_2 l0_3 a0_4 a0_5 a0_7=false):=⟨by unfold flashB;rw [t0,decide_eq_true t1,decide_eq_true t2,decide_eq_true t3,decide_eq_false t4];simp⟩
      clear t0 t1 t2 t3 t4
      go_enter Try.func25, Try.ntmps25
      go_wp2_with fail
      generalize w.alloc (.cells #[.int .i64 a0_0,.int .i64 a0_1,.int .i64 a0_2,.slice A0_3 l0_3.length c0_3,.int .i64 a0_4,.int .i64 a0_5,.bool a0_6,.int .i64 a0_7] 40)=W1 at c0 c1 c2 c3 c4 c5 c7 HB ⊢
      (try simp only [Act.put,lSXFlash_,lZXFlash_,lCXFlash_])
      refine start_ (n:=30) (S:=fun w'=>w'.cell? ⟨w.heap.size,0,none⟩=some (.int .i64 a0_0)∧w'.cell? ⟨w.heap.size,1,none⟩=some (.int .i64 a0_1)∧w'.cell? ⟨w.heap.size,2,none⟩=some (.int .i64 a0_2)∧w'.cell? ⟨w.heap.size,3,none⟩=some (.slice A0_3 l0_3.length c0_3)∧w'.cell? ⟨w.heap.size,4,none⟩=some (.int .i64 a0_4)∧w'.cell? ⟨w.heap.size,5,none⟩=some (.int .i64 a0_5)∧w'.cell? ⟨w.heap.size,7,none⟩=some (.int .i64 a0_7)∧Aside0 (Below W1.heap.size W1 w')) (ds:=[]) #[false,false,false,false,false,false,false,false,false,false,false,false,false,false,false,false,false,false,false,false,false,false,false,false,false,false,false,false,false,false] (by kernel_rfl) rfl rfl ⟨c0,c1,c2,c3,c4,c5,c7,⟨below_drew1 (Below.refl _ _)⟩⟩ (fun hHeld=>?_)
      refine ord_ [(1, 0, some 3), (2, 1, some 4)] ?_
      repeat (first|(refine Ord.pureL (v:=?_) (l':=?_) (t':=?_) rfl rfl (fun _ _ _ h=>h) (by kernel_rfl) ?_ ?_ ?_ ?_ ?_;rotate_left 3;dsimp only [s0,s1];rfl;kernel_rfl;intro w';go_simp;(try simp only [i64_w]);with_reducible rfl;dsimp only [s0,s1];rfl)|(refine Ord.takeL (v:=?_) (l':=?_) (t':=?_) rfl rfl (fun _ _ _ h=>h) hHeld (by kernel_rfl) ?_ ?_ ?_ ?_ ?_;rotate_left 3;dsimp only [s0,s1];rfl;kernel_rfl;rintro w' ⟨s0,s1,s2,s3,s4,s5,s6,s7⟩;go_simp;with_reducible rfl;dsimp only [s0,s1];rfl))
      refine Ord.nil ?_
      refine one_ (i:=2) (N:=some 5) #[true,true,true,false,false,false,false,false,false,false,false,false,false,false,false,false,false,false,false,false,false,false,false,false,false,false,false,false,false,false] rfl rfl (by kernel_rfl) (by decide) (fun K hK=>?_)
      refine goes_ Try.func51 (by kernel_rfl) rfl #[.agg #[.int .i64 a0_0,.int .i64 a0_1,.int .i64 a0_2]] (by rfl) rfl rfl (by simp only [mAXFlash_,mCXFlash_,mNXFlash_];rfl) ?_
      with_reducible refine (HVG.out _).mono ?_
      rintro e w1 ⟨rfl, hb1⟩
      refine ⟨_, rfl, ?_⟩
      refine hK.out _ _ ⟨(pw_cell_below hb1 hHeld.1),(pw_cell_below hb1 hHeld.2.1),(pw_cell_below hb1 hHeld.2.2.1),(pw_cell_below hb1 hHeld.2.2.2.1),(pw_cell_below hb1 hHeld.2.2.2.2.1),(pw_cell_below hb1 hHeld.2.2.2.2.2.1),(pw_cell_below hb1 hHeld.2.2.2.2.2.2.1),⟨hHeld.2.2.2.2.2.2.2.out.trans (hb1.mono hHeld.2.2.2.2.2.2.2.out.size)⟩⟩ (fun hHeld=>?_)
      clear hK K
      refine norm_ (a' := ?_) ?_ ?_
      rotate_left
      ·show Act.put _ (some 5) _ = _
       simp only [Act.put,lSXFlash_,lZXFlash_,lCXFlash_,i64_w,i32_w]
       rfl
      refine ord_ [(1,3,some 6),(1,4,some 7),(1,5,some 8),(1,8,some 11),(2,6,some 9),(1,7,some 10),(2,9,some 12)] ?_
      repeat (first|(refine Ord.pureL (v:=?_) (l':=?_) (t':=?_) rfl rfl (fun _ _ _ h=>h) (by kernel_rfl) ?_ ?_ ?_ ?_ ?_;rotate_left 3;dsimp only [s0,s1];rfl;kernel_rfl;intro w';go_simp;(try simp only [i64_w]);with_reducible rfl;dsimp only [s0,s1];rfl)|(refine Ord.takeL (v:=?_) (l':=?_) (t':=?_) rfl rfl (fun _ _ _ h=>h) hHeld (by kernel_rfl) ?_ ?_ ?_ ?_ ?_;rotate_left 3;dsimp only [s0,s1];rfl;kernel_rfl;rintro w' ⟨s0,s1,s2,s3,s4,s5,s6,s7⟩;go_simp;with_reducible rfl;dsimp only [s0,s1];rfl))
      refine Ord.nil ?_
      refine one_ (i:=10) (N:=some 13) #[true,true,true,true,true,true,true,true,true,true,true,false,false,false,false,false,false,false,false,false,false,false,false,false,false,false,false,false,false,false] rfl rfl (by kernel_rfl) (by decide) (fun K hK=>?_)
      refine goes_ Try.func27 (by kernel_rfl) rfl #[.agg #[.int .i64 a0_0,.int .i64 a0_1,.int .i64 a0_2]] (by rfl) rfl rfl (by simp only [mAXFlash_,mCXFlash_,mNXFlash_];rfl) ?_
      with_reducible refine (HAL.out _).mono ?_
      rintro e w2 ⟨rfl, hb2⟩
      refine ⟨_, rfl, ?_⟩
      refine hK.out _ _ ⟨(pw_cell_below hb2 hHeld.1),(pw_cell_below hb2 hHeld.2.1),(pw_cell_below hb2 hHeld.2.2.1),(pw_cell_below hb2 hHeld.2.2.2.1),(pw_cell_below hb2 hHeld.2.2.2.2.1),(pw_cell_below hb2 hHeld.2.2.2.2.2.1),(pw_cell_below hb2 hHeld.2.2.2.2.2.2.1),⟨hHeld.2.2.2.2.2.2.2.out.trans (hb2.mono hHeld.2.2.2.2.2.2.2.out.size)⟩⟩ (fun hHeld=>?_)
      clear hK K
      refine norm_ (a' := ?_) ?_ ?_
      rotate_left
      ·show Act.put _ (some 13) _ = _
       simp only [Act.put,lSXFlash_,lZXFlash_,lCXFlash_,i64_w,i32_w]
       rfl
      refine ord_ [(1,11,some 14),(1,12,some 15),(1,13,some 16),(1,14,some 17),(2,15,some 18)] ?_
      repeat (first|(refine Ord.pureL (v:=?_) (l':=?_) (t':=?_) rfl rfl (fun _ _ _ h=>h) (by kernel_rfl) ?_ ?_ ?_ ?_ ?_;rotate_left 3;dsimp only [s0,s1];rfl;kernel_rfl;intro w';go_simp;(try simp only [i64_w]);with_reducible rfl;dsimp only [s0,s1];rfl)|(refine Ord.takeL (v:=?_) (l':=?_) (t':=?_) rfl rfl (fun _ _ _ h=>h) hHeld (by kernel_rfl) ?_ ?_ ?_ ?_ ?_;rotate_left 3;dsimp only [s0,s1];rfl;kernel_rfl;rintro w' ⟨s0,s1,s2,s3,s4,s5,s6,s7⟩;go_simp;with_reducible rfl;dsimp only [s0,s1];rfl))
      refine Ord.nil ?_
      refine one_ (i:=16) (N:=some 19) #[true,true,true,true,true,true,true,true,true,true,true,true,true,true,true,true,true,false,false,false,false,false,false,false,false,false,false,false,false,false] rfl rfl (by kernel_rfl) (by decide) (fun K hK=>?_)
      refine goes_ Try.func29 (by kernel_rfl) rfl #[.int .i64 a0_4,.int .i64 (-1),.int .i64 1000000] (by rfl) rfl rfl (by simp only [mAXFlash_,mCXFlash_,mNXFlash_];rfl) ?_
      with_reducible refine (HW1.out _).mono ?_
      rintro e w3 ⟨rfl, hb3⟩
      refine ⟨_, rfl, ?_⟩
      refine hK.out _ _ ⟨(pw_cell_below hb3 hHeld.1),(pw_cell_below hb3 hHeld.2.1),(pw_cell_below hb3 hHeld.2.2.1),(pw_cell_below hb3 hHeld.2.2.2.1),(pw_cell_below hb3 hHeld.2.2.2.2.1),(pw_cell_below hb3 hHeld.2.2.2.2.2.1),(pw_cell_below hb3 hHeld.2.2.2.2.2.2.1),⟨hHeld.2.2.2.2.2.2.2.out.trans (hb3.mono hHeld.2.2.2.2.2.2.2.out.size)⟩⟩ (fun hHeld=>?_)
      clear hK K
      refine norm_ (a' := ?_) ?_ ?_
      rotate_left
      ·show Act.put _ (some 19) _ = _
       simp only [Act.put,lSXFlash_,lZXFlash_,lCXFlash_,i64_w,i32_w]
       rfl
      refine ord_ [(1,17,some 20),(1,18,some 21),(1,19,some 22),(1,20,some 23),(2,21,some 24)] ?_
      repeat (first|(refine Ord.pureL (v:=?_) (l':=?_) (t':=?_) rfl rfl (fun _ _ _ h=>h) (by kernel_rfl) ?_ ?_ ?_ ?_ ?_;rotate_left 3;dsimp only [s0,s1];rfl;kernel_rfl;intro w';go_simp;(try simp only [i64_w]);with_reducible rfl;dsimp only [s0,s1];rfl)|(refine Ord.takeL (v:=?_) (l':=?_) (t':=?_) rfl rfl (fun _ _ _ h=>h) hHeld (by kernel_rfl) ?_ ?_ ?_ ?_ ?_;rotate_left 3;dsimp only [s0,s1];rfl;kernel_rfl;rintro w' ⟨s0,s1,s2,s3,s4,s5,s6,s7⟩;go_simp;with_reducible rfl;dsimp only [s0,s1];rfl))
      refine Ord.nil ?_
      refine one_ (i:=22) (N:=some 25) #[true,true,true,true,true,true,true,true,true,true,true,true,true,true,true,true,true,true,true,true,true,true,true,false,false,false,false,false,false,false] rfl rfl (by kernel_rfl) (by decide) (fun K hK=>?_)
      refine goes_ Try.func29 (by kernel_rfl) rfl #[.int .i64 a0_5,.int .i64 0,.int .i64 91] (by rfl) rfl rfl (by simp only [mAXFlash_,mCXFlash_,mNXFlash_];rfl) ?_
      with_reducible refine (HW2.out _).mono ?_
      rintro e w4 ⟨rfl, hb4⟩
      refine ⟨_, rfl, ?_⟩
      refine hK.out _ _ ⟨(pw_cell_below hb4 hHeld.1),(pw_cell_below hb4 hHeld.2.1),(pw_cell_below hb4 hHeld.2.2.1),(pw_cell_below hb4 hHeld.2.2.2.1),(pw_cell_below hb4 hHeld.2.2.2.2.1),(pw_cell_below hb4 hHeld.2.2.2.2.2.1),(pw_cell_below hb4 hHeld.2.2.2.2.2.2.1),⟨hHeld.2.2.2.2.2.2.2.out.trans (hb4.mono hHeld.2.2.2.2.2.2.2.out.size)⟩⟩ (fun hHeld=>?_)
      clear hK K
      refine norm_ (a' := ?_) ?_ ?_
      rotate_left
      ·show Act.put _ (some 25) _ = _
       simp only [Act.put,lSXFlash_,lZXFlash_,lCXFlash_,i64_w,i32_w]
       rfl
      refine ord_ [(1,23,some 26),(1,24,some 27),(1,25,some 28),(1,26,some 29),(2,27,some 30),(1,28,some 31),(1,29,some 32)] ?_
      repeat (first|(refine Ord.pureL (v:=?_) (l':=?_) (t':=?_) rfl rfl (fun _ _ _ h=>h) (by kernel_rfl) ?_ ?_ ?_ ?_ ?_;rotate_left 3;dsimp only [s0,s1];rfl;kernel_rfl;intro w';go_simp;(try simp only [i64_w]);with_reducible rfl;dsimp only [s0,s1];rfl)|(refine Ord.takeL (v:=?_) (l':=?_) (t':=?_) rfl rfl (fun _ _ _ h=>h) hHeld (by kernel_rfl) ?_ ?_ ?_ ?_ ?_;rotate_left 3;dsimp only [s0,s1];rfl;kernel_rfl;rintro w' ⟨s0,s1,s2,s3,s4,s5,s6,s7⟩;go_simp;with_reducible rfl;dsimp only [s0,s1];rfl))
      refine Ord.nil ?_
      refine done_ (by kernel_rfl) ?_
      clear c0 c1 c2 c3 c4 c5 c7
      obtain ⟨q0, q1, q2, q3, q4, q5, q7, HW⟩ := hHeld
      go_wp2
      go_ret
      exact ⟨by rw [HF.out];rfl,HB.out.trans (HW.out.mono HB.out.size)⟩
    ·rw [decide_eq_false t3] at HW2
     have HF:Aside0 (flashB a0_0 a0_1 a0_2 l0_3 a0_4 a0_5 a0_7=false):=⟨by unfold flashB;rw [t0,decide_eq_true t1,decide_eq_true t2,decide_eq_false t3];simp⟩
     clear t0 t1 t2 t3
     go_enter Try.func25, Try.ntmps25
     go_wp2_with fail
     generalize w.alloc (.cells #[.int .i64 a0_0,.int .i64 a0_1,.int .i64 a0_2,.slice A0_3 l0_3.length c0_3,.int .i64 a0_4,.int .i64 a0_5,.bool a0_6,.int .i64 a0_7] 40)=W1 at c0 c1 c2 c3 c4 c5 c7 HB ⊢
     (try simp only [Act.put,lSXFlash_,lZXFlash_,lCXFlash_])
     refine start_ (n:=30) (S:=fun w'=>w'.cell? ⟨w.heap.size,0,none⟩=some (.int .i64 a0_0)∧w'.cell? ⟨w.heap.size,1,none⟩=some (.int .i64 a0_1)∧w'.cell? ⟨w.heap.size,2,none⟩=some (.int .i64 a0_2)∧w'.cell? ⟨w.heap.size,3,none⟩=some (.slice A0_3 l0_3.length c0_3)∧w'.cell? ⟨w.heap.size,4,none⟩=some (.int .i64 a0_4)∧w'.cell? ⟨w.heap.size,5,none⟩=some (.int .i64 a0_5)∧w'.cell? ⟨w.heap.size,7,none⟩=some (.int .i64 a0_7)∧Aside0 (Below W1.heap.size W1 w')) (ds:=[]) #[false,false,false,false,false,false,false,false,false,false,false,false,false,false,false,false,false,false,false,false,false,false,false,false,false,false,false,false,false,false] (by kernel_rfl) rfl rfl ⟨c0,c1,c2,c3,c4,c5,c7,⟨below_drew1 (Below.refl _ _)⟩⟩ (fun hHeld=>?_)
     refine ord_ [(1, 0, some 3), (2, 1, some 4)] ?_
     repeat (first|(refine Ord.pureL (v:=?_) (l':=?_) (t':=?_) rfl rfl (fun _ _ _ h=>h) (by kernel_rfl) ?_ ?_ ?_ ?_ ?_;rotate_left 3;dsimp only [s0,s1];rfl;kernel_rfl;intro w';go_simp;(try simp only [i64_w]);with_reducible rfl;dsimp only [s0,s1];rfl)|(refine Ord.takeL (v:=?_) (l':=?_) (t':=?_) rfl rfl (fun _ _ _ h=>h) hHeld (by kernel_rfl) ?_ ?_ ?_ ?_ ?_;rotate_left 3;dsimp only [s0,s1];rfl;kernel_rfl;rintro w' ⟨s0,s1,s2,s3,s4,s5,s6,s7⟩;go_simp;with_reducible rfl;dsimp only [s0,s1];rfl))
     refine Ord.nil ?_
     refine one_ (i:=2) (N:=some 5) #[true,true,true,false,false,false,false,false,false,false,false,false,false,false,false,false,false,false,false,false,false,false,false,false,false,false,false,false,false,false] rfl rfl (by kernel_rfl) (by decide) (fun K hK=>?_)
     refine goes_ Try.func51 (by kernel_rfl) rfl #[.agg #[.int .i64 a0_0,.int .i64 a0_1,.int .i64 a0_2]] (by rfl) rfl rfl (by simp only [mAXFlash_,mCXFlash_,mNXFlash_];rfl) ?_
     with_reducible refine (HVG.out _).mono ?_
     rintro e w1 ⟨rfl, hb1⟩
     refine ⟨_, rfl, ?_⟩
     refine hK.out _ _ ⟨(pw_cell_below hb1 hHeld.1),(pw_cell_below hb1 hHeld.2.1),(pw_cell_below hb1 hHeld.2.2.1),(pw_cell_below hb1 hHeld.2.2.2.1),(pw_cell_below hb1 hHeld.2.2.2.2.1),(pw_cell_below hb1 hHeld.2.2.2.2.2.1),(pw_cell_below hb1 hHeld.2.2.2.2.2.2.1),⟨hHeld.2.2.2.2.2.2.2.out.trans (hb1.mono hHeld.2.2.2.2.2.2.2.out.size)⟩⟩ (fun hHeld=>?_)
     clear hK K
     refine norm_ (a' := ?_) ?_ ?_
     rotate_left
     ·show Act.put _ (some 5) _ = _
      simp only [Act.put,lSXFlash_,lZXFlash_,lCXFlash_,i64_w,i32_w]
      rfl
     refine ord_ [(1,3,some 6),(1,4,some 7),(1,5,some 8),(1,8,some 11),(2,6,some 9),(1,7,some 10),(2,9,some 12)] ?_
     repeat (first|(refine Ord.pureL (v:=?_) (l':=?_) (t':=?_) rfl rfl (fun _ _ _ h=>h) (by kernel_rfl) ?_ ?_ ?_ ?_ ?_;rotate_left 3;dsimp only [s0,s1];rfl;kernel_rfl;intro w';go_simp;(try simp only [i64_w]);with_reducible rfl;dsimp only [s0,s1];rfl)|(refine Ord.takeL (v:=?_) (l':=?_) (t':=?_) rfl rfl (fun _ _ _ h=>h) hHeld (by kernel_rfl) ?_ ?_ ?_ ?_ ?_;rotate_left 3;dsimp only [s0,s1];rfl;kernel_rfl;rintro w' ⟨s0,s1,s2,s3,s4,s5,s6,s7⟩;go_simp;with_reducible rfl;dsimp only [s0,s1];rfl))
     refine Ord.nil ?_
     refine one_ (i:=10) (N:=some 13) #[true,true,true,true,true,true,true,true,true,true,true,false,false,false,false,false,false,false,false,false,false,false,false,false,false,false,false,false,false,false] rfl rfl (by kernel_rfl) (by decide) (fun K hK=>?_)
     refine goes_ Try.func27 (by kernel_rfl) rfl #[.agg #[.int .i64 a0_0,.int .i64 a0_1,.int .i64 a0_2]] (by rfl) rfl rfl (by simp only [mAXFlash_,mCXFlash_,mNXFlash_];rfl) ?_
     with_reducible refine (HAL.out _).mono ?_
     rintro e w2 ⟨rfl, hb2⟩
     refine ⟨_, rfl, ?_⟩
     refine hK.out _ _ ⟨(pw_cell_below hb2 hHeld.1),(pw_cell_below hb2 hHeld.2.1),(pw_cell_below hb2 hHeld.2.2.1),(pw_cell_below hb2 hHeld.2.2.2.1),(pw_cell_below hb2 hHeld.2.2.2.2.1),(pw_cell_below hb2 hHeld.2.2.2.2.2.1),(pw_cell_below hb2 hHeld.2.2.2.2.2.2.1),⟨hHeld.2.2.2.2.2.2.2.out.trans (hb2.mono hHeld.2.2.2.2.2.2.2.out.size)⟩⟩ (fun hHeld=>?_)
     clear hK K
     refine norm_ (a' := ?_) ?_ ?_
     rotate_left
     ·show Act.put _ (some 13) _ = _
      simp only [Act.put,lSXFlash_,lZXFlash_,lCXFlash_,i64_w,i32_w]
      rfl
     refine ord_ [(1,11,some 14),(1,12,some 15),(1,13,some 16),(1,14,some 17),(2,15,some 18)] ?_
     repeat (first|(refine Ord.pureL (v:=?_) (l':=?_) (t':=?_) rfl rfl (fun _ _ _ h=>h) (by kernel_rfl) ?_ ?_ ?_ ?_ ?_;rotate_left 3;dsimp only [s0,s1];rfl;kernel_rfl;intro w';go_simp;(try simp only [i64_w]);with_reducible rfl;dsimp only [s0,s1];rfl)|(refine Ord.takeL (v:=?_) (l':=?_) (t':=?_) rfl rfl (fun _ _ _ h=>h) hHeld (by kernel_rfl) ?_ ?_ ?_ ?_ ?_;rotate_left 3;dsimp only [s0,s1];rfl;kernel_rfl;rintro w' ⟨s0,s1,s2,s3,s4,s5,s6,s7⟩;go_simp;with_reducible rfl;dsimp only [s0,s1];rfl))
     refine Ord.nil ?_
     refine one_ (i:=16) (N:=some 19) #[true,true,true,true,true,true,true,true,true,true,true,true,true,true,true,true,true,false,false,false,false,false,false,false,false,false,false,false,false,false] rfl rfl (by kernel_rfl) (by decide) (fun K hK=>?_)
     refine goes_ Try.func29 (by kernel_rfl) rfl #[.int .i64 a0_4,.int .i64 (-1),.int .i64 1000000] (by rfl) rfl rfl (by simp only [mAXFlash_,mCXFlash_,mNXFlash_];rfl) ?_
     with_reducible refine (HW1.out _).mono ?_
     rintro e w3 ⟨rfl, hb3⟩
     refine ⟨_, rfl, ?_⟩
     refine hK.out _ _ ⟨(pw_cell_below hb3 hHeld.1),(pw_cell_below hb3 hHeld.2.1),(pw_cell_below hb3 hHeld.2.2.1),(pw_cell_below hb3 hHeld.2.2.2.1),(pw_cell_below hb3 hHeld.2.2.2.2.1),(pw_cell_below hb3 hHeld.2.2.2.2.2.1),(pw_cell_below hb3 hHeld.2.2.2.2.2.2.1),⟨hHeld.2.2.2.2.2.2.2.out.trans (hb3.mono hHeld.2.2.2.2.2.2.2.out.size)⟩⟩ (fun hHeld=>?_)
     clear hK K
     refine norm_ (a' := ?_) ?_ ?_
     rotate_left
     ·show Act.put _ (some 19) _ = _
      simp only [Act.put,lSXFlash_,lZXFlash_,lCXFlash_,i64_w,i32_w]
      rfl
     refine ord_ [(1,17,some 20),(1,18,some 21),(1,19,some 22),(1,20,some 23),(2,21,some 24)] ?_
     repeat (first|(refine Ord.pureL (v:=?_) (l':=?_) (t':=?_) rfl rfl (fun _ _ _ h=>h) (by kernel_rfl) ?_ ?_ ?_ ?_ ?_;rotate_left 3;dsimp only [s0,s1];rfl;kernel_rfl;intro w';go_simp;(try simp only [i64_w]);with_reducible rfl;dsimp only [s0,s1];rfl)|(refine Ord.takeL (v:=?_) (l':=?_) (t':=?_) rfl rfl (fun _ _ _ h=>h) hHeld (by kernel_rfl) ?_ ?_ ?_ ?_ ?_;rotate_left 3;dsimp only [s0,s1];rfl;kernel_rfl;rintro w' ⟨s0,s1,s2,s3,s4,s5,s6,s7⟩;go_simp;with_reducible rfl;dsimp only [s0,s1];rfl))
     refine Ord.nil ?_
     refine one_ (i:=22) (N:=some 25) #[true,true,true,true,true,true,true,true,true,true,true,true,true,true,true,true,true,true,true,true,true,true,true,false,false,false,false,false,false,false] rfl rfl (by kernel_rfl) (by decide) (fun K hK=>?_)
     refine goes_ Try.func29 (by kernel_rfl) rfl #[.int .i64 a0_5,.int .i64 0,.int .i64 91] (by rfl) rfl rfl (by simp only [mAXFlash_,mCXFlash_,mNXFlash_];rfl) ?_
     with_reducible refine (HW2.out _).mono ?_
     rintro e w4 ⟨rfl, hb4⟩
     refine ⟨_, rfl, ?_⟩
     refine hK.out _ _ ⟨(pw_cell_below hb4 hHeld.1),(pw_cell_below hb4 hHeld.2.1),(pw_cell_below hb4 hHeld.2.2.1),(pw_cell_below hb4 hHeld.2.2.2.1),(pw_cell_below hb4 hHeld.2.2.2.2.1),(pw_cell_below hb4 hHeld.2.2.2.2.2.1),(pw_cell_below hb4 hHeld.2.2.2.2.2.2.1),⟨hHeld.2.2.2.2.2.2.2.out.trans (hb4.mono hHeld.2.2.2.2.2.2.2.out.size)⟩⟩ (fun hHeld=>?_)
     clear hK K
     refine norm_ (a' := ?_) ?_ ?_
     rotate_left
     ·show Act.put _ (some 25) _ = _
      simp only [Act.put,lSXFlash_,lZXFlash_,lCXFlash_,i64_w,i32_w]
      rfl
     refine ord_ [(1,23,some 26),(1,24,some 27),(1,25,some 28),(0,26,some 29),(0,27,some 30),(0,28,some 31),(1,29,some 32)] ?_
     repeat (first|(refine Ord.offL (l':=?_) (t':=?_) rfl rfl (fun _ _ _ h=>h) (by kernel_rfl) ?_ ?_ ?_ ?_;rotate_left 2;dsimp only [s0,s1];rfl;kernel_rfl;dsimp only [s0,s1];rfl)|(refine Ord.pureL (v:=?_) (l':=?_) (t':=?_) rfl rfl (fun _ _ _ h=>h) (by kernel_rfl) ?_ ?_ ?_ ?_ ?_;rotate_left 3;dsimp only [s0,s1];rfl;kernel_rfl;intro w';go_simp;(try simp only [i64_w]);with_reducible rfl;dsimp only [s0,s1];rfl))
     refine Ord.nil ?_
     refine done_ (by kernel_rfl) ?_
     clear c0 c1 c2 c3 c4 c5 c7
     obtain ⟨q0, q1, q2, q3, q4, q5, q7, HW⟩ := hHeld
     go_wp2
     go_ret
     exact ⟨by rw [HF.out];rfl,HB.out.trans (HW.out.mono HB.out.size)⟩
   ·rw [decide_eq_false t2] at HW1
    have HF:Aside0 (flashB a0_0 a0_1 a0_2 l0_3 a0_4 a0_5 a0_7=false):=⟨by unfold flashB;rw [t0,decide_eq_true t1,decide_eq_false t2];simp⟩
    clear t0 t1 t2
    go_enter Try.func25, Try.ntmps25
    go_wp2_with fail
    generalize w.alloc (.cells #[.int .i64 a0_0,.int .i64 a0_1,.int .i64 a0_2,.slice A0_3 l0_3.length c0_3,.int .i64 a0_4,.int .i64 a0_5,.bool a0_6,.int .i64 a0_7] 40)=W1 at c0 c1 c2 c3 c4 c5 c7 HB ⊢
    (try simp only [Act.put,lSXFlash_,lZXFlash_,lCXFlash_])
    refine start_ (n:=30) (S:=fun w'=>w'.cell? ⟨w.heap.size,0,none⟩=some (.int .i64 a0_0)∧w'.cell? ⟨w.heap.size,1,none⟩=some (.int .i64 a0_1)∧w'.cell? ⟨w.heap.size,2,none⟩=some (.int .i64 a0_2)∧w'.cell? ⟨w.heap.size,3,none⟩=some (.slice A0_3 l0_3.length c0_3)∧w'.cell? ⟨w.heap.size,4,none⟩=some (.int .i64 a0_4)∧w'.cell? ⟨w.heap.size,5,none⟩=some (.int .i64 a0_5)∧w'.cell? ⟨w.heap.size,7,none⟩=some (.int .i64 a0_7)∧Aside0 (Below W1.heap.size W1 w')) (ds:=[]) #[false,false,false,false,false,false,false,false,false,false,false,false,false,false,false,false,false,false,false,false,false,false,false,false,false,false,false,false,false,false] (by kernel_rfl) rfl rfl ⟨c0,c1,c2,c3,c4,c5,c7,⟨below_drew1 (Below.refl _ _)⟩⟩ (fun hHeld=>?_)
    refine ord_ [(1, 0, some 3), (2, 1, some 4)] ?_
    repeat (first|(refine Ord.pureL (v:=?_) (l':=?_) (t':=?_) rfl rfl (fun _ _ _ h=>h) (by kernel_rfl) ?_ ?_ ?_ ?_ ?_;rotate_left 3;dsimp only [s0,s1];rfl;kernel_rfl;intro w';go_simp;(try simp only [i64_w]);with_reducible rfl;dsimp only [s0,s1];rfl)|(refine Ord.takeL (v:=?_) (l':=?_) (t':=?_) rfl rfl (fun _ _ _ h=>h) hHeld (by kernel_rfl) ?_ ?_ ?_ ?_ ?_;rotate_left 3;dsimp only [s0,s1];rfl;kernel_rfl;rintro w' ⟨s0,s1,s2,s3,s4,s5,s6,s7⟩;go_simp;with_reducible rfl;dsimp only [s0,s1];rfl))
    refine Ord.nil ?_
    refine one_ (i:=2) (N:=some 5) #[true,true,true,false,false,false,false,false,false,false,false,false,false,false,false,false,false,false,false,false,false,false,false,false,false,false,false,false,false,false] rfl rfl (by kernel_rfl) (by decide) (fun K hK=>?_)
    refine goes_ Try.func51 (by kernel_rfl) rfl #[.agg #[.int .i64 a0_0,.int .i64 a0_1,.int .i64 a0_2]] (by rfl) rfl rfl (by simp only [mAXFlash_,mCXFlash_,mNXFlash_];rfl) ?_
    with_reducible refine (HVG.out _).mono ?_
    rintro e w1 ⟨rfl, hb1⟩
    refine ⟨_, rfl, ?_⟩
    refine hK.out _ _ ⟨(pw_cell_below hb1 hHeld.1),(pw_cell_below hb1 hHeld.2.1),(pw_cell_below hb1 hHeld.2.2.1),(pw_cell_below hb1 hHeld.2.2.2.1),(pw_cell_below hb1 hHeld.2.2.2.2.1),(pw_cell_below hb1 hHeld.2.2.2.2.2.1),(pw_cell_below hb1 hHeld.2.2.2.2.2.2.1),⟨hHeld.2.2.2.2.2.2.2.out.trans (hb1.mono hHeld.2.2.2.2.2.2.2.out.size)⟩⟩ (fun hHeld=>?_)
    clear hK K
    refine norm_ (a' := ?_) ?_ ?_
    rotate_left
    ·show Act.put _ (some 5) _ = _
     simp only [Act.put,lSXFlash_,lZXFlash_,lCXFlash_,i64_w,i32_w]
     rfl
    refine ord_ [(1,3,some 6),(1,4,some 7),(1,5,some 8),(1,8,some 11),(2,6,some 9),(1,7,some 10),(2,9,some 12)] ?_
    repeat (first|(refine Ord.pureL (v:=?_) (l':=?_) (t':=?_) rfl rfl (fun _ _ _ h=>h) (by kernel_rfl) ?_ ?_ ?_ ?_ ?_;rotate_left 3;dsimp only [s0,s1];rfl;kernel_rfl;intro w';go_simp;(try simp only [i64_w]);with_reducible rfl;dsimp only [s0,s1];rfl)|(refine Ord.takeL (v:=?_) (l':=?_) (t':=?_) rfl rfl (fun _ _ _ h=>h) hHeld (by kernel_rfl) ?_ ?_ ?_ ?_ ?_;rotate_left 3;dsimp only [s0,s1];rfl;kernel_rfl;rintro w' ⟨s0,s1,s2,s3,s4,s5,s6,s7⟩;go_simp;with_reducible rfl;dsimp only [s0,s1];rfl))
    refine Ord.nil ?_
    refine one_ (i:=10) (N:=some 13) #[true,true,true,true,true,true,true,true,true,true,true,false,false,false,false,false,false,false,false,false,false,false,false,false,false,false,false,false,false,false] rfl rfl (by kernel_rfl) (by decide) (fun K hK=>?_)
    refine goes_ Try.func27 (by kernel_rfl) rfl #[.agg #[.int .i64 a0_0,.int .i64 a0_1,.int .i64 a0_2]] (by rfl) rfl rfl (by simp only [mAXFlash_,mCXFlash_,mNXFlash_];rfl) ?_
    with_reducible refine (HAL.out _).mono ?_
    rintro e w2 ⟨rfl, hb2⟩
    refine ⟨_, rfl, ?_⟩
    refine hK.out _ _ ⟨(pw_cell_below hb2 hHeld.1),(pw_cell_below hb2 hHeld.2.1),(pw_cell_below hb2 hHeld.2.2.1),(pw_cell_below hb2 hHeld.2.2.2.1),(pw_cell_below hb2 hHeld.2.2.2.2.1),(pw_cell_below hb2 hHeld.2.2.2.2.2.1),(pw_cell_below hb2 hHeld.2.2.2.2.2.2.1),⟨hHeld.2.2.2.2.2.2.2.out.trans (hb2.mono hHeld.2.2.2.2.2.2.2.out.size)⟩⟩ (fun hHeld=>?_)
    clear hK K
    refine norm_ (a' := ?_) ?_ ?_
    rotate_left
    ·show Act.put _ (some 13) _ = _
     simp only [Act.put,lSXFlash_,lZXFlash_,lCXFlash_,i64_w,i32_w]
     rfl
    refine ord_ [(1,11,some 14),(1,12,some 15),(1,13,some 16),(1,14,some 17),(2,15,some 18)] ?_
    repeat (first|(refine Ord.pureL (v:=?_) (l':=?_) (t':=?_) rfl rfl (fun _ _ _ h=>h) (by kernel_rfl) ?_ ?_ ?_ ?_ ?_;rotate_left 3;dsimp only [s0,s1];rfl;kernel_rfl;intro w';go_simp;(try simp only [i64_w]);with_reducible rfl;dsimp only [s0,s1];rfl)|(refine Ord.takeL (v:=?_) (l':=?_) (t':=?_) rfl rfl (fun _ _ _ h=>h) hHeld (by kernel_rfl) ?_ ?_ ?_ ?_ ?_;rotate_left 3;dsimp only [s0,s1];rfl;kernel_rfl;rintro w' ⟨s0,s1,s2,s3,s4,s5,s6,s7⟩;go_simp;with_reducible rfl;dsimp only [s0,s1];rfl))
    refine Ord.nil ?_
    refine one_ (i:=16) (N:=some 19) #[true,true,true,true,true,true,true,true,true,true,true,true,true,true,true,true,true,false,false,false,false,false,false,false,false,false,false,false,false,false] rfl rfl (by kernel_rfl) (by decide) (fun K hK=>?_)
    refine goes_ Try.func29 (by kernel_rfl) rfl #[.int .i64 a0_4,.int .i64 (-1),.int .i64 1000000] (by rfl) rfl rfl (by simp only [mAXFlash_,mCXFlash_,mNXFlash_];rfl) ?_
    with_reducible refine (HW1.out _).mono ?_
    rintro e w3 ⟨rfl, hb3⟩
    refine ⟨_, rfl, ?_⟩
    refine hK.out _ _ ⟨(pw_cell_below hb3 hHeld.1),(pw_cell_below hb3 hHeld.2.1),(pw_cell_below hb3 hHeld.2.2.1),(pw_cell_below hb3 hHeld.2.2.2.1),(pw_cell_below hb3 hHeld.2.2.2.2.1),(pw_cell_below hb3 hHeld.2.2.2.2.2.1),(pw_cell_below hb3 hHeld.2.2.2.2.2.2.1),⟨hHeld.2.2.2.2.2.2.2.out.trans (hb3.mono hHeld.2.2.2.2.2.2.2.out.size)⟩⟩ (fun hHeld=>?_)
    clear hK K
    refine norm_ (a' := ?_) ?_ ?_
    rotate_left
    ·show Act.put _ (some 19) _ = _
     simp only [Act.put,lSXFlash_,lZXFlash_,lCXFlash_,i64_w,i32_w]
     rfl
    refine ord_ [(1,17,some 20),(1,18,some 21),(1,19,some 22),(0,20,some 23),(0,21,some 24),(0,22,some 25),(0,23,some 26),(1,24,some 27),(1,25,some 28),(0,26,some 29),(0,27,some 30),(0,28,some 31),(1,29,some 32)] ?_
    repeat (first|(refine Ord.offL (l':=?_) (t':=?_) rfl rfl (fun _ _ _ h=>h) (by kernel_rfl) ?_ ?_ ?_ ?_;rotate_left 2;dsimp only [s0,s1];rfl;kernel_rfl;dsimp only [s0,s1];rfl)|(refine Ord.pureL (v:=?_) (l':=?_) (t':=?_) rfl rfl (fun _ _ _ h=>h) (by kernel_rfl) ?_ ?_ ?_ ?_ ?_;rotate_left 3;dsimp only [s0,s1];rfl;kernel_rfl;intro w';go_simp;(try simp only [i64_w]);with_reducible rfl;dsimp only [s0,s1];rfl))
    refine Ord.nil ?_
    refine done_ (by kernel_rfl) ?_
    clear c0 c1 c2 c3 c4 c5 c7
    obtain ⟨q0, q1, q2, q3, q4, q5, q7, HW⟩ := hHeld
    go_wp2
    go_ret
    exact ⟨by rw [HF.out];rfl,HB.out.trans (HW.out.mono HB.out.size)⟩
  ·have b1:((l0_3.length:Int) == wrap64 (a0_0 * a0_1))=false:=beq_eq_false_iff_ne.2 t1
   have b1n:((l0_3.length:Int) != wrap64 (a0_0 * a0_1))=true:=by rw [bne,b1];rfl
   have HF:Aside0 (flashB a0_0 a0_1 a0_2 l0_3 a0_4 a0_5 a0_7=false):=⟨by unfold flashB;rw [t0,decide_eq_false t1];simp⟩
   clear t0 t1
   go_enter Try.func25, Try.ntmps25
   go_wp2_with fail
   generalize w.alloc (.cells #[.int .i64 a0_0,.int .i64 a0_1,.int .i64 a0_2,.slice A0_3 l0_3.length c0_3,.int .i64 a0_4,.int .i64 a0_5,.bool a0_6,.int .i64 a0_7] 40)=W1 at c0 c1 c2 c3 c4 c5 c7 HB ⊢
   (try simp only [Act.put,lSXFlash_,lZXFlash_,lCXFlash_])
   refine start_ (n:=30) (S:=fun w'=>w'.cell? ⟨w.heap.size,0,none⟩=some (.int .i64 a0_0)∧w'.cell? ⟨w.heap.size,1,none⟩=some (.int .i64 a0_1)∧w'.cell? ⟨w.heap.size,2,none⟩=some (.int .i64 a0_2)∧w'.cell? ⟨w.heap.size,3,none⟩=some (.slice A0_3 l0_3.length c0_3)∧w'.cell? ⟨w.heap.size,4,none⟩=some (.int .i64 a0_4)∧w'.cell? ⟨w.heap.size,5,none⟩=some (.int .i64 a0_5)∧w'.cell? ⟨w.heap.size,7,none⟩=some (.int .i64 a0_7)∧Aside0 (Below W1.heap.size W1 w')) (ds:=[]) #[false,false,false,false,false,false,false,false,false,false,false,false,false,false,false,false,false,false,false,false,false,false,false,false,false,false,false,false,false,false] (by kernel_rfl) rfl rfl ⟨c0,c1,c2,c3,c4,c5,c7,⟨below_drew1 (Below.refl _ _)⟩⟩ (fun hHeld=>?_)
   refine ord_ [(1, 0, some 3), (2, 1, some 4)] ?_
   repeat (first|(refine Ord.pureL (v:=?_) (l':=?_) (t':=?_) rfl rfl (fun _ _ _ h=>h) (by kernel_rfl) ?_ ?_ ?_ ?_ ?_;rotate_left 3;dsimp only [s0,s1];rfl;kernel_rfl;intro w';go_simp;(try simp only [i64_w]);with_reducible rfl;dsimp only [s0,s1];rfl)|(refine Ord.takeL (v:=?_) (l':=?_) (t':=?_) rfl rfl (fun _ _ _ h=>h) hHeld (by kernel_rfl) ?_ ?_ ?_ ?_ ?_;rotate_left 3;dsimp only [s0,s1];rfl;kernel_rfl;rintro w' ⟨s0,s1,s2,s3,s4,s5,s6,s7⟩;go_simp;with_reducible rfl;dsimp only [s0,s1];rfl))
   refine Ord.nil ?_
   refine one_ (i:=2) (N:=some 5) #[true,true,true,false,false,false,false,false,false,false,false,false,false,false,false,false,false,false,false,false,false,false,false,false,false,false,false,false,false,false] rfl rfl (by kernel_rfl) (by decide) (fun K hK=>?_)
   refine goes_ Try.func51 (by kernel_rfl) rfl #[.agg #[.int .i64 a0_0,.int .i64 a0_1,.int .i64 a0_2]] (by rfl) rfl rfl (by simp only [mAXFlash_,mCXFlash_,mNXFlash_];rfl) ?_
   with_reducible refine (HVG.out _).mono ?_
   rintro e w1 ⟨rfl, hb1⟩
   refine ⟨_, rfl, ?_⟩
   refine hK.out _ _ ⟨(pw_cell_below hb1 hHeld.1),(pw_cell_below hb1 hHeld.2.1),(pw_cell_below hb1 hHeld.2.2.1),(pw_cell_below hb1 hHeld.2.2.2.1),(pw_cell_below hb1 hHeld.2.2.2.2.1),(pw_cell_below hb1 hHeld.2.2.2.2.2.1),(pw_cell_below hb1 hHeld.2.2.2.2.2.2.1),⟨hHeld.2.2.2.2.2.2.2.out.trans (hb1.mono hHeld.2.2.2.2.2.2.2.out.size)⟩⟩ (fun hHeld=>?_)
   clear hK K
   refine norm_ (a' := ?_) ?_ ?_
   rotate_left
   ·show Act.put _ (some 5) _ = _
    simp only [Act.put,lSXFlash_,lZXFlash_,lCXFlash_,i64_w,i32_w]
    rfl
   refine ord_ [(1,3,some 6),(1,4,some 7),(1,5,some 8),(1,8,some 11),(2,6,some 9),(1,7,some 10),(2,9,some 12)] ?_
   repeat (first|(refine Ord.pureL (v:=?_) (l':=?_) (t':=?_) rfl rfl (fun _ _ _ h=>h) (by kernel_rfl) ?_ ?_ ?_ ?_ ?_;rotate_left 3;dsimp only [s0,s1];rfl;kernel_rfl;intro w';go_simp;(try simp only [i64_w]);with_reducible rfl;dsimp only [s0,s1];rfl)|(refine Ord.takeL (v:=?_) (l':=?_) (t':=?_) rfl rfl (fun _ _ _ h=>h) hHeld (by kernel_rfl) ?_ ?_ ?_ ?_ ?_;rotate_left 3;dsimp only [s0,s1];rfl;kernel_rfl;rintro w' ⟨s0,s1,s2,s3,s4,s5,s6,s7⟩;go_simp;with_reducible rfl;dsimp only [s0,s1];rfl))
   refine Ord.nil ?_
   refine one_ (i:=10) (N:=some 13) #[true,true,true,true,true,true,true,true,true,true,true,false,false,false,false,false,false,false,false,false,false,false,false,false,false,false,false,false,false,false] rfl rfl (by kernel_rfl) (by decide) (fun K hK=>?_)
   refine goes_ Try.func27 (by kernel_rfl) rfl #[.agg #[.int .i64 a0_0,.int .i64 a0_1,.int .i64 a0_2]] (by rfl) rfl rfl (by simp only [mAXFlash_,mCXFlash_,mNXFlash_];rfl) ?_
   with_reducible refine (HAL.out _).mono ?_
   rintro e w2 ⟨rfl, hb2⟩
   refine ⟨_, rfl, ?_⟩
   refine hK.out _ _ ⟨(pw_cell_below hb2 hHeld.1),(pw_cell_below hb2 hHeld.2.1),(pw_cell_below hb2 hHeld.2.2.1),(pw_cell_below hb2 hHeld.2.2.2.1),(pw_cell_below hb2 hHeld.2.2.2.2.1),(pw_cell_below hb2 hHeld.2.2.2.2.2.1),(pw_cell_below hb2 hHeld.2.2.2.2.2.2.1),⟨hHeld.2.2.2.2.2.2.2.out.trans (hb2.mono hHeld.2.2.2.2.2.2.2.out.size)⟩⟩ (fun hHeld=>?_)
   clear hK K
   refine norm_ (a' := ?_) ?_ ?_
   rotate_left
   ·show Act.put _ (some 13) _ = _
    simp only [Act.put,lSXFlash_,lZXFlash_,lCXFlash_,i64_w,i32_w]
    rfl
   refine ord_ [(1,11,some 14),(1,12,some 15),(1,13,some 16),(0,14,some 17),(0,15,some 18),(0,16,some 19),(0,17,some 20),(1,18,some 21),(1,19,some 22),(0,20,some 23),(0,21,some 24),(0,22,some 25),(0,23,some 26),(1,24,some 27),(1,25,some 28),(0,26,some 29),(0,27,some 30),(0,28,some 31),(1,29,some 32)] ?_
   repeat (first|(refine Ord.offL (l':=?_) (t':=?_) rfl rfl (fun _ _ _ h=>h) (by kernel_rfl) ?_ ?_ ?_ ?_;rotate_left 2;dsimp only [s0,s1];rfl;kernel_rfl;dsimp only [s0,s1];rfl)|(refine Ord.pureL (v:=?_) (l':=?_) (t':=?_) rfl rfl (fun _ _ _ h=>h) (by kernel_rfl) ?_ ?_ ?_ ?_ ?_;rotate_left 3;dsimp only [s0,s1];rfl;kernel_rfl;intro w';go_simp;(try simp only [i64_w]);with_reducible rfl;dsimp only [s0,s1];rfl))
   refine Ord.nil ?_
   refine done_ (by kernel_rfl) ?_
   clear c0 c1 c2 c3 c4 c5 c7
   obtain ⟨q0, q1, q2, q3, q4, q5, q7, HW⟩ := hHeld
   go_wp2
   go_ret
   exact ⟨by rw [HF.out];rfl,HB.out.trans (HW.out.mono HB.out.size)⟩
 ·rw [Bool.eq_false_iff.2 t0] at HVG
  have HF:Aside0 (flashB a0_0 a0_1 a0_2 l0_3 a0_4 a0_5 a0_7=false):=⟨by unfold flashB;rw [Bool.eq_false_iff.2 t0];simp⟩
  clear t0
  go_enter Try.func25, Try.ntmps25
  go_wp2_with fail
  generalize w.alloc (.cells #[.int .i64 a0_0,.int .i64 a0_1,.int .i64 a0_2,.slice A0_3 l0_3.length c0_3,.int .i64 a0_4,.int .i64 a0_5,.bool a0_6,.int .i64 a0_7] 40)=W1 at c0 c1 c2 c3 c4 c5 c7 HB ⊢
  (try simp only [Act.put,lSXFlash_,lZXFlash_,lCXFlash_])
  refine start_ (n:=30) (S:=fun w'=>w'.cell? ⟨w.heap.size,0,none⟩=some (.int .i64 a0_0)∧w'.cell? ⟨w.heap.size,1,none⟩=some (.int .i64 a0_1)∧w'.cell? ⟨w.heap.size,2,none⟩=some (.int .i64 a0_2)∧w'.cell? ⟨w.heap.size,3,none⟩=some (.slice A0_3 l0_3.length c0_3)∧w'.cell? ⟨w.heap.size,4,none⟩=some (.int .i64 a0_4)∧w'.cell? ⟨w.heap.size,5,none⟩=some (.int .i64 a0_5)∧w'.cell? ⟨w.heap.size,7,none⟩=some (.int .i64 a0_7)∧Aside0 (Below W1.heap.size W1 w')) (ds:=[]) #[false,false,false,false,false,false,false,false,false,false,false,false,false,false,false,false,false,false,false,false,false,false,false,false,false,false,false,false,false,false] (by kernel_rfl) rfl rfl ⟨c0,c1,c2,c3,c4,c5,c7,⟨below_drew1 (Below.refl _ _)⟩⟩ (fun hHeld=>?_)
  refine ord_ [(1, 0, some 3), (2, 1, some 4)] ?_
  repeat (first|(refine Ord.pureL (v:=?_) (l':=?_) (t':=?_) rfl rfl (fun _ _ _ h=>h) (by kernel_rfl) ?_ ?_ ?_ ?_ ?_;rotate_left 3;dsimp only [s0,s1];rfl;kernel_rfl;intro w';go_simp;(try simp only [i64_w]);with_reducible rfl;dsimp only [s0,s1];rfl)|(refine Ord.takeL (v:=?_) (l':=?_) (t':=?_) rfl rfl (fun _ _ _ h=>h) hHeld (by kernel_rfl) ?_ ?_ ?_ ?_ ?_;rotate_left 3;dsimp only [s0,s1];rfl;kernel_rfl;rintro w' ⟨s0,s1,s2,s3,s4,s5,s6,s7⟩;go_simp;with_reducible rfl;dsimp only [s0,s1];rfl))
  refine Ord.nil ?_
  refine one_ (i:=2) (N:=some 5) #[true,true,true,false,false,false,false,false,false,false,false,false,false,false,false,false,false,false,false,false,false,false,false,false,false,false,false,false,false,false] rfl rfl (by kernel_rfl) (by decide) (fun K hK=>?_)
  refine goes_ Try.func51 (by kernel_rfl) rfl #[.agg #[.int .i64 a0_0,.int .i64 a0_1,.int .i64 a0_2]] (by rfl) rfl rfl (by simp only [mAXFlash_,mCXFlash_,mNXFlash_];rfl) ?_
  with_reducible refine (HVG.out _).mono ?_
  rintro e w1 ⟨rfl, hb1⟩
  refine ⟨_, rfl, ?_⟩
  refine hK.out _ _ ⟨(pw_cell_below hb1 hHeld.1),(pw_cell_below hb1 hHeld.2.1),(pw_cell_below hb1 hHeld.2.2.1),(pw_cell_below hb1 hHeld.2.2.2.1),(pw_cell_below hb1 hHeld.2.2.2.2.1),(pw_cell_below hb1 hHeld.2.2.2.2.2.1),(pw_cell_below hb1 hHeld.2.2.2.2.2.2.1),⟨hHeld.2.2.2.2.2.2.2.out.trans (hb1.mono hHeld.2.2.2.2.2.2.2.out.size)⟩⟩ (fun hHeld=>?_)
  clear hK K
  refine norm_ (a' := ?_) ?_ ?_
  rotate_left
  ·show Act.put _ (some 5) _ = _
   simp only [Act.put,lSXFlash_,lZXFlash_,lCXFlash_,i64_w,i32_w]
   rfl
  refine ord_ [(1,3,some 6),(1,4,some 7),(0,5,some 8),(0,6,some 9),(0,7,some 10),(0,8,some 11),(0,9,some 12),(0,10,some 13),(0,11,some 14),(1,12,some 15),(1,13,some 16),(0,14,some 17),(0,15,some 18),(0,16,some 19),(0,17,some 20),(1,18,some 21),(1,19,some 22),(0,20,some 23),(0,21,some 24),(0,22,some 25),(0,23,some 26),(1,24,some 27),(1,25,some 28),(0,26,some 29),(0,27,some 30),(0,28,some 31),(1,29,some 32)] ?_
  repeat (first|(refine Ord.offL (l':=?_) (t':=?_) rfl rfl (fun _ _ _ h=>h) (by kernel_rfl) ?_ ?_ ?_ ?_;rotate_left 2;dsimp only [s0,s1];rfl;kernel_rfl;dsimp only [s0,s1];rfl)|(refine Ord.pureL (v:=?_) (l':=?_) (t':=?_) rfl rfl (fun _ _ _ h=>h) (by kernel_rfl) ?_ ?_ ?_ ?_ ?_;rotate_left 3;dsimp only [s0,s1];rfl;kernel_rfl;intro w';go_simp;(try simp only [i64_w]);with_reducible rfl;dsimp only [s0,s1];rfl))
  refine Ord.nil ?_
  refine done_ (by kernel_rfl) ?_
  clear c0 c1 c2 c3 c4 c5 c7
  obtain ⟨q0, q1, q2, q3, q4, q5, q7, HW⟩ := hHeld
  go_wp2
  go_ret
  exact ⟨by rw [HF.out];rfl,HB.out.trans (HW.out.mono HB.out.size)⟩
end Go.Proofs.Ytajocpalpnpmdaa.Q
