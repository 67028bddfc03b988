/- The specification's and the program's FreeBlocks over a readable layer. Conditions: those before each theorem. -/
import Derived.Test.YtajocpalpnpmdaaXMidHeat
import Derived.Test.YtajocpalpnpmdaaFlashV
import Derived.Test.YtajocpalpnpmdaaXMidCoreA
import Derived.Test.YtajocpalpnpmdaaOpaque
import Derived.Test.YtajocpalpnpmdaaXIdxI
import Derived.Test.YtajocpalpnpmdaaNum
import Derived.Test.YtajocpalpnpmdaaXMidFtl
import Derived.Test.YtajocpalpnpmdaaXValidFTL
import Derived.Test.YtajocpalpnpmdaaOFtl
import Derived.Test.YtajocpalpnpmdaaMapOk
import Derived.Test.YtajocpalpnpmdaaQ5
namespace Go.Proofs.Ytajocpalpnpmdaa.Q
open Go.RowKit Go.Proofs.YtajocpalpnpmdaaW.PrintWords Go.Proofs.YtajocpalpnpmdaaW.PrintMore
abbrev lSXFreeC_ := @List.setIfInBounds_toArray
abbrev lZXFreeC_ := @List.set_cons_zero
abbrev lCXFreeC_ := @List.set_cons_succ
set_option linter.unusedVariables false
set_option linter.unusedSimpArgs false
set_option maxHeartbeats 4000000 in
theorem isFreeS_calls (g:Nat) (A3:Option Addr) (c3:Nat) (L:List (S92)) (A15:Option Addr) (n15 c15:Nat) (x:Int) (bH:Bool) (w:World) (h3:w.cell? ⟨g,3,none⟩=some (.slice A3 L.length c3)) (h15:w.cell? ⟨g,15,none⟩=some (.slice A15 n15 c15))
  (hr:Kd.C k92 w A3 L.length L) (hx:0≤x∧x < L.length) (hH:∀ W,Below w.heap.size w W→Calls Try.prog 76 #[.slice A15 n15 c15,.int .i64 x] W fun e w'=>e=.returned (.bool bH)∧Below W.heap.size W w') :
  Calls Try.prog 63 #[.pointer (some ⟨g,0,none⟩),.int .i64 x] w fun e w'=>e=.returned (.bool (((rd_T92 L x).f1 == 0) && (!(rd_T92 L x).f2 && !bH)))∧Below w.heap.size w w':=by
 obtain ⟨ad,Ap,cp,hA,e0,e1,e2,e3,hl3,hC3⟩:=at_T92 hr x hx.1 (by omega)
 subst hA
 have hxa : 0 ≤ x := hx.1
 have hxb : x < (L.length : Int) := hx.2
 have hxc : decide (0 ≤ x) = true := decide_eq_true hx.1
 have hxd:decide (x < (L.length:Int))=true:=decide_eq_true hx.2
 have HH := Aside0.mk hH
 clear hr hx e0 e3 hl3 hC3 hH
 generalize (rd_T92 L x).f1 = y at e1 ⊢
 generalize (rd_T92 L x).f2 = t at e2 ⊢
 cases hy : (y == 0) with
 | false =>
  rw [Bool.false_and]
  go_enter Try.func63, Try.ntmps63
  go_wp2
  go_ret
  exact ⟨rfl, Below.refl _ _⟩
 | true =>
  rw [Bool.true_and]
  cases t with
  | true =>
   rw [Bool.not_true, Bool.false_and]
   go_enter Try.func63, Try.ntmps63
   go_wp2
   go_ret
   exact ⟨rfl, Below.refl _ _⟩
  | false =>
   rw [Bool.not_false, Bool.true_and]
   go_enter Try.func63, Try.ntmps63
   go_wp2_with (go_at_call 76;with_reducible refine Calls.mono (HH.out _ (Below.refl _ _)) ?_;rintro e w1 ⟨rfl,hb⟩)
   go_ret
   exact ⟨by first | rfl | simp, hb⟩
set_option maxHeartbeats 4000000 in
theorem isFreeI_calls (g:Nat) (A3:Option Addr) (c3:Nat) (L:List (S92)) (A15:Option Addr) (n15 c15:Nat) (x:Int) (bH:Bool) (w:World) (h3:w.cell? ⟨g,3,none⟩=some (.slice A3 L.length c3)) (h15:w.cell? ⟨g,15,none⟩=some (.slice A15 n15 c15))
  (hr:Kd.C k92 w A3 L.length L) (hx:0≤x∧x < L.length) (hH:∀ W,Below w.heap.size w W→Calls Try.prog 57 #[.slice A15 n15 c15,.int .i64 x] W fun e w'=>e=.returned (.bool bH)∧Below W.heap.size W w') :
  Calls Try.prog 64 #[.pointer (some ⟨g,0,none⟩),.int .i64 x] w fun e w'=>e=.returned (.bool (((rd_T92 L x).f1 == 0) && (!(rd_T92 L x).f2 && !bH)))∧Below w.heap.size w w':=by
 obtain ⟨ad,Ap,cp,hA,e0,e1,e2,e3,hl3,hC3⟩:=at_T92 hr x hx.1 (by omega)
 subst hA
 have hu := Try.underlying92
 have LG : g < w.heap.size := World.block_lt_of_cell? w _ h3
 have hxa : 0 ≤ x := hx.1
 have hxb : x < (L.length : Int) := hx.2
 have hxc : decide (0 ≤ x) = true := decide_eq_true hx.1
 have hxd:decide (x < (L.length:Int))=true:=decide_eq_true hx.2
 have HH := Aside0.mk hH
 have HB := Aside0.mk (Below.refl w.heap.size w)
 clear hr hx hl3 hC3 hH
 generalize (rd_T92 L x).f0 = y0 at e0 ⊢
 generalize (rd_T92 L x).f1 = y at e1 ⊢
 generalize (rd_T92 L x).f2 = t at e2 ⊢
 generalize (rd_T92 L x).f3.length = n3 at e3 ⊢
 cases hy : (y == 0) with
 | false =>
  rw [Bool.false_and]
  go_enter Try.func64, Try.ntmps64
  go_wp2
  go_ret
  exact ⟨rfl,by repeat (first|exact HB.out|refine below_set ?_ HB.out.size|exact HB.out.alloc HB.out.size _)⟩
 | true =>
  rw [Bool.true_and]
  cases t with
  | true =>
   rw [Bool.not_true, Bool.false_and]
   go_enter Try.func64, Try.ntmps64
   go_wp2
   go_ret
   exact ⟨rfl,by repeat (first|exact HB.out|refine below_set ?_ HB.out.size|exact HB.out.alloc HB.out.size _)⟩
  | false =>
   rw [Bool.not_false, Bool.true_and]
   go_enter Try.func64, Try.ntmps64
   go_wp2_with (go_at_call 57;with_reducible refine Calls.mono (HH.out _ (by repeat (first|exact HB.out|refine below_set ?_ HB.out.size|exact HB.out.alloc HB.out.size _))) ?_;rintro e w1 ⟨rfl,hb⟩)
   go_ret
   exact ⟨by first|rfl|simp,below_step (by repeat (first|exact HB.out|refine below_set ?_ HB.out.size|exact HB.out.alloc HB.out.size _)) hb⟩
end Go.Proofs.Ytajocpalpnpmdaa.Q
namespace Go.Proofs.Ytajocpalpnpmdaa.Q
open Go.RowKit Go.Proofs.YtajocpalpnpmdaaW.PrintWords Go.Proofs.YtajocpalpnpmdaaW.PrintMore
set_option linter.unusedVariables false
set_option linter.unusedSimpArgs false
def freeN (q : Nat → Bool) : Nat → List Int
 | 0 => []
 | n + 1 => freeN q n ++ (if q n = true then [(n : Int)] else [])
theorem freeN_len (q : Nat → Bool) : ∀ n, (freeN q n).length ≤ n
 | 0 => Nat.le_refl _
 | n + 1 => by
  have := freeN_len q n
  unfold freeN
  split <;> simp <;> omega
def freeQ (L:List (S92)) (O:List Int) (x:Nat):Bool:=((rd_T92 L (x:Int)).f1 == 0) && (!(rd_T92 L (x:Int)).f2 && !(O.any fun y=>y == (x:Int)))
set_option maxHeartbeats 8000000 in
set_option maxRecDepth 100000 in
theorem freeS_calls (g:Nat) (A3:Option Addr) (c3:Nat) (L:List (S92)) (A15:Option Addr) (c15:Nat) (O:List Int) (w:World) (h3:w.cell? ⟨g,3,none⟩=some (.slice A3 L.length c3)) (h15:w.cell? ⟨g,15,none⟩=some (.slice A15 O.length c15))
  (hr:Kd.C k92 w A3 L.length L) (hO:∀ (x:Int) W,Below w.heap.size w W→Calls Try.prog 76 #[.slice A15 O.length c15,.int .i64 x] W fun e w'=>e=.returned (.bool (O.any fun y=>y == x))∧Below W.heap.size W w') (hn:L.length≤1000000) :
  Calls Try.prog 36 #[.pointer (some ⟨g,0,none⟩)] w fun e w'=>∃ v,e=.returned v∧Kd.R (Kd.int .i64) 2 w' w.heap.size (fun _=>True) v (freeN (freeQ L O) L.length)∧Below w.heap.size w w':=by
 have LG : g < w.heap.size := World.block_lt_of_cell? w _ h3
 have HQ0:Aside0 (∀ kk:Nat,kk < L.length→∀ W,Below w.heap.size w W→Calls Try.prog 63 #[.pointer (some ⟨g,0,none⟩),.int .i64 (kk:Int)] W fun e w'=>e=.returned (.bool (freeQ L O kk))∧Below W.heap.size W w'):=⟨fun kk hk W hb=>isFreeS_calls g A3 c3 L A15 O.length c15 (kk:Int) (O.any fun y=>y == (kk:Int)) W ((hb.cell LG).trans h3) ((hb.cell LG).trans h15) (Kd.C_below hr hb) (by omega) (fun W2 hb2=>hO (kk:Int) W2 (hb.trans (hb2.mono hb.size)))⟩
 have HBl:Aside0 (∀ W,Below w.heap.size w W→Calls Try.prog 43 #[.pointer (some ⟨g,0,none⟩)] W fun e w'=>e=.returned (.int .i64 (L.length:Int))∧Below W.heap.size W w'):=⟨fun W hb=>blocksM_calls g L.length A3 c3 W ((hb.cell LG).trans h3)⟩
 clear h15 hr hO
 generalize freeQ L O = q at HQ0 ⊢
 have hN := Aside0.mk hn
 go_enter Try.func36, Try.ntmps36
 go_wp2_with ((with_reducible refine gate_dst (N:=5) rfl ?_);refine Kd.R_lit (Kd.int .i64) _ 2 ?hg (N:=5) ?hd (xs:=([]:List Int)) (inner:=[]) (ok:=fun _=>True) (okp:=fun _=>True) ?hr ?hp (fun _ hk=>hk) trivial (Below.refl _ _) (Nat.le_refl _) (by simp) ?_;(case hd=>rfl);(case hg=>rfl);(case hr=>first|(go_simp;done)|(go_simp;rfl));(case hp=>exact (Reps.none _ _));intro v5 w5 ho5 hb5 hg5_ hnew5_;clear hg5_ hnew5_;have HO:=Aside0.mk (Kd.R_lower ho5 (by simp:w.heap.size≤_));have HB:=Aside0.mk hb5;clear ho5 hb5)
 go_loopg [3,4] L.length (fun gg s3 s4 wr=>∃ kk:Nat,kk≤L.length∧L.length - kk≤gg∧s4=.int .i64 kk∧Aside0 (Kd.R (Kd.int .i64) 2 wr w.heap.size (fun _=>True) s3 (freeN q kk))∧Aside0 (Below w.heap.size w wr))
 case atStart => exact ⟨0, Nat.zero_le _, by omega, rfl, HO, HB⟩
 case round =>
  clear HO HB
  obtain ⟨kk, hkk, hg, rfl, HO, HB⟩ := hrel
  have HLN:Aside0 ((freeN q kk).length≤1000000):=⟨by have:=freeN_len q kk;have:=hN.out;omega⟩
  by_cases hlt : kk < L.length
  ·have hlti : (kk : Int) < (L.length : Int) := by omega
   have hltb:decide ((kk:Int) < (L.length:Int))=true:=decide_eq_true hlti
   have HQ := Aside0.mk (HQ0.out kk hlt)
   have HE:Aside0 (freeN q (kk+1)=freeN q kk ++ (if q kk=true then [(kk:Int)] else [])):=⟨rfl⟩
   cases hq : q kk with
   | false =>
    rw [hq] at HQ HE
    clear hq
    have HE2:Aside0 (freeN q (kk+1)=freeN q kk):=⟨by rw [HE.out,if_neg (by decide),List.append_nil]⟩
    go_wp2_with (first|(go_at_call 43;with_reducible refine Calls.mono (HBl.out _ HB.out) ?_;rintro e w6 ⟨rfl,hb⟩;have HO6:=Aside0.mk (Kd.R_below HO.out hb);have HB6:=Aside0.mk (below_step HB.out hb);clear HO HB hb;have HO:=HO6;have HB:=HB6;clear HO6 HB6)|(go_at_call 63;with_reducible refine Calls.mono (HQ.out _ HB.out) ?_;rintro e w7 ⟨rfl,hb⟩;have HO7:=Aside0.mk (Kd.R_below HO.out hb);have HB7:=Aside0.mk (below_step HB.out hb);clear hb HO HB))
    go_roundg (L.length - (kk + 1))
    case measure => omega
    case rel=>exact ⟨kk+1,by omega,by omega,by go_num,⟨by rw [HE2.out];exact HO7.out⟩,HB7⟩
   | true =>
    rw [hq] at HQ HE
    clear hq
    have HE2:Aside0 (freeN q (kk+1)=freeN q kk ++ [(kk:Int)]):=⟨by rw [HE.out,if_pos rfl]⟩
    go_wp2_with (first|(go_at_call 43;with_reducible refine Calls.mono (HBl.out _ HB.out) ?_;rintro e w6 ⟨rfl,hb⟩;have HO6:=Aside0.mk (Kd.R_below HO.out hb);have HB6:=Aside0.mk (below_step HB.out hb);clear HO HB hb;have HO:=HO6;have HB:=HB6;clear HO6 HB6)|(go_at_call 63;with_reducible refine Calls.mono (HQ.out _ HB.out) ?_;rintro e w7 ⟨rfl,hb⟩;have HO7:=Aside0.mk (Kd.R_below HO.out hb);have HB7:=Aside0.mk (below_step HB.out hb);clear hb HO HB)|((with_reducible refine gate_builtin (b:=.append) (xs:=#[.tmp 17,.tmp 19]) rfl ?_);at_builtin;refine Kd.R_append (Kd.int .i64) (w0:=w) w.heap.size rfl (.tmp 17) (.tmp 19) 27 2 (.int .i64 0) 8 rfl Try.underlying27 info2 rfl (by decide) (by omega) u3 (freeN q kk) (kk:Int) [.int .i64 (kk:Int)] (fun _=>True) (fun _=>False) rfl rfl ?aP (fun _ hk=>hk.elim) ?aF ?aO ?aB ?aS ?aL ?_;(case aP=>exact rfl);(case aF=>exact (fun _ _=>trivial));(case aO=>exact (by (with_reducible repeat (first|apply Kd.R_alloc|apply Kd.R_drewN|apply Kd.R_drew));exact HO7.out));(case aB=>exact (by repeat (first|(with_reducible first|exact HB7.out|apply below_alloc|apply pw_below_drewN|apply below_drew1)|exact HB7.out)));(case aS=>exact (below_size (by repeat (first|(with_reducible first|exact HB7.out|apply below_alloc|apply pw_below_drewN|apply below_drew1)|exact HB7.out))));(case aL=>have:=HLN.out;omega);intro v8 w8 ho8 hb8 hg8 hat8;have HO8:=Aside0.mk ho8;have HB8:=Aside0.mk hb8;clear ho8 hb8 hg8 hat8))
    go_roundg (L.length - (kk + 1))
    case measure => omega
    case rel=>exact ⟨kk+1,by omega,by omega,by go_num,⟨by rw [HE2.out];exact HO8.out⟩,HB8⟩
  ·have hlti : ¬ (kk : Int) < (L.length : Int) := by omega
   have hltb:decide ((kk:Int) < (L.length:Int))=false:=decide_eq_false hlti
   obtain rfl : kk = L.length := by omega
   go_wp2_with (first|(go_at_call 43;with_reducible refine Calls.mono (HBl.out _ HB.out) ?_;rintro e w6 ⟨rfl,hb⟩;have HO6:=Aside0.mk (Kd.R_below HO.out hb);have HB6:=Aside0.mk (below_step HB.out hb);clear HO HB hb;have HO:=HO6;have HB:=HB6;clear HO6 HB6)|fail)
   go_ret
   exact ⟨_, rfl, HO.out, HB.out⟩
set_option maxHeartbeats 8000000 in
set_option maxRecDepth 100000 in
theorem freeI_calls (g:Nat) (A3:Option Addr) (c3:Nat) (L:List (S92)) (A15:Option Addr) (c15:Nat) (O:List Int) (w:World) (h3:w.cell? ⟨g,3,none⟩=some (.slice A3 L.length c3)) (h15:w.cell? ⟨g,15,none⟩=some (.slice A15 O.length c15)) (h8:w.cell? ⟨g,8,none⟩=some (.int .i64 (L.length:Int)))
  (hr:Kd.C k92 w A3 L.length L) (hO:∀ (x:Int) W,Below w.heap.size w W→Calls Try.prog 57 #[.slice A15 O.length c15,.int .i64 x] W fun e w'=>e=.returned (.bool (O.any fun y=>y == x))∧Below W.heap.size W w') (hn:L.length≤1000000) :
  Calls Try.prog 37 #[.pointer (some ⟨g,0,none⟩)] w fun e w'=>∃ v,e=.returned v∧Kd.R (Kd.int .i64) 2 w' w.heap.size (fun _=>True) v (freeN (freeQ L O) L.length)∧Below w.heap.size w w':=by
 have LG : g < w.heap.size := World.block_lt_of_cell? w _ h3
 have HQ0:Aside0 (∀ kk:Nat,kk < L.length→∀ W,Below w.heap.size w W→Calls Try.prog 64 #[.pointer (some ⟨g,0,none⟩),.int .i64 (kk:Int)] W fun e w'=>e=.returned (.bool (freeQ L O kk))∧Below W.heap.size W w'):=⟨fun kk hk W hb=>isFreeI_calls g A3 c3 L A15 O.length c15 (kk:Int) (O.any fun y=>y == (kk:Int)) W ((hb.cell LG).trans h3) ((hb.cell LG).trans h15) (Kd.C_below hr hb) (by omega) (fun W2 hb2=>hO (kk:Int) W2 (hb.trans (hb2.mono hb.size)))⟩
 clear h15 hr hO
 generalize freeQ L O = q at HQ0 ⊢
 have hN := Aside0.mk hn
 have HO:Aside0 (Kd.R (Kd.int .i64) 2 w w.heap.size (fun _=>True) (.slice none 0 0) (freeN q 0)):=⟨Kd.R_nil _ _ _ _ _⟩
 have HB := Aside0.mk (Below.refl w.heap.size w)
 go_enter Try.func37, Try.ntmps37
 go_wp2
 go_loopg [3,4,10] L.length (fun gg s3 _ s10 wr=>∃ kk:Nat,kk≤L.length∧L.length - kk≤gg∧s10=.int .i64 kk∧Aside0 (Kd.R (Kd.int .i64) 2 wr w.heap.size (fun _=>True) s3 (freeN q kk))∧Aside0 (Below w.heap.size w wr))
 case atStart => exact ⟨0, Nat.zero_le _, by omega, rfl, HO, HB⟩
 case round =>
  clear HO HB
  obtain ⟨kk, hkk, hg, rfl, HO, HB⟩ := hrel
  have HLN:Aside0 ((freeN q kk).length≤1000000):=⟨by have:=freeN_len q kk;have:=hN.out;omega⟩
  by_cases hlt : kk < L.length
  ·have hlti : (kk : Int) < (L.length : Int) := by omega
   have hltb:decide ((kk:Int) < (L.length:Int))=true:=decide_eq_true hlti
   have HQ := Aside0.mk (HQ0.out kk hlt)
   have HE:Aside0 (freeN q (kk+1)=freeN q kk ++ (if q kk=true then [(kk:Int)] else [])):=⟨rfl⟩
   cases hq : q kk with
   | false =>
    rw [hq] at HQ HE
    clear hq
    have HE2:Aside0 (freeN q (kk+1)=freeN q kk):=⟨by rw [HE.out,if_neg (by decide),List.append_nil]⟩
    go_wp2_with (first|(go_at_call 64;with_reducible refine Calls.mono (HQ.out _ HB.out) ?_;rintro e w7 ⟨rfl,hb⟩;have HO7:=Aside0.mk (Kd.R_below HO.out hb);have HB7:=Aside0.mk (below_step HB.out hb);clear hb HO HB))
    go_roundg (L.length - (kk + 1))
    case measure => omega
    case rel=>exact ⟨kk+1,by omega,by omega,by go_num,⟨by rw [HE2.out];exact HO7.out⟩,HB7⟩
   | true =>
    rw [hq] at HQ HE
    clear hq
    have HE2:Aside0 (freeN q (kk+1)=freeN q kk ++ [(kk:Int)]):=⟨by rw [HE.out,if_pos rfl]⟩
    go_wp2_with (first|(go_at_call 64;with_reducible refine Calls.mono (HQ.out _ HB.out) ?_;rintro e w7 ⟨rfl,hb⟩;have HO7:=Aside0.mk (Kd.R_below HO.out hb);have HB7:=Aside0.mk (below_step HB.out hb);clear hb HO HB)|((with_reducible refine gate_builtin (b:=.append) (xs:=#[.tmp 16,.tmp 18]) rfl ?_);at_builtin;refine Kd.R_append (Kd.int .i64) (w0:=w) w.heap.size rfl (.tmp 16) (.tmp 18) 27 2 (.int .i64 0) 8 rfl Try.underlying27 info2 rfl (by decide) (by omega) u3 (freeN q kk) (kk:Int) [.int .i64 (kk:Int)] (fun _=>True) (fun _=>False) rfl rfl ?aP (fun _ hk=>hk.elim) ?aF ?aO ?aB ?aS ?aL ?_;(case aP=>exact rfl);(case aF=>exact (fun _ _=>trivial));(case aO=>exact (by (with_reducible repeat (first|apply Kd.R_alloc|apply Kd.R_drewN|apply Kd.R_drew));exact HO7.out));(case aB=>exact (by repeat (first|(with_reducible first|exact HB7.out|apply below_alloc|apply pw_below_drewN|apply below_drew1)|exact HB7.out)));(case aS=>exact (below_size (by repeat (first|(with_reducible first|exact HB7.out|apply below_alloc|apply pw_below_drewN|apply below_drew1)|exact HB7.out))));(case aL=>have:=HLN.out;omega);intro v8 w8 ho8 hb8 hg8 hat8;have HO8:=Aside0.mk ho8;have HB8:=Aside0.mk hb8;clear ho8 hb8 hg8 hat8))
    go_roundg (L.length - (kk + 1))
    case measure => omega
    case rel=>exact ⟨kk+1,by omega,by omega,by go_num,⟨by rw [HE2.out];exact HO8.out⟩,HB8⟩
  ·have hlti : ¬ (kk : Int) < (L.length : Int) := by omega
   have hltb:decide ((kk:Int) < (L.length:Int))=false:=decide_eq_false hlti
   obtain rfl : kk = L.length := by omega
   go_wp2_with (first | fail)
   go_ret
   exact ⟨_, rfl, HO.out, HB.out⟩
end Go.Proofs.Ytajocpalpnpmdaa.Q
namespace Go.Proofs.Ytajocpalpnpmdaa.Q
open Go.RowKit Go.Proofs.YtajocpalpnpmdaaW.PrintWords Go.Proofs.YtajocpalpnpmdaaW.PrintMore
set_option linter.unusedVariables false
set_option linter.unusedSimpArgs false
set_option maxHeartbeats 4000000 in
set_option maxRecDepth 100000 in
theorem fbS_core (d b p:Int) (A3:Option Addr) (n3 c3:Nat) (u v:Int) (o:Bool) (z mb mp:Int) (A10:Option Addr) (n10 c10:Nat) (A11:Option Addr) (n11 c11:Nat) (A12:Option Addr) (n12 c12:Nat) (hn sq:Int) (A15:Option Addr) (n15 c15:Nat) (A16:Option Addr) (n16 c16:Nat) (bd po:Int) (bV:Bool) (R:List Int) (w:World)
  (hV:∀ (g:Nat) (W:World),Below w.heap.size w W→W.heap[g]?=some (.cells #[.int .i64 d,.int .i64 b,.int .i64 p,.slice A3 n3 c3,.int .i64 u,.int .i64 v,.bool o,.int .i64 z,.int .i64 mb,.int .i64 mp,.slice A10 n10 c10,.slice A11 n11 c11,.slice A12 n12 c12,.int .i64 hn,.int .i64 sq,.slice A15 n15 c15,.slice A16 n16 c16,.int .i64 bd,.int .i64 po] 44 (0,0))→Calls Try.prog 20 #[.pointer (some ⟨g,0,none⟩)] W fun e w'=>e=.returned (.bool bV)∧Below W.heap.size W w')
  (hF:∀ (g:Nat) (W:World),bV=true→Below w.heap.size w W→W.heap[g]?=some (.cells #[.int .i64 d,.int .i64 b,.int .i64 p,.slice A3 n3 c3,.int .i64 u,.int .i64 v,.bool o,.int .i64 z,.int .i64 mb,.int .i64 mp,.slice A10 n10 c10,.slice A11 n11 c11,.slice A12 n12 c12,.int .i64 hn,.int .i64 sq,.slice A15 n15 c15,.slice A16 n16 c16,.int .i64 bd,.int .i64 po] 44 (0,0))→Calls Try.prog 36 #[.pointer (some ⟨g,0,none⟩)] W fun e w'=>∃ v,e=.returned v∧Kd.R (Kd.int .i64) 2 w' W.heap.size (fun _=>True) v R∧Below W.heap.size W w') :
  Calls Try.prog 10 #[.agg #[.int .i64 d,.int .i64 b,.int .i64 p,.slice A3 n3 c3,.int .i64 u,.int .i64 v,.bool o,.int .i64 z,.int .i64 mb,.int .i64 mp,.slice A10 n10 c10,.slice A11 n11 c11,.slice A12 n12 c12,.int .i64 hn,.int .i64 sq,.slice A15 n15 c15,.slice A16 n16 c16,.int .i64 bd,.int .i64 po]] w fun e w'=>∃ v,e=.returned v∧Kd.R (Kd.int .i64) 2 w' w.heap.size (fun _=>True) v (if bV=true then R else [])∧Below w.heap.size w w':=by
 have HV := Aside0.mk hV
 have HF := Aside0.mk hF
 clear hV hF
 cases bV with
 | false =>
  rw [if_neg (by decide)]
  clear HF
  go_enter Try.func10, Try.ntmps10
  go_wp2_with (first|((with_reducible refine gate_dst (N:=1) rfl ?_);(try (refine gate_guard (by rfl) ?_;dsimp only));refine box_event ?hg (N:=1) ?hd (cs:=#[.int .i64 d,.int .i64 b,.int .i64 p,.slice A3 n3 c3,.int .i64 u,.int .i64 v,.bool o,.int .i64 z,.int .i64 mb,.int .i64 mp,.slice A10 n10 c10,.slice A11 n11 c11,.slice A12 n12 c12,.int .i64 hn,.int .i64 sq,.slice A15 n15 c15,.slice A16 n16 c16,.int .i64 bd,.int .i64 po]) (t:=44) ?hr ?_;(case hd=>rfl);(case hg=>rfl);(case hr=>first|(go_simp;done)|(go_simp;rfl));intro gb hg W1 hbox hb;have HB:=Aside0.mk hb;have BK:=Aside0.mk hbox;clear hb hbox hg;(try simp only [Act.put,lSXFreeC_,lZXFreeC_,lCXFreeC_]))|(go_at_call 20;with_reducible refine Calls.mono (HV.out gb _ HB.out BK.out) ?_;rintro e W2 ⟨rfl,hb⟩;have n0_:=Aside0.mk (below_step HB.out hb);have n1_:=Aside0.mk (blk_below BK.out hb);clear HB BK hb;have HB:=n0_;have BK:=n1_;clear n0_ n1_;(try simp only [Act.put,lSXFreeC_,lZXFreeC_,lCXFreeC_]))|((with_reducible refine gate_dst (N:=5) rfl ?_);refine Kd.R_lit (Kd.int .i64) _ 2 ?hg (N:=5) ?hd (xs:=([]:List Int)) (inner:=[]) (ok:=fun _=>True) (okp:=fun _=>True) ?hr ?hp (fun _ hk=>hk) trivial (Below.refl _ _) (Nat.le_refl _) (by simp) ?_;(case hd=>rfl);(case hg=>rfl);(case hr=>first|(go_simp;done)|(go_simp;rfl));(case hp=>exact (Reps.none _ _));intro v5 w5 ho5 hb5 hg5_ hnew5_;clear hg5_ hnew5_;have HO:=Aside0.mk (Kd.R_lower ho5 HB.out.size);have n0_:=Aside0.mk (below_step HB.out hb5);clear HB ho5 hb5;have HB:=n0_;clear n0_))
  go_ret
  exact ⟨_, rfl, HO.out, HB.out⟩
 | true =>
  rw [if_pos rfl]
  go_enter Try.func10, Try.ntmps10
  go_wp2_with (first|((with_reducible refine gate_dst (N:=1) rfl ?_);(try (refine gate_guard (by rfl) ?_;dsimp only));refine box_event ?hg (N:=1) ?hd (cs:=#[.int .i64 d,.int .i64 b,.int .i64 p,.slice A3 n3 c3,.int .i64 u,.int .i64 v,.bool o,.int .i64 z,.int .i64 mb,.int .i64 mp,.slice A10 n10 c10,.slice A11 n11 c11,.slice A12 n12 c12,.int .i64 hn,.int .i64 sq,.slice A15 n15 c15,.slice A16 n16 c16,.int .i64 bd,.int .i64 po]) (t:=44) ?hr ?_;(case hd=>rfl);(case hg=>rfl);(case hr=>first|(go_simp;done)|(go_simp;rfl));intro gb hg W1 hbox hb;have HB:=Aside0.mk hb;have BK:=Aside0.mk hbox;clear hb hbox hg;(try simp only [Act.put,lSXFreeC_,lZXFreeC_,lCXFreeC_]))|(go_at_call 20;with_reducible refine Calls.mono (HV.out gb _ HB.out BK.out) ?_;rintro e W2 ⟨rfl,hb⟩;have n0_:=Aside0.mk (below_step HB.out hb);have n1_:=Aside0.mk (blk_below BK.out hb);clear HB BK hb;have HB:=n0_;have BK:=n1_;clear n0_ n1_;(try simp only [Act.put,lSXFreeC_,lZXFreeC_,lCXFreeC_]))|(go_at_call 36;with_reducible refine Calls.mono (HF.out gb _ rfl HB.out BK.out) ?_;rintro e W3 ⟨v3,rfl,ho,hb⟩;have HO:=Aside0.mk (Kd.R_lower ho HB.out.size);have n0_:=Aside0.mk (below_step HB.out hb);clear HB hb ho;have HB:=n0_;clear n0_;(try simp only [Act.put,lSXFreeC_,lZXFreeC_,lCXFreeC_])))
  go_ret
  exact ⟨_, rfl, HO.out, HB.out⟩
set_option maxHeartbeats 4000000 in
set_option maxRecDepth 100000 in
theorem fbI_core (d b p:Int) (A3:Option Addr) (n3 c3:Nat) (u v:Int) (o:Bool) (z mb mp:Int) (A10:Option Addr) (n10 c10:Nat) (A11:Option Addr) (n11 c11:Nat) (A12:Option Addr) (n12 c12:Nat) (hn sq:Int) (A15:Option Addr) (n15 c15:Nat) (A16:Option Addr) (n16 c16:Nat) (bd po:Int) (bV:Bool) (R:List Int) (w:World)
  (hV:∀ (g:Nat) (W:World),Below w.heap.size w W→W.heap[g]?=some (.cells #[.int .i64 d,.int .i64 b,.int .i64 p,.slice A3 n3 c3,.int .i64 u,.int .i64 v,.bool o,.int .i64 z,.int .i64 mb,.int .i64 mp,.slice A10 n10 c10,.slice A11 n11 c11,.slice A12 n12 c12,.int .i64 hn,.int .i64 sq,.slice A15 n15 c15,.slice A16 n16 c16,.int .i64 bd,.int .i64 po] 44 (0,0))→Calls Try.prog 8 #[.agg #[.int .i64 d,.int .i64 b,.int .i64 p,.slice A3 n3 c3,.int .i64 u,.int .i64 v,.bool o,.int .i64 z,.int .i64 mb,.int .i64 mp,.slice A10 n10 c10,.slice A11 n11 c11,.slice A12 n12 c12,.int .i64 hn,.int .i64 sq,.slice A15 n15 c15,.slice A16 n16 c16,.int .i64 bd,.int .i64 po]] W fun e w'=>e=.returned (.bool bV)∧Below W.heap.size W w')
  (hF:∀ (g:Nat) (W:World),bV=true→Below w.heap.size w W→W.heap[g]?=some (.cells #[.int .i64 d,.int .i64 b,.int .i64 p,.slice A3 n3 c3,.int .i64 u,.int .i64 v,.bool o,.int .i64 z,.int .i64 mb,.int .i64 mp,.slice A10 n10 c10,.slice A11 n11 c11,.slice A12 n12 c12,.int .i64 hn,.int .i64 sq,.slice A15 n15 c15,.slice A16 n16 c16,.int .i64 bd,.int .i64 po] 44 (0,0))→Calls Try.prog 37 #[.pointer (some ⟨g,0,none⟩)] W fun e w'=>∃ v,e=.returned v∧Kd.R (Kd.int .i64) 2 w' W.heap.size (fun _=>True) v R∧Below W.heap.size W w') :
  Calls Try.prog 11 #[.agg #[.int .i64 d,.int .i64 b,.int .i64 p,.slice A3 n3 c3,.int .i64 u,.int .i64 v,.bool o,.int .i64 z,.int .i64 mb,.int .i64 mp,.slice A10 n10 c10,.slice A11 n11 c11,.slice A12 n12 c12,.int .i64 hn,.int .i64 sq,.slice A15 n15 c15,.slice A16 n16 c16,.int .i64 bd,.int .i64 po]] w fun e w'=>∃ v,e=.returned v∧Kd.R (Kd.int .i64) 2 w' w.heap.size (fun _=>True) v (if bV=true then R else [])∧Below w.heap.size w w':=by
 have HV := Aside0.mk hV
 have HF := Aside0.mk hF
 clear hV hF
 cases bV with
 | false =>
  rw [if_neg (by decide)]
  clear HF
  go_enter Try.func11, Try.ntmps11
  go_wp2_with (first|((with_reducible refine gate_dst (N:=1) rfl ?_);(try (refine gate_guard (by rfl) ?_;dsimp only));refine box_event ?hg (N:=1) ?hd (cs:=#[.int .i64 d,.int .i64 b,.int .i64 p,.slice A3 n3 c3,.int .i64 u,.int .i64 v,.bool o,.int .i64 z,.int .i64 mb,.int .i64 mp,.slice A10 n10 c10,.slice A11 n11 c11,.slice A12 n12 c12,.int .i64 hn,.int .i64 sq,.slice A15 n15 c15,.slice A16 n16 c16,.int .i64 bd,.int .i64 po]) (t:=44) ?hr ?_;(case hd=>rfl);(case hg=>rfl);(case hr=>first|(go_simp;done)|(go_simp;rfl));intro gb hg W1 hbox hb;have HB:=Aside0.mk hb;have BK:=Aside0.mk hbox;clear hb hbox hg;(try simp only [Act.put,lSXFreeC_,lZXFreeC_,lCXFreeC_]))|((with_reducible refine gate_dst (N:=3) rfl ?_);refine wpList_load_mid rfl 44 (.tmp 1) rfl gb 0 rfl [.int .i64 d,.int .i64 b,.int .i64 p,.slice A3 n3 c3,.int .i64 u,.int .i64 v,.bool o,.int .i64 z,.int .i64 mb,.int .i64 mp,.slice A10 n10 c10,.slice A11 n11 c11,.slice A12 n12 c12,.int .i64 hn,.int .i64 sq,.slice A15 n15 c15,.slice A16 n16 c16,.int .i64 bd,.int .i64 po] _ (range_of_blk BK.out) Try.underlying44 rfl (by kernel_rfl) ?_;(try simp only [Act.put,lSXFreeC_,lZXFreeC_,lCXFreeC_]))|(go_at_call 8;with_reducible refine Calls.mono (HV.out gb _ HB.out BK.out) ?_;rintro e W2 ⟨rfl,hb⟩;have n0_:=Aside0.mk (below_step HB.out hb);have n1_:=Aside0.mk (blk_below BK.out hb);clear HB BK hb;have HB:=n0_;have BK:=n1_;clear n0_ n1_;(try simp only [Act.put,lSXFreeC_,lZXFreeC_,lCXFreeC_])))
  go_ret
  exact ⟨_, rfl, Kd.R_nil _ _ _ _ _, HB.out⟩
 | true =>
  rw [if_pos rfl]
  go_enter Try.func11, Try.ntmps11
  go_wp2_with (first|((with_reducible refine gate_dst (N:=1) rfl ?_);(try (refine gate_guard (by rfl) ?_;dsimp only));refine box_event ?hg (N:=1) ?hd (cs:=#[.int .i64 d,.int .i64 b,.int .i64 p,.slice A3 n3 c3,.int .i64 u,.int .i64 v,.bool o,.int .i64 z,.int .i64 mb,.int .i64 mp,.slice A10 n10 c10,.slice A11 n11 c11,.slice A12 n12 c12,.int .i64 hn,.int .i64 sq,.slice A15 n15 c15,.slice A16 n16 c16,.int .i64 bd,.int .i64 po]) (t:=44) ?hr ?_;(case hd=>rfl);(case hg=>rfl);(case hr=>first|(go_simp;done)|(go_simp;rfl));intro gb hg W1 hbox hb;have HB:=Aside0.mk hb;have BK:=Aside0.mk hbox;clear hb hbox hg;(try simp only [Act.put,lSXFreeC_,lZXFreeC_,lCXFreeC_]))|((with_reducible refine gate_dst (N:=3) rfl ?_);refine wpList_load_mid rfl 44 (.tmp 1) rfl gb 0 rfl [.int .i64 d,.int .i64 b,.int .i64 p,.slice A3 n3 c3,.int .i64 u,.int .i64 v,.bool o,.int .i64 z,.int .i64 mb,.int .i64 mp,.slice A10 n10 c10,.slice A11 n11 c11,.slice A12 n12 c12,.int .i64 hn,.int .i64 sq,.slice A15 n15 c15,.slice A16 n16 c16,.int .i64 bd,.int .i64 po] _ (range_of_blk BK.out) Try.underlying44 rfl (by kernel_rfl) ?_;(try simp only [Act.put,lSXFreeC_,lZXFreeC_,lCXFreeC_]))|(go_at_call 8;with_reducible refine Calls.mono (HV.out gb _ HB.out BK.out) ?_;rintro e W2 ⟨rfl,hb⟩;have n0_:=Aside0.mk (below_step HB.out hb);have n1_:=Aside0.mk (blk_below BK.out hb);clear HB BK hb;have HB:=n0_;have BK:=n1_;clear n0_ n1_;(try simp only [Act.put,lSXFreeC_,lZXFreeC_,lCXFreeC_]))|(go_at_call 37;with_reducible refine Calls.mono (HF.out gb _ rfl HB.out BK.out) ?_;rintro e W3 ⟨v3,rfl,ho,hb⟩;have HO:=Aside0.mk (Kd.R_lower ho HB.out.size);have n0_:=Aside0.mk (below_step HB.out hb);clear HB hb ho;have HB:=n0_;clear n0_;(try simp only [Act.put,lSXFreeC_,lZXFreeC_,lCXFreeC_])))
  go_ret
  exact ⟨_, rfl, HO.out, HB.out⟩
end Go.Proofs.Ytajocpalpnpmdaa.Q
namespace Go.Proofs.Ytajocpalpnpmdaa.Q
open Go.RowKit Go.Proofs.YtajocpalpnpmdaaW.PrintWords Go.Proofs.YtajocpalpnpmdaaW.PrintMore
set_option linter.unusedVariables false
set_option maxHeartbeats 4000000 in
theorem has_calls (A:Option Addr) (c:Nat) (xs:List Int) (x:Int) (w:World) (hr:Kd.C (Kd.int .i64) w A xs.length xs) (hc:xs.length≤c) :
  Calls Try.prog 76 #[.slice A xs.length c,.int .i64 x] w fun e w'=>e=.returned (.bool (xs.any fun y=>y == x))∧Below w.heap.size w w':=by
 have hbig := hr.2.1
 have HR := Aside0.mk hr
 clear hr
 go_enter Try.func76, Try.ntmps76
 go_wp2
 go_loopg [5] xs.length (fun gg s5 wr=>∃ kk:Nat,kk≤xs.length∧xs.length - kk≤gg∧s5=.int .i64 kk∧Aside0 (Below w.heap.size w wr)∧Aside0 (∀ (j:Nat) (y:Int),j < kk→xs[j]?=some y→(y == x)=false))
 case atStart=>exact ⟨0,Nat.zero_le _,by omega,rfl,⟨Below.refl _ w⟩,⟨fun j y hj=>absurd hj (Nat.not_lt_zero _)⟩⟩
 case round =>
  obtain ⟨kk, hkk, hg, rfl, BW, HA⟩ := hrel
  by_cases hlt : kk < xs.length
  ·obtain ⟨ad,rfl,hcell⟩:=Kd.at_int (Kd.C_below HR.out BW.out) (kk:Int) (by omega) (by omega)
   rw [Int.toNat_natCast,show rd xs (kk:Int)=xs[kk] from by simp [rd,hlt]] at hcell
   have hlti : (kk : Int) < (xs.length : Int) := by omega
   have HX := Aside0.mk (List.getElem?_eq_getElem hlt)
   generalize xs[kk] = y at hcell HX
   cases hq : (y == x) with
   | true =>
    have HQ := Aside0.mk hq
    have HF:Aside0 ((xs.any fun y=>y == x)=true):=⟨List.any_eq_true.2 ⟨y,List.mem_of_getElem? HX.out,HQ.out⟩⟩
    go_wp2
    go_ret
    exact ⟨by rw [HF.out]; rfl, BW.out⟩
   | false =>
    have HQ := Aside0.mk hq
    go_wp2
    go_roundg (xs.length - (kk + 1))
    case measure => omega
    case rel =>
     refine ⟨kk+1,by omega,by omega,by go_num,BW,⟨fun j z hj hz=>?_⟩⟩
     by_cases e : j = kk
     ·subst e
      have := HX.out.symm.trans hz
      simp only [Option.some.injEq] at this
      rw [← this]
      exact HQ.out
     ·exact HA.out j z (by omega) hz
  ·have hlti : ¬ (kk : Int) < (xs.length : Int) := by omega
   have hk : kk = xs.length := by omega
   have HF : Aside0 ((xs.any fun y => y == x) = false) := ⟨by
    rw [List.any_eq_false]
    intro y hy
    obtain ⟨j, hj, rfl⟩ := List.mem_iff_getElem.1 hy
    have := HA.out j _ (by omega) (List.getElem?_eq_getElem hj)
    simp [this]⟩
   clear hk
   go_wp2
   go_ret
   exact ⟨by rw [HF.out]; rfl, BW.out⟩
end Go.Proofs.Ytajocpalpnpmdaa.Q
namespace Go.Proofs.Ytajocpalpnpmdaa.Q
open Go.RowKit Go.Proofs.YtajocpalpnpmdaaW.PrintWords
set_option linter.unusedVariables false
theorem open_eq (O : List Int) (m : Int) (s n a bd po : Bool) :
  (s && (((O.length:Int) == 2) && (n && (bd && (po && (decide (-1≤rd O 0∧rd O 0≤wrap64 (m - 1)) && (decide (-1≤rd O 1∧rd O 1≤wrap64 (m - 1)) && (!(decide (0≤rd O 0) && (rd O 0 == rd O 1)) && a))))))))=(s && (openB O m && (n && (a && (bd && po))))):=by
 unfold openB
 match O with
 | [x, y] =>
  have e0 : rd [x, y] 0 = x := rfl
  have e1 : rd [x, y] 1 = y := rfl
  have e2 : ((([x, y] : List Int).length : Int) == 2) = true := rfl
  have e3:allIn [x,y] (-1) (wrap64 (m - 1))=(decide (-1≤x∧x≤wrap64 (m - 1)) && (decide (-1≤y∧y≤wrap64 (m - 1)) && true)):=rfl
  rw [e0, e1, e2, e3]
  by_cases hx : -1 ≤ x ∧ x ≤ wrap64 (m - 1)
  ·have ek:(!(decide (0≤x) && (x == y)))=(!(x == y) || (x == -1)):=by
    by_cases h0 : 0 ≤ x
    ·rw [decide_eq_true h0,show (x == -1)=false from beq_eq_false_iff_ne.2 (by omega),Bool.true_and,Bool.or_false]
    ·rw [decide_eq_false h0,show (x == -1)=true from beq_iff_eq.2 (by omega),Bool.false_and,Bool.or_true]
     rfl
   rw [decide_eq_true hx, ek]
   generalize decide (-1 ≤ y ∧ y ≤ wrap64 (m - 1)) = q
   generalize (!(x == y) || (x == -1)) = t
   cases s <;> cases n <;> cases a <;> cases bd <;> cases po <;> cases q <;> cases t <;> rfl
  ·rw [decide_eq_false hx]
   cases s <;> cases n <;> cases a <;> cases bd <;> cases po <;> rfl
 | []=>cases s <;> cases n <;> cases a <;> cases bd <;> cases po <;> rfl
 | [x]=>cases s <;> cases n <;> cases a <;> cases bd <;> cases po <;> rfl
 | x :: y :: z :: t =>
  have e2:(((x::y::z::t:List Int).length:Int) == 2)=false:=beq_eq_false_iff_ne.2 (by simp only [List.length_cons];omega)
  rw [e2]
  cases s <;> cases n <;> cases a <;> cases bd <;> cases po <;> rfl
theorem ftlS_eq (d b p:Int) (L:List (S92)) (u v z mb mp:Int) (M:List Int) (T:List Bool) (H:List Int) (hn sq:Int) (O X:List Int) (bd po:Int) :
  ftlS d b p L u v z mb mp M T H hn sq O X bd po=ftlI d b p L u v z mb mp M T H hn sq O X bd po:=by
 unfold ftlS ftlI
 cases hf : flashB d b p L u v z with
 | false => rfl
 | true =>
  have hl : (L.length : Int) = wrap64 (d * b) := by
   unfold flashB at hf
   simp only [Bool.and_eq_true, decide_eq_true_eq] at hf
   exact hf.2.1
  rw [hl, open_eq]
end Go.Proofs.Ytajocpalpnpmdaa.Q
namespace Go.Proofs.Ytajocpalpnpmdaa.Q
open Go.RowKit Go.Proofs.YtajocpalpnpmdaaW.PrintWords Go.Proofs.YtajocpalpnpmdaaW.PrintMore Go.Proofs.YtajocpalpnpmdaaW.PrintLast
set_option linter.unusedVariables false
set_option linter.unusedSimpArgs false
theorem ftlS_len {d b p:Int} {L:List (S92)} {u v z mb mp:Int} {M:List Int} {T:List Bool} {H:List Int} {hn sq:Int} {O X:List Int} {bd po:Int} (h:ftlS d b p L u v z mb mp M T H hn sq O X bd po=true):L.length≤1000∧mb=(L.length:Int)∧O.length=2:=by
 unfold ftlS flashB geoB at h
 simp only [Bool.and_eq_true,Bool.or_eq_true,decide_eq_true_eq,beq_iff_eq] at h
 obtain ⟨⟨⟨hd, hb, _⟩, hL, _⟩, _, hmb, _, _, _, _, hO, _⟩ := h
 refine ⟨?_, hmb, by omega⟩
 have hd2 : d = 2 ∨ d = 3 := by omega
 rcases hd2 with rfl|rfl <;> (have ew:∀ q:Int,0≤q→q≤1000→wrap64 q=q:=(fun q q0 q1=>by unfold wrap64;omega);rw [ew _ (by omega) (by omega)] at hL;omega)
def freeV (x:TFFTLI):List Int:=if (ftlS (x.1) (x.2.1) (x.2.2.1) (x.2.2.2.1) (x.2.2.2.2.1) (x.2.2.2.2.2.1) (x.2.2.2.2.2.2.2.1) (x.2.2.2.2.2.2.2.2.1) (x.2.2.2.2.2.2.2.2.2.1) (x.2.2.2.2.2.2.2.2.2.2.1) (x.2.2.2.2.2.2.2.2.2.2.2.1) (x.2.2.2.2.2.2.2.2.2.2.2.2.1) (x.2.2.2.2.2.2.2.2.2.2.2.2.2.1) (x.2.2.2.2.2.2.2.2.2.2.2.2.2.2.1) (x.2.2.2.2.2.2.2.2.2.2.2.2.2.2.2.1) (x.2.2.2.2.2.2.2.2.2.2.2.2.2.2.2.2.1) (x.2.2.2.2.2.2.2.2.2.2.2.2.2.2.2.2.2.1) (x.2.2.2.2.2.2.2.2.2.2.2.2.2.2.2.2.2.2))=true then freeN (freeQ (x.2.2.2.1) (x.2.2.2.2.2.2.2.2.2.2.2.2.2.2.2.1)) (x.2.2.2.1).length else []
theorem freeV_len (x : TFFTLI) : (freeV x).length ≤ 1000 := by
 unfold freeV
 split
 ·rename_i h
  have:=freeN_len (freeQ (x.2.2.2.1) (x.2.2.2.2.2.2.2.2.2.2.2.2.2.2.2.1)) (x.2.2.2.1).length
  have := (ftlS_len h).1
  omega
 ·simp
theorem freeS_F (x:TFFTLI) (v:Value) (W:World) (h:FFTLI W v x) (hs:∀ y ∈ (x.2.2.2.1),y.f3.length≤9223372036854775807) (hgl:(x.2.2.2.1).length≤9223372036854775806) :
  Calls Try.prog 10 #[v] W fun e w'=>∃ u,e=.returned u∧Kd.R (Kd.int .i64) 2 w' W.heap.size (fun _=>True) u (freeV x)∧Below W.heap.size W w':=by
 obtain ⟨A3,c3,A10,c10,A11,c11,A12,c12,A15,c15,A16,c16,rfl,h3,g3,h10,g10,h11,g11,h12,g12,h15,g15,h16,g16⟩:=h
 refine fbS_core (x.1) (x.2.1) (x.2.2.1) A3 (x.2.2.2.1).length c3 (x.2.2.2.2.1) (x.2.2.2.2.2.1) (x.2.2.2.2.2.2.1) (x.2.2.2.2.2.2.2.1) (x.2.2.2.2.2.2.2.2.1) (x.2.2.2.2.2.2.2.2.2.1) A10 (x.2.2.2.2.2.2.2.2.2.2.1).length c10 A11 (x.2.2.2.2.2.2.2.2.2.2.2.1).length c11 A12 (x.2.2.2.2.2.2.2.2.2.2.2.2.1).length c12 (x.2.2.2.2.2.2.2.2.2.2.2.2.2.1) (x.2.2.2.2.2.2.2.2.2.2.2.2.2.2.1) A15 (x.2.2.2.2.2.2.2.2.2.2.2.2.2.2.2.1).length c15 A16 (x.2.2.2.2.2.2.2.2.2.2.2.2.2.2.2.2.1).length c16 (x.2.2.2.2.2.2.2.2.2.2.2.2.2.2.2.2.2.1) (x.2.2.2.2.2.2.2.2.2.2.2.2.2.2.2.2.2.2) (ftlS (x.1) (x.2.1) (x.2.2.1) (x.2.2.2.1) (x.2.2.2.2.1) (x.2.2.2.2.2.1) (x.2.2.2.2.2.2.2.1) (x.2.2.2.2.2.2.2.2.1) (x.2.2.2.2.2.2.2.2.2.1) (x.2.2.2.2.2.2.2.2.2.2.1) (x.2.2.2.2.2.2.2.2.2.2.2.1) (x.2.2.2.2.2.2.2.2.2.2.2.2.1) (x.2.2.2.2.2.2.2.2.2.2.2.2.2.1) (x.2.2.2.2.2.2.2.2.2.2.2.2.2.2.1) (x.2.2.2.2.2.2.2.2.2.2.2.2.2.2.2.1) (x.2.2.2.2.2.2.2.2.2.2.2.2.2.2.2.2.1) (x.2.2.2.2.2.2.2.2.2.2.2.2.2.2.2.2.2.1) (x.2.2.2.2.2.2.2.2.2.2.2.2.2.2.2.2.2.2)) (freeN (freeQ (x.2.2.2.1) (x.2.2.2.2.2.2.2.2.2.2.2.2.2.2.2.1)) (x.2.2.2.1).length) W ?_ ?_
 ·exact fun g W2 hb BK=>l14Ok_calls g (x.1) (x.2.1) (x.2.2.1) A3 c3 (x.2.2.2.1) (x.2.2.2.2.1) (x.2.2.2.2.2.1) (x.2.2.2.2.2.2.1) (x.2.2.2.2.2.2.2.1) (x.2.2.2.2.2.2.2.2.1) (x.2.2.2.2.2.2.2.2.2.1) A10 c10 (x.2.2.2.2.2.2.2.2.2.2.1) A11 c11 (x.2.2.2.2.2.2.2.2.2.2.2.1) A12 c12 (x.2.2.2.2.2.2.2.2.2.2.2.2.1) (x.2.2.2.2.2.2.2.2.2.2.2.2.2.1) (x.2.2.2.2.2.2.2.2.2.2.2.2.2.2.1) A15 c15 (x.2.2.2.2.2.2.2.2.2.2.2.2.2.2.2.1) A16 c16 (x.2.2.2.2.2.2.2.2.2.2.2.2.2.2.2.2.1) (x.2.2.2.2.2.2.2.2.2.2.2.2.2.2.2.2.2.1) (x.2.2.2.2.2.2.2.2.2.2.2.2.2.2.2.2.2.2) _ W2 (Kd.C_below h3 hb) g3 (Kd.C_below h10 hb) g10 (Kd.C_below h11 hb) g11 (Kd.C_below h12 hb) g12 (Kd.C_below h15 hb) g15 (Kd.C_below h16 hb) g16 rfl hs hgl BK
 ·exact fun g W2 hv hb BK=>freeS_calls g A3 c3 (x.2.2.2.1) A15 c15 (x.2.2.2.2.2.2.2.2.2.2.2.2.2.2.2.1) W2 ((blk_cell BK 3).trans rfl) ((blk_cell BK 15).trans rfl) (Kd.C_below h3 hb) (fun y W3 hb3=>has_calls A15 c15 (x.2.2.2.2.2.2.2.2.2.2.2.2.2.2.2.1) y W3 (Kd.C_below h15 (hb.trans (hb3.mono hb.size))) g15) (by have:=(ftlS_len hv).1;omega)
theorem freeI_F (x:TFFTLI) (v:Value) (W:World) (h:FFTLI W v x) :
  Calls Try.prog 11 #[v] W fun e w'=>∃ u,e=.returned u∧Kd.R (Kd.int .i64) 2 w' W.heap.size (fun _=>True) u (freeV x)∧Below W.heap.size W w':=by
 obtain ⟨A3,c3,A10,c10,A11,c11,A12,c12,A15,c15,A16,c16,rfl,h3,g3,h10,g10,h11,g11,h12,g12,h15,g15,h16,g16⟩:=h
 refine fbI_core (x.1) (x.2.1) (x.2.2.1) A3 (x.2.2.2.1).length c3 (x.2.2.2.2.1) (x.2.2.2.2.2.1) (x.2.2.2.2.2.2.1) (x.2.2.2.2.2.2.2.1) (x.2.2.2.2.2.2.2.2.1) (x.2.2.2.2.2.2.2.2.2.1) A10 (x.2.2.2.2.2.2.2.2.2.2.1).length c10 A11 (x.2.2.2.2.2.2.2.2.2.2.2.1).length c11 A12 (x.2.2.2.2.2.2.2.2.2.2.2.2.1).length c12 (x.2.2.2.2.2.2.2.2.2.2.2.2.2.1) (x.2.2.2.2.2.2.2.2.2.2.2.2.2.2.1) A15 (x.2.2.2.2.2.2.2.2.2.2.2.2.2.2.2.1).length c15 A16 (x.2.2.2.2.2.2.2.2.2.2.2.2.2.2.2.2.1).length c16 (x.2.2.2.2.2.2.2.2.2.2.2.2.2.2.2.2.2.1) (x.2.2.2.2.2.2.2.2.2.2.2.2.2.2.2.2.2.2) (ftlS (x.1) (x.2.1) (x.2.2.1) (x.2.2.2.1) (x.2.2.2.2.1) (x.2.2.2.2.2.1) (x.2.2.2.2.2.2.2.1) (x.2.2.2.2.2.2.2.2.1) (x.2.2.2.2.2.2.2.2.2.1) (x.2.2.2.2.2.2.2.2.2.2.1) (x.2.2.2.2.2.2.2.2.2.2.2.1) (x.2.2.2.2.2.2.2.2.2.2.2.2.1) (x.2.2.2.2.2.2.2.2.2.2.2.2.2.1) (x.2.2.2.2.2.2.2.2.2.2.2.2.2.2.1) (x.2.2.2.2.2.2.2.2.2.2.2.2.2.2.2.1) (x.2.2.2.2.2.2.2.2.2.2.2.2.2.2.2.2.1) (x.2.2.2.2.2.2.2.2.2.2.2.2.2.2.2.2.2.1) (x.2.2.2.2.2.2.2.2.2.2.2.2.2.2.2.2.2.2)) (freeN (freeQ (x.2.2.2.1) (x.2.2.2.2.2.2.2.2.2.2.2.2.2.2.2.1)) (x.2.2.2.1).length) W ?_ ?_
 ·exact fun g W2 hb BK=>impl_ValidFTL.calls (x.1) (x.2.1) (x.2.2.1) A3 c3 (x.2.2.2.1) (x.2.2.2.2.1) (x.2.2.2.2.2.1) (x.2.2.2.2.2.2.1) (x.2.2.2.2.2.2.2.1) (x.2.2.2.2.2.2.2.2.1) (x.2.2.2.2.2.2.2.2.2.1) A10 c10 (x.2.2.2.2.2.2.2.2.2.2.1) A11 c11 (x.2.2.2.2.2.2.2.2.2.2.2.1) A12 c12 (x.2.2.2.2.2.2.2.2.2.2.2.2.1) (x.2.2.2.2.2.2.2.2.2.2.2.2.2.1) (x.2.2.2.2.2.2.2.2.2.2.2.2.2.2.1) A15 c15 (x.2.2.2.2.2.2.2.2.2.2.2.2.2.2.2.1) A16 c16 (x.2.2.2.2.2.2.2.2.2.2.2.2.2.2.2.2.1) (x.2.2.2.2.2.2.2.2.2.2.2.2.2.2.2.2.2.1) (x.2.2.2.2.2.2.2.2.2.2.2.2.2.2.2.2.2.2) _ W2 (Kd.C_below h3 hb) g3 (Kd.C_below h10 hb) g10 (Kd.C_below h11 hb) g11 (Kd.C_below h12 hb) g12 (Kd.C_below h15 hb) g15 (Kd.C_below h16 hb) g16 (by rw [ftlS_eq];rfl)
 ·exact fun g W2 hv hb BK=>freeI_calls g A3 c3 (x.2.2.2.1) A15 c15 (x.2.2.2.2.2.2.2.2.2.2.2.2.2.2.2.1) W2 ((blk_cell BK 3).trans rfl) ((blk_cell BK 15).trans rfl) (by rw [← (ftlS_len hv).2.1];exact (blk_cell BK 8).trans rfl) (Kd.C_below h3 hb) (fun y W3 hb3=>by
   obtain ⟨k,hk⟩:=contains_ev (x.2.2.2.2.2.2.2.2.2.2.2.2.2.2.2.1) y (by have:=(ftlS_len hv).2.2;omega)
   exact (slices_Contains_int64_int64.calls k A15 c15 (x.2.2.2.2.2.2.2.2.2.2.2.2.2.2.2.1) y _ W3 (Kd.C_below h15 (hb.trans (hb3.mono hb.size))) g15 (hk k (Nat.le_refl _))).mono fun e w' ⟨he,hd⟩=>⟨he,by obtain ⟨nn,rfl⟩:=hd.out;exact pw_below_drewN (Below.refl _ _) nn⟩) (by have:=(ftlS_len hv).1;omega)
end Go.Proofs.Ytajocpalpnpmdaa.Q
