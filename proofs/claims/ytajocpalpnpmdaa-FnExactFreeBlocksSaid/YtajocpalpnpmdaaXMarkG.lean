/- A flash translation layer marked. Conditions: those before each theorem. -/
import Derived.Test.YtajocpalpnpmdaaXMarkB
import Derived.Test.YtajocpalpnpmdaaOFtl
import Derived.Test.YtajocpalpnpmdaaQ8
namespace Go.Proofs.Ytajocpalpnpmdaa.Q
open Go.RowKit Go.Proofs.YtajocpalpnpmdaaW.PrintWords Go.Proofs.YtajocpalpnpmdaaW.PrintMore Go.Proofs.YtajocpalpnpmdaaW.PrintLast
abbrev lSXMarkG_ := @List.setIfInBounds_toArray
abbrev lZXMarkG_ := @List.set_cons_zero
abbrev lCXMarkG_ := @List.set_cons_succ
set_option linter.unusedVariables false
set_option linter.unusedSimpArgs false
set_option maxHeartbeats 4000000 in
set_option maxRecDepth 100000 in
theorem markFlashF_calls (k:Nat) (P0_:Nat→Prop) (a0_0 a0_1 a0_2:Int) (v3:Value) (l0:List (S92)) (a0_4 a0_5:Int) (a0_6:Bool) (a0_7:Int) (a1:Int) (r1:Int) (r2:List (S92)) (w0 w:World) (hB:Below w0.heap.size w0 w) (ho0:Kd.S k92 92 w w0.heap.size P0_ v3 l0) (h:laws_markBlockS.f k l0 a1=some (r1,r2)) :
  Calls Try.prog 38 #[.agg #[.int .i64 a0_0,.int .i64 a0_1,.int .i64 a0_2,v3,.int .i64 a0_4,.int .i64 a0_5,.bool a0_6,.int .i64 a0_7],.int .i64 a1] w fun e w'=>e=.returned (.int .i64 r1)∧Kd.S k92 92 w' w0.heap.size (fun k_=>(P0_ k_∨w.heap.size≤k_)) v3 r2∧Below w0.heap.size w0 w'∧Kept w w' (fun k_=>P0_ k_):=by
 obtain ⟨A3, c3, e3⟩ := Kd.S_slice ho0
 subst e3
 have hu := Try.underlying40
 have HS:=Aside0.mk (Kd.S_alloc ho0 (.cells #[.int .i64 a0_0,.int .i64 a0_1,.int .i64 a0_2,.slice A3 l0.length c3,.int .i64 a0_4,.int .i64 a0_5,.bool a0_6,.int .i64 a0_7] 40 (0,0)))
 have HB:=Aside0.mk (below_alloc hB (.cells #[.int .i64 a0_0,.int .i64 a0_1,.int .i64 a0_2,.slice A3 l0.length c3,.int .i64 a0_4,.int .i64 a0_5,.bool a0_6,.int .i64 a0_7] 40 (0,0)))
 have HN:=Aside0.mk (below_size (below_alloc (Below.refl w.heap.size w) (.cells #[.int .i64 a0_0,.int .i64 a0_1,.int .i64 a0_2,.slice A3 l0.length c3,.int .i64 a0_4,.int .i64 a0_5,.bool a0_6,.int .i64 a0_7] 40 (0,0))))
 have HKK:=Aside0.mk (Kept.alloc (Kept.refl w (fun k_=>P0_ k_)) (.cells #[.int .i64 a0_0,.int .i64 a0_1,.int .i64 a0_2,.slice A3 l0.length c3,.int .i64 a0_4,.int .i64 a0_5,.bool a0_6,.int .i64 a0_7] 40 (0,0)))
 have H := Aside0.mk h
 clear hB ho0 h
 go_enter Try.func38, Try.ntmps38
 go_wp2_with (go_at_call 65;refine (laws_markBlockS.calls k P0_ _ l0 a1 r1 r2 w0 _ HB.out HS.out H.out).mono ?_;rintro e w2 ⟨rfl,hs,hb,hk⟩)
 go_ret
 exact ⟨rfl,Kd.S_mono hs (fun k_ hz=>hz.imp_right (fun hq=>Nat.le_trans HN.out hq)),hb,HKK.out.then_ hk (fun k_ hz=>.inl hz)⟩
theorem tight_kept {α:Type} {d:Kd α} {e:Nat} {w w1:World} {base:Nat} {v:Value} {xs:List α} {S:Nat→Prop} (h:Kd.R d e w base (fun k=>some k=v.ownBlock) v xs) (hk:Kept w w1 S) (hn:∀ k,v.ownBlock=some k→¬ S k):Kd.R d e w1 base (fun k=>some k=v.ownBlock) v xs :=
 Kd.R_kept h hk (fun k hq => hn k hq.symm)
theorem tight_ty {α:Type} {d:Kd α} {e:Nat} {w:World} {base:Nat} {v:Value} {xs:List α} (h:Kd.R d e w base (fun k=>some k=v.ownBlock) v xs) (k:Nat) (hk:v.ownBlock=some k):(∃ cells,w.heap[k]?=some (.cells cells e (0,0)))∧base≤k∧k < w.heap.size:=by
 obtain ⟨_, inner, ho, _⟩ := h
 exact ⟨own_typed ho k hk, own_base ho k hk, own_lt ho k hk⟩
theorem ty_ne {w:World} {k e1 e2:Nat} (h1:∃ cells,w.heap[k]?=some (.cells cells e1 (0,0))) (h2:∃ cells,w.heap[k]?=some (.cells cells e2 (0,0))) (hn:e1≠e2):False:=by
 obtain ⟨c, h1⟩ := h1
 obtain ⟨c', h2⟩ := h2
 rw [h1] at h2
 injection h2 with h2
 injection h2 with _ h2
 exact hn h2
set_option maxHeartbeats 8000000 in
set_option maxRecDepth 100000 in
theorem markFTL_calls (k:Nat) (a0_0 a0_1 a0_2:Int) (v3:Value) (L:List (S92)) (a0_4 a0_5:Int) (a0_6:Bool) (a0_7 a0_8 a0_9:Int) (v10 v11 v12:Value) (M:List Int) (T:List Bool) (H:List Int) (a0_13 a0_14:Int) (v15 v16:Value) (O X:List Int) (a0_17 a0_18:Int) (a1 m1 m2 m3 m4 r1:Int) (L':List (S92)) (M':List Int) (T':List Bool) (H' O' X':List Int) (w0 wn w:World) (hB:Below w0.heap.size w0 w) (hbn:Below wn.heap.size wn w) (h:OFTL wn w0.heap.size v3 v10 v11 v12 v15 v16 L M T H O X) (hm3:laws_markBlockS.f k L a1=some (m1,L')) (hm4:laws_markPageMap.f k a0_8 a0_9 M T m1=some (m2,M',T')) (hm5:laws_markHeat.f k H a0_13 m2=some (m3,H')) (hm6:laws_markInt64S.f k O m3=some (m4,O')) (hm7:laws_markInt64S.f k X m4=some (r1,X')) :
  Calls Try.prog 13 #[.agg #[.int .i64 a0_0,.int .i64 a0_1,.int .i64 a0_2,v3,.int .i64 a0_4,.int .i64 a0_5,.bool a0_6,.int .i64 a0_7,.int .i64 a0_8,.int .i64 a0_9,v10,v11,v12,.int .i64 a0_13,.int .i64 a0_14,v15,v16,.int .i64 a0_17,.int .i64 a0_18],.int .i64 a1] w fun e w'=>e=.returned (.int .i64 r1)∧Kd.S k92 92 w' w0.heap.size (fun _=>True) v3 L'∧Kd.R (Kd.int .i64) 2 w' w0.heap.size (fun _=>True) v10 M'∧Kd.R Kd.bool 4 w' w0.heap.size (fun _=>True) v11 T'∧Kd.R (Kd.int .i64) 2 w' w0.heap.size (fun _=>True) v12 H'∧Kd.R (Kd.int .i64) 2 w' w0.heap.size (fun _=>True) v15 O'∧Kd.R (Kd.int .i64) 2 w' w0.heap.size (fun _=>True) v16 X'∧Below w0.heap.size w0 w'∧Kept w w' (fun k_=>w0.heap.size≤k_∧k_ < wn.heap.size):=by
 obtain ⟨hs3, h10, h11, h12, h15, h16, n10, n12, n15⟩ := h
 obtain ⟨A3, c3, e3⟩ := Kd.S_slice hs3
 subst e3
 obtain ⟨A10, c10, e10⟩ := Kd.R_slice h10
 subst e10
 have t10 := Kd.R_tight rfl h10
 obtain ⟨A11, c11, e11⟩ := Kd.R_slice h11
 subst e11
 have t11 := Kd.R_tight rfl h11
 obtain ⟨A12, c12, e12⟩ := Kd.R_slice h12
 subst e12
 have t12 := Kd.R_tight rfl h12
 obtain ⟨A15, c15, e15⟩ := Kd.R_slice h15
 subst e15
 have t15 := Kd.R_tight rfl h15
 obtain ⟨A16, c16, e16⟩ := Kd.R_slice h16
 subst e16
 have t16 := Kd.R_tight rfl h16
 have hs := Kd.S_bound hs3
 have B10:Aside0 (∀ k_,(Value.slice A10 M.length c10).ownBlock=some k_→(∃ cells,wn.heap[k_]?=some (.cells cells 2 (0,0)))∧w0.heap.size≤k_∧k_ < wn.heap.size):=⟨fun k_ hk_=>tight_ty t10 k_ hk_⟩
 have B11:Aside0 (∀ k_,(Value.slice A11 T.length c11).ownBlock=some k_→(∃ cells,wn.heap[k_]?=some (.cells cells 4 (0,0)))∧w0.heap.size≤k_∧k_ < wn.heap.size):=⟨fun k_ hk_=>tight_ty t11 k_ hk_⟩
 have B12:Aside0 (∀ k_,(Value.slice A12 H.length c12).ownBlock=some k_→(∃ cells,wn.heap[k_]?=some (.cells cells 2 (0,0)))∧w0.heap.size≤k_∧k_ < wn.heap.size):=⟨fun k_ hk_=>tight_ty t12 k_ hk_⟩
 have B15:Aside0 (∀ k_,(Value.slice A15 O.length c15).ownBlock=some k_→(∃ cells,wn.heap[k_]?=some (.cells cells 2 (0,0)))∧w0.heap.size≤k_∧k_ < wn.heap.size):=⟨fun k_ hk_=>tight_ty t15 k_ hk_⟩
 have B16:Aside0 (∀ k_,(Value.slice A16 X.length c16).ownBlock=some k_→(∃ cells,wn.heap[k_]?=some (.cells cells 2 (0,0)))∧w0.heap.size≤k_∧k_ < wn.heap.size):=⟨fun k_ hk_=>tight_ty t16 k_ hk_⟩
 have D10_11:Aside0 (∀ k_,(Value.slice A10 M.length c10).ownBlock=some k_→(Value.slice A11 T.length c11).ownBlock=some k_→False):=⟨fun k_ h1 h2=>ty_ne (B10.out k_ h1).1 (B11.out k_ h2).1 (by decide)⟩
 have D10_12:Aside0 (∀ k_,(Value.slice A10 M.length c10).ownBlock=some k_→(Value.slice A12 H.length c12).ownBlock=some k_→False):=⟨fun k_ h1 h2=>(n10 k_ h1).1 h2.symm⟩
 have D10_15:Aside0 (∀ k_,(Value.slice A10 M.length c10).ownBlock=some k_→(Value.slice A15 O.length c15).ownBlock=some k_→False):=⟨fun k_ h1 h2=>(n10 k_ h1).2.1 h2.symm⟩
 have D10_16:Aside0 (∀ k_,(Value.slice A10 M.length c10).ownBlock=some k_→(Value.slice A16 X.length c16).ownBlock=some k_→False):=⟨fun k_ h1 h2=>(n10 k_ h1).2.2 h2.symm⟩
 have D11_10:Aside0 (∀ k_,(Value.slice A11 T.length c11).ownBlock=some k_→(Value.slice A10 M.length c10).ownBlock=some k_→False):=⟨fun k_ h1 h2=>ty_ne (B11.out k_ h1).1 (B10.out k_ h2).1 (by decide)⟩
 have D11_12:Aside0 (∀ k_,(Value.slice A11 T.length c11).ownBlock=some k_→(Value.slice A12 H.length c12).ownBlock=some k_→False):=⟨fun k_ h1 h2=>ty_ne (B11.out k_ h1).1 (B12.out k_ h2).1 (by decide)⟩
 have D11_15:Aside0 (∀ k_,(Value.slice A11 T.length c11).ownBlock=some k_→(Value.slice A15 O.length c15).ownBlock=some k_→False):=⟨fun k_ h1 h2=>ty_ne (B11.out k_ h1).1 (B15.out k_ h2).1 (by decide)⟩
 have D11_16:Aside0 (∀ k_,(Value.slice A11 T.length c11).ownBlock=some k_→(Value.slice A16 X.length c16).ownBlock=some k_→False):=⟨fun k_ h1 h2=>ty_ne (B11.out k_ h1).1 (B16.out k_ h2).1 (by decide)⟩
 have D12_10:Aside0 (∀ k_,(Value.slice A12 H.length c12).ownBlock=some k_→(Value.slice A10 M.length c10).ownBlock=some k_→False):=⟨fun k_ h1 h2=>(n10 k_ h2).1 h1.symm⟩
 have D12_11:Aside0 (∀ k_,(Value.slice A12 H.length c12).ownBlock=some k_→(Value.slice A11 T.length c11).ownBlock=some k_→False):=⟨fun k_ h1 h2=>ty_ne (B12.out k_ h1).1 (B11.out k_ h2).1 (by decide)⟩
 have D12_15:Aside0 (∀ k_,(Value.slice A12 H.length c12).ownBlock=some k_→(Value.slice A15 O.length c15).ownBlock=some k_→False):=⟨fun k_ h1 h2=>(n12 k_ h1).1 h2.symm⟩
 have D12_16:Aside0 (∀ k_,(Value.slice A12 H.length c12).ownBlock=some k_→(Value.slice A16 X.length c16).ownBlock=some k_→False):=⟨fun k_ h1 h2=>(n12 k_ h1).2 h2.symm⟩
 have D15_10:Aside0 (∀ k_,(Value.slice A15 O.length c15).ownBlock=some k_→(Value.slice A10 M.length c10).ownBlock=some k_→False):=⟨fun k_ h1 h2=>(n10 k_ h2).2.1 h1.symm⟩
 have D15_11:Aside0 (∀ k_,(Value.slice A15 O.length c15).ownBlock=some k_→(Value.slice A11 T.length c11).ownBlock=some k_→False):=⟨fun k_ h1 h2=>ty_ne (B15.out k_ h1).1 (B11.out k_ h2).1 (by decide)⟩
 have D15_12:Aside0 (∀ k_,(Value.slice A15 O.length c15).ownBlock=some k_→(Value.slice A12 H.length c12).ownBlock=some k_→False):=⟨fun k_ h1 h2=>(n12 k_ h2).1 h1.symm⟩
 have D15_16:Aside0 (∀ k_,(Value.slice A15 O.length c15).ownBlock=some k_→(Value.slice A16 X.length c16).ownBlock=some k_→False):=⟨fun k_ h1 h2=>(n15 k_ h1) h2.symm⟩
 have D16_10:Aside0 (∀ k_,(Value.slice A16 X.length c16).ownBlock=some k_→(Value.slice A10 M.length c10).ownBlock=some k_→False):=⟨fun k_ h1 h2=>(n10 k_ h2).2.2 h1.symm⟩
 have D16_11:Aside0 (∀ k_,(Value.slice A16 X.length c16).ownBlock=some k_→(Value.slice A11 T.length c11).ownBlock=some k_→False):=⟨fun k_ h1 h2=>ty_ne (B16.out k_ h1).1 (B11.out k_ h2).1 (by decide)⟩
 have D16_12:Aside0 (∀ k_,(Value.slice A16 X.length c16).ownBlock=some k_→(Value.slice A12 H.length c12).ownBlock=some k_→False):=⟨fun k_ h1 h2=>(n12 k_ h2).2 h1.symm⟩
 have D16_15:Aside0 (∀ k_,(Value.slice A16 X.length c16).ownBlock=some k_→(Value.slice A15 O.length c15).ownBlock=some k_→False):=⟨fun k_ h1 h2=>(n15 k_ h2) h1.symm⟩
 have D3_10:Aside0 (∀ k_,(∃ q,q ∈ 92::k92.E∧∃ cells,wn.heap[k_]?=some (.cells cells q (0,0)))→(Value.slice A10 M.length c10).ownBlock=some k_→False):=⟨fun k_ h1 h2=>by
  obtain ⟨q, hq, c, hc⟩ := h1
  exact ty_ne ⟨c,hc⟩ (B10.out k_ h2).1 (fun e=>absurd (e ▸ hq) (by decide))⟩
 have D3_11:Aside0 (∀ k_,(∃ q,q ∈ 92::k92.E∧∃ cells,wn.heap[k_]?=some (.cells cells q (0,0)))→(Value.slice A11 T.length c11).ownBlock=some k_→False):=⟨fun k_ h1 h2=>by
  obtain ⟨q, hq, c, hc⟩ := h1
  exact ty_ne ⟨c,hc⟩ (B11.out k_ h2).1 (fun e=>absurd (e ▸ hq) (by decide))⟩
 have D3_12:Aside0 (∀ k_,(∃ q,q ∈ 92::k92.E∧∃ cells,wn.heap[k_]?=some (.cells cells q (0,0)))→(Value.slice A12 H.length c12).ownBlock=some k_→False):=⟨fun k_ h1 h2=>by
  obtain ⟨q, hq, c, hc⟩ := h1
  exact ty_ne ⟨c,hc⟩ (B12.out k_ h2).1 (fun e=>absurd (e ▸ hq) (by decide))⟩
 have D3_15:Aside0 (∀ k_,(∃ q,q ∈ 92::k92.E∧∃ cells,wn.heap[k_]?=some (.cells cells q (0,0)))→(Value.slice A15 O.length c15).ownBlock=some k_→False):=⟨fun k_ h1 h2=>by
  obtain ⟨q, hq, c, hc⟩ := h1
  exact ty_ne ⟨c,hc⟩ (B15.out k_ h2).1 (fun e=>absurd (e ▸ hq) (by decide))⟩
 have D3_16:Aside0 (∀ k_,(∃ q,q ∈ 92::k92.E∧∃ cells,wn.heap[k_]?=some (.cells cells q (0,0)))→(Value.slice A16 X.length c16).ownBlock=some k_→False):=⟨fun k_ h1 h2=>by
  obtain ⟨q, hq, c, hc⟩ := h1
  exact ty_ne ⟨c,hc⟩ (B16.out k_ h2).1 (fun e=>absurd (e ▸ hq) (by decide))⟩
 generalize ho:Obj.cells #[.int .i64 a0_0,.int .i64 a0_1,.int .i64 a0_2,.slice A3 L.length c3,.int .i64 a0_4,.int .i64 a0_5,.bool a0_6,.int .i64 a0_7,.int .i64 a0_8,.int .i64 a0_9,.slice A10 M.length c10,.slice A11 T.length c11,.slice A12 H.length c12,.int .i64 a0_13,.int .i64 a0_14,.slice A15 O.length c15,.slice A16 X.length c16,.int .i64 a0_17,.int .i64 a0_18] 44 (0,0)=o
 have HN := Aside0.mk (World.size_alloc w o)
 have HWN := Aside0.mk hbn.size
 have S3 := Aside0.mk (Kd.S_alloc (Kd.S_below hs hbn) o)
 have T10 := Aside0.mk (Kd.R_alloc (Kd.R_below t10 hbn) o)
 have T11 := Aside0.mk (Kd.R_alloc (Kd.R_below t11 hbn) o)
 have T12 := Aside0.mk (Kd.R_alloc (Kd.R_below t12 hbn) o)
 have T15 := Aside0.mk (Kd.R_alloc (Kd.R_below t15 hbn) o)
 have T16 := Aside0.mk (Kd.R_alloc (Kd.R_below t16 hbn) o)
 have HB := Aside0.mk (below_alloc hB o)
 have BK := Aside0.mk (blk_new w o)
 have HK:=Aside0.mk (Kept.alloc (Kept.refl w (fun k_=>w0.heap.size≤k_∧k_ < wn.heap.size)) o)
 have HM3 := Aside0.mk hm3
 have HM4 := Aside0.mk hm4
 have HM5 := Aside0.mk hm5
 have HM6 := Aside0.mk hm6
 have HM7 := Aside0.mk hm7
 subst ho
 have hu44 := Try.underlying44
 have hu41 := Try.underlying41
 have hu42 := Try.underlying42
 have hu40 := Try.underlying40
 clear hB hbn hs hs3 h10 h11 h12 h15 h16 t10 t11 t12 t15 t16 n10 n12 n15 hm3 hm4 hm5 hm6 hm7
 go_enter Try.func13, Try.ntmps13
 go_wp2_with (first
  | (go_at_call 38;refine (markFlashF_calls k _ a0_0 a0_1 a0_2 _ L a0_4 a0_5 a0_6 a0_7 a1 m1 L' w0 _ HB.out S3.out HM3.out).mono ?_;rintro e W2 ⟨rfl,hs,hb,hk⟩;have x10:=Aside0.mk (tight_kept T10.out hk (fun k_ h1 h2=>D3_10.out k_ h2.2.2.2 h1));have x11:=Aside0.mk (tight_kept T11.out hk (fun k_ h1 h2=>D3_11.out k_ h2.2.2.2 h1));have x12:=Aside0.mk (tight_kept T12.out hk (fun k_ h1 h2=>D3_12.out k_ h2.2.2.2 h1));have x15:=Aside0.mk (tight_kept T15.out hk (fun k_ h1 h2=>D3_15.out k_ h2.2.2.2 h1));have x16:=Aside0.mk (tight_kept T16.out hk (fun k_ h1 h2=>D3_16.out k_ h2.2.2.2 h1));have xk:=Aside0.mk (HK.out.then_ hk (fun k_ z=>.inl ⟨z.2.1,z.2.2.1⟩));have xb:=Aside0.mk (blk_kept BK.out hk (fun z=>by have:=z.2.2.1;have:=HWN.out;omega));have G3:=Aside0.mk (Kd.S_mono (ok':=fun k_=>(∃ q,q ∈ 92::k92.E∧∃ cells,wn.heap[k_]?=some (.cells cells q (0,0)))∨w.heap.size+1≤k_) hs (fun k_ z=>z.imp (fun q=>q.2.2.2) (fun q=>by rw [HN.out] at q;exact q)));clear S3 T10 T11 T12 T15 T16 HK BK HB HM3 hs hk;have HB:=Aside0.mk hb;clear hb;have HK:=xk;have BK:=xb;have S3:=G3;clear xk xb G3;have T10:=x10;clear x10;have T11:=x11;clear x11;have T12:=x12;clear x12;have T15:=x15;clear x15;have T16:=x16;clear x16;have z8:=(blk_cell BK.out 8).trans rfl;have z9:=(blk_cell BK.out 9).trans rfl;have z10:=(blk_cell BK.out 10).trans rfl;have z11:=(blk_cell BK.out 11).trans rfl;(try simp only [Act.put,lSXMarkG_,lZXMarkG_,lCXMarkG_]))
  | (go_at_call 39;refine (laws_markPageMap.calls k a0_8 a0_9 _ _ M _ _ T m1 m2 M' T' w0 _ HB.out T10.out T11.out HM4.out).mono ?_;rintro e W3 ⟨rfl,q10,q11,hb,hk⟩;clear z8 z9 z10 z11;have x12:=Aside0.mk (tight_kept T12.out hk (fun k_ h1 h2=>h2.elim (fun q=>D12_10.out k_ h1 q.symm) (fun q=>D12_11.out k_ h1 q.symm)));have x15:=Aside0.mk (tight_kept T15.out hk (fun k_ h1 h2=>h2.elim (fun q=>D15_10.out k_ h1 q.symm) (fun q=>D15_11.out k_ h1 q.symm)));have x16:=Aside0.mk (tight_kept T16.out hk (fun k_ h1 h2=>h2.elim (fun q=>D16_10.out k_ h1 q.symm) (fun q=>D16_11.out k_ h1 q.symm)));have x3:=Aside0.mk (Kd.S_kept S3.out hk (fun k_ h1 h2=>h2.elim (fun q=>h1.elim (fun z=>D3_10.out k_ z q.symm) (fun z=>by have:=(B10.out k_ q.symm).2.2;have:=HWN.out;omega)) (fun q=>h1.elim (fun z=>D3_11.out k_ z q.symm) (fun z=>by have:=(B11.out k_ q.symm).2.2;have:=HWN.out;omega))));have xk:=Aside0.mk (HK.out.then_ hk (fun k_ h2=>.inl (h2.elim (fun q=>⟨(B10.out k_ q.symm).2.1,(B10.out k_ q.symm).2.2⟩) (fun q=>⟨(B11.out k_ q.symm).2.1,(B11.out k_ q.symm).2.2⟩))));have xb:=Aside0.mk (blk_kept BK.out hk (fun h2=>h2.elim (fun q=>by have:=(B10.out _ q.symm).2.2;have:=HWN.out;omega) (fun q=>by have:=(B11.out _ q.symm).2.2;have:=HWN.out;omega)));have x10:=Aside0.mk (Kd.R_tight rfl q10);have x11:=Aside0.mk (Kd.R_tight rfl q11);clear S3 T10 T11 T12 T15 T16 HK BK HB hk q10 q11 HM4;have HB:=Aside0.mk hb;clear hb;have S3:=x3;have HK:=xk;have BK:=xb;clear x3 xk xb;have T10:=x10;clear x10;have T11:=x11;clear x11;have T12:=x12;clear x12;have T15:=x15;clear x15;have T16:=x16;clear x16;have z12:=(blk_cell BK.out 12).trans rfl;have z13:=(blk_cell BK.out 13).trans rfl;(try simp only [Act.put,lSXMarkG_,lZXMarkG_,lCXMarkG_]))
  | (go_at_call 40;refine (laws_markHeat.calls k _ _ H a0_13 m2 m3 H' w0 _ HB.out T12.out HM5.out).mono ?_;rintro e W4 ⟨rfl,q12,hb,hk⟩;clear z12 z13;have x10:=Aside0.mk (tight_kept T10.out hk (fun k_ h1 h2=>D10_12.out k_ h1 h2.symm));have x11:=Aside0.mk (tight_kept T11.out hk (fun k_ h1 h2=>D11_12.out k_ h1 h2.symm));have x15:=Aside0.mk (tight_kept T15.out hk (fun k_ h1 h2=>D15_12.out k_ h1 h2.symm));have x16:=Aside0.mk (tight_kept T16.out hk (fun k_ h1 h2=>D16_12.out k_ h1 h2.symm));have x3:=Aside0.mk (Kd.S_kept S3.out hk (fun k_ h1 h2=>(fun q=>h1.elim (fun z=>D3_12.out k_ z q.symm) (fun z=>by have:=(B12.out k_ q.symm).2.2;have:=HWN.out;omega)) h2));have xk:=Aside0.mk (HK.out.then_ hk (fun k_ h2=>.inl ((fun q=>⟨(B12.out k_ q.symm).2.1,(B12.out k_ q.symm).2.2⟩) h2)));have xb:=Aside0.mk (blk_kept BK.out hk (fun h2=>(fun q:some w.heap.size=(Value.slice A12 H.length c12).ownBlock=>by have:=(B12.out _ q.symm).2.2;have:=HWN.out;omega) h2));have x12:=Aside0.mk (Kd.R_tight rfl q12);clear S3 T10 T11 T12 T15 T16 HK BK HB hk q12 HM5;have HB:=Aside0.mk hb;clear hb;have S3:=x3;have HK:=xk;have BK:=xb;clear x3 xk xb;have T10:=x10;clear x10;have T11:=x11;clear x11;have T12:=x12;clear x12;have T15:=x15;clear x15;have T16:=x16;clear x16;have z15:=(blk_cell BK.out 15).trans rfl;(try simp only [Act.put,lSXMarkG_,lZXMarkG_,lCXMarkG_]))
  | (go_at_call 14;refine (laws_markInt64S.calls k _ _ O m3 m4 O' w0 _ HB.out T15.out HM6.out).mono ?_;rintro e W5 ⟨rfl,q15,hb,hk⟩;clear z15;have x10:=Aside0.mk (tight_kept T10.out hk (fun k_ h1 h2=>D10_15.out k_ h1 h2.symm));have x11:=Aside0.mk (tight_kept T11.out hk (fun k_ h1 h2=>D11_15.out k_ h1 h2.symm));have x12:=Aside0.mk (tight_kept T12.out hk (fun k_ h1 h2=>D12_15.out k_ h1 h2.symm));have x16:=Aside0.mk (tight_kept T16.out hk (fun k_ h1 h2=>D16_15.out k_ h1 h2.symm));have x3:=Aside0.mk (Kd.S_kept S3.out hk (fun k_ h1 h2=>(fun q=>h1.elim (fun z=>D3_15.out k_ z q.symm) (fun z=>by have:=(B15.out k_ q.symm).2.2;have:=HWN.out;omega)) h2));have xk:=Aside0.mk (HK.out.then_ hk (fun k_ h2=>.inl ((fun q=>⟨(B15.out k_ q.symm).2.1,(B15.out k_ q.symm).2.2⟩) h2)));have xb:=Aside0.mk (blk_kept BK.out hk (fun h2=>(fun q:some w.heap.size=(Value.slice A15 O.length c15).ownBlock=>by have:=(B15.out _ q.symm).2.2;have:=HWN.out;omega) h2));have x15:=Aside0.mk (Kd.R_tight rfl q15);clear S3 T10 T11 T12 T15 T16 HK BK HB hk q15 HM6;have HB:=Aside0.mk hb;clear hb;have S3:=x3;have HK:=xk;have BK:=xb;clear x3 xk xb;have T10:=x10;clear x10;have T11:=x11;clear x11;have T12:=x12;clear x12;have T15:=x15;clear x15;have T16:=x16;clear x16;have z16:=(blk_cell BK.out 16).trans rfl;(try simp only [Act.put,lSXMarkG_,lZXMarkG_,lCXMarkG_]))
  | (go_at_call 14;refine (laws_markInt64S.calls k _ _ X m4 r1 X' w0 _ HB.out T16.out HM7.out).mono ?_;rintro e W6 ⟨rfl,q16,hb,hk⟩;clear z16;have x10:=Aside0.mk (tight_kept T10.out hk (fun k_ h1 h2=>D10_16.out k_ h1 h2.symm));have x11:=Aside0.mk (tight_kept T11.out hk (fun k_ h1 h2=>D11_16.out k_ h1 h2.symm));have x12:=Aside0.mk (tight_kept T12.out hk (fun k_ h1 h2=>D12_16.out k_ h1 h2.symm));have x15:=Aside0.mk (tight_kept T15.out hk (fun k_ h1 h2=>D15_16.out k_ h1 h2.symm));have x3:=Aside0.mk (Kd.S_kept S3.out hk (fun k_ h1 h2=>(fun q=>h1.elim (fun z=>D3_16.out k_ z q.symm) (fun z=>by have:=(B16.out k_ q.symm).2.2;have:=HWN.out;omega)) h2));have xk:=Aside0.mk (HK.out.then_ hk (fun k_ h2=>.inl ((fun q=>⟨(B16.out k_ q.symm).2.1,(B16.out k_ q.symm).2.2⟩) h2)));have xb:=Aside0.mk (blk_kept BK.out hk (fun h2=>(fun q:some w.heap.size=(Value.slice A16 X.length c16).ownBlock=>by have:=(B16.out _ q.symm).2.2;have:=HWN.out;omega) h2));have x16:=Aside0.mk (Kd.R_tight rfl q16);clear S3 T10 T11 T12 T15 T16 HK BK HB hk q16 HM7;have HB:=Aside0.mk hb;clear hb;have S3:=x3;have HK:=xk;have BK:=xb;clear x3 xk xb;have T10:=x10;clear x10;have T11:=x11;clear x11;have T12:=x12;clear x12;have T15:=x15;clear x15;have T16:=x16;clear x16;(try simp only [Act.put,lSXMarkG_,lZXMarkG_,lCXMarkG_])))
 go_ret
 exact ⟨rfl,Kd.S_mono S3.out (fun _ _=>trivial),Kd.R_mono T10.out (fun _ _=>trivial),Kd.R_mono T11.out (fun _ _=>trivial),Kd.R_mono T12.out (fun _ _=>trivial),Kd.R_mono T15.out (fun _ _=>trivial),Kd.R_mono T16.out (fun _ _=>trivial),HB.out,HK.out⟩
end Go.Proofs.Ytajocpalpnpmdaa.Q
