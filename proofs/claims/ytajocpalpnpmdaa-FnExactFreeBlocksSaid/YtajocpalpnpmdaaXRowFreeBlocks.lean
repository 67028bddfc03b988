/- The law FnExactFreeBlocks's contract: it answers true. Conditions: the lists are not longer than memory. -/
import Derived.Test.YtajocpalpnpmdaaQ8
import Derived.Test.YtajocpalpnpmdaaNum
import Derived.Test.YtajocpalpnpmdaaXMarkB
import Derived.Test.YtajocpalpnpmdaaQ6
import Derived.Test.YtajocpalpnpmdaaEqInt64S
import Derived.Test.YtajocpalpnpmdaaFtlC
import Derived.Test.YtajocpalpnpmdaaXLawFree
namespace Go.Proofs.Ytajocpalpnpmdaa.Q
open Go.RowKit Go.Proofs.YtajocpalpnpmdaaW.PrintWords
set_option linter.unusedVariables false
def mxl : Nat → Int → ByteArray → ByteArray
 | 0, _, b => (⟨#[109]⟩ : ByteArray) ++ b
 | d+1,n,b=>if n > 0 then mxl d (n / 10) (strOfNums [(wrap64 (48+(Int.tmod n 10))) % 256] ++ b) else (⟨#[109]⟩:ByteArray) ++ b
def mtx (n:Int):ByteArray:=if n≤0 then (⟨#[109,48]⟩:ByteArray) else mxl 19 n (⟨#[]⟩:ByteArray)
theorem mxl_ev:∀ (d:Nat) (n:Int) (b:ByteArray),n≤9223372036854775807→n < 10 ^ d→b.size+d≤1000→Ev (fun k=>laws_markText.l0 k n b) (mxl d n b)
 | 0, n, b, hm, hn, hb => by
  refine Ev.step (f:=fun _=>some ((⟨#[109]⟩:ByteArray) ++ b)) (fun k=>?_) (Ev.now _)
  rw [laws_markText.l0,if_neg (by simp at hn;omega),if_pos (by omega)]
 | d + 1, n, b, hm, hn, hb => by
  unfold mxl
  by_cases h : n > 0
  ·rw [if_pos h]
   have hs:(strOfNums [(wrap64 (48+(Int.tmod n 10))) % 256]).size=1:=by simp [strOfNums,ByteArray.size]
   have hd : n / 10 < 10 ^ d := by
    apply Int.ediv_lt_of_lt_mul (by decide)
    rw [Int.pow_succ] at hn
    exact hn
   refine Ev.step (fun k=>?_) (mxl_ev d (n / 10) _ (by omega) hd (by rw [ByteArray.size_append,hs];omega))
   rw [laws_markText.l0,if_pos h,Option.bind_some,hs,if_pos (by omega),Int.tdiv_eq_ediv_of_nonneg (by omega),wrap64_id (x:=n / 10) (by omega) (by omega)]
  ·rw [if_neg h]
   refine Ev.step (f:=fun _=>some ((⟨#[109]⟩:ByteArray) ++ b)) (fun k=>?_) (Ev.now _)
   rw [laws_markText.l0, if_neg h, if_pos (by omega)]
theorem mtx_ev (n:Int) (hn:n≤9223372036854775807):Ev (fun k=>laws_markText.f k n) (mtx n):=by
 unfold laws_markText.f mtx
 by_cases h : n ≤ 0
 ·rw [if_pos h]
  exact Ev.if_pos h (Ev.now _)
 ·rw [if_neg h]
  exact Ev.if_neg h (mxl_ev 19 n _ hn (by omega) (show 0+19≤1000 by decide))
def markedT (m:Int→ByteArray) (c:Int) (n:Nat):List ByteArray:=(List.range n).map (fun i:Nat=>m (c+(i:Int)))
theorem markedT_length (m:Int→ByteArray) (c:Int) (n:Nat):(markedT m c n).length=n:=by simp [markedT]
theorem markStringS_loop (m:Int→ByteArray) (hm:∀ n:Int,n≤9223372036854775807→Ev (fun k=>laws_markText.f k n) (m n)) (l:List ByteArray) (c0:Int) (h0:0≤c0) (hb:c0+l.length≤9223372036854775806) (d:Nat):∀ i:Nat,i≤l.length→l.length - i=d →
  Ev (fun k=>laws_markStringS.l0 k (markedT m c0 i ++ l.drop i) (c0+i) i) (c0+l.length,markedT m c0 l.length):=by
 induction d with
 | zero =>
  intro i h1 h2
  obtain rfl : i = l.length := by omega
  refine Ev.step (f:=fun _=>some (c0+(l.length:Int),markedT m c0 l.length)) (fun k=>?_) (Ev.now _)
  rw [laws_markStringS.l0, if_neg (by simp [markedT_length])]
  simp
 | succ d ih =>
  intro i h1 h2
  have hl:(markedT m c0 i ++ l.drop i).length=l.length:=by simp [markedT_length];omega
  have e:(markedT m c0 i ++ l.drop i).set i (m (c0+i))=markedT m c0 (i+1) ++ l.drop (i+1):=by
   rw [List.set_append_right _ _ (by simp [markedT_length])]
   rw [List.drop_eq_getElem_cons (by omega),markedT_length,Nat.sub_self,List.set_cons_zero]
   simp [markedT, List.range_succ]
  have p := ih (i + 1) (by omega) (by omega)
  rw [← e] at p
  have e2:c0+(i:Int)+1=c0+((i+1:Nat):Int):=by omega
  refine Ev.step (f:=fun k=>(laws_markText.f k (c0+(i:Int))).bind fun t=>laws_markStringS.l0 k ((markedT m c0 i ++ l.drop i).set i t) (c0+((i+1:Nat):Int)) ((i+1:Nat):Int)) (fun k=>?_) (Ev.bind (hm _ (by omega)) p)
  rw [laws_markStringS.l0,hl,if_pos (by omega),wrap64_id (by omega) (by omega),wrap64_id (by omega) (by omega),e2]
  congr 1
  all_goals (try (funext t))
  all_goals (try (rw [if_pos (by omega), Int.toNat_natCast]))
  all_goals (try rfl)
theorem markStringS_ev (l:List ByteArray) (c:Int) (h0:0≤c) (hb:c+l.length≤9223372036854775806):Ev (fun k=>laws_markStringS.f k l c) (c+l.length,markedT mtx c l.length):=by
 have h:=markStringS_loop mtx mtx_ev l c h0 hb l.length 0 (by omega) (by omega)
 have e : (markedT mtx c 0 ++ l.drop 0) = l := by simp [markedT]
 rw [e, show c + ((0 : Nat) : Int) = c from by omega] at h
 exact h
end Go.Proofs.Ytajocpalpnpmdaa.Q
namespace Go.Proofs.Ytajocpalpnpmdaa.Q
open Go.RowKit Go.Proofs.YtajocpalpnpmdaaW.PrintWords Go.Proofs.YtajocpalpnpmdaaW.PrintMore Go.Proofs.YtajocpalpnpmdaaW.PrintLast
set_option linter.unusedVariables false
set_option linter.unusedSimpArgs false
theorem lenb1_lt (pre:List S92) (x:S92) (xs:List S92):(pre.length:Int) < ((pre ++ x::xs).length:Int):=by
 rw [List.length_append, List.length_cons]; omega
theorem rdb1_at (pre:List S92) (x:S92) (xs:List S92):rd_T92 (pre ++ x::xs) (pre.length:Int)=x:=by simp [rd_T92]
def markBx (c:Int) (n:Nat):S92:=⟨c,c+1,Int.tmod (c+2) 3 == 0,markedT mtx (c+3) n⟩
theorem markB1_loop (P:Nat):∀ (rest pre:List S92) (c:Int),0≤c→(∀ x ∈ rest,x.f3.length≤P)→pre.length+rest.length≤9223372036854775806→c+(rest.length:Int) * (3+P)≤9223372036854775800 →
  ∃ m rest',rest'.length=rest.length∧c≤m∧m≤c+(rest.length:Int) * (3+P)∧Ev (fun k=>laws_markBlockS.l0 k (pre ++ rest) c (pre.length:Int)) (m,pre ++ rest')
 | [], pre, c, h0, hx, hl, hb => by
  refine ⟨c, [], rfl, by omega, by simp, ?_⟩
  refine Ev.step (f:=fun _=>some (c,pre ++ [])) (fun k=>?_) (Ev.now _)
  rw [laws_markBlockS.l0, if_neg (by simp)]
 | x :: xs, pre, c, h0, hx, hl, hb => by
  have hp : x.f3.length ≤ P := hx x List.mem_cons_self
  have hmul:((x::xs).length:Int) * (3+(P:Int))=(xs.length:Int) * (3+(P:Int))+(3+(P:Int)):=by
   rw [List.length_cons, Int.natCast_add, Int.add_mul]; simp
  have hnn:0≤(xs.length:Int) * (3+(P:Int)):=Int.mul_nonneg (by omega) (by omega)
  rw [hmul] at hb
  rw [List.length_cons] at hl
  have hlen:(pre ++ [markBx c x.f3.length]).length=pre.length+1:=by simp
  obtain ⟨m,rest',e1,e2,e3,e4⟩:=markB1_loop P xs (pre ++ [markBx c x.f3.length]) (c+3+x.f3.length) (by omega) (fun y hy=>hx y (List.mem_cons_of_mem _ hy)) (by rw [hlen];omega) (by omega)
  rw [List.append_assoc, hlen] at e4
  rw [List.append_assoc] at e4
  have w1:wrap64 (c+1)=c+1:=wrap64_id (by omega) (by omega)
  have w2:wrap64 (c+1+1)=c+2:=by rw [wrap64_id (by omega) (by omega)];omega
  have w3:wrap64 (c+2+1)=c+3:=by rw [wrap64_id (by omega) (by omega)];omega
  have wi:wrap64 ((pre.length:Int)+1)=((pre.length+1:Nat):Int):=by rw [wrap64_id (by omega) (by omega)];rfl
  refine ⟨m,markBx c x.f3.length::rest',by simp [e1],by omega,by rw [hmul];omega,?_⟩
  refine Ev.step (f:=fun k=>(laws_markStringS.f k x.f3 (c+3)).bind fun bt=>laws_markBlockS.l0 k (pre ++ (⟨c,c+1,Int.tmod (c+2) 3 == 0,bt.2⟩:S92)::xs) bt.1 ((pre.length+1:Nat):Int)) (fun k=>?_) (Ev.bind (markStringS_ev x.f3 (c+3) (by omega) (by omega)) e4)
  rw [laws_markBlockS.l0,if_pos (lenb1_lt _ _ _),if_pos (Int.natCast_nonneg _),rdb1_at,w1,w2,w3,wi,Int.toNat_natCast]
  congr 1
  funext bt
  rw [List.set_append_right _ _ (Nat.le_refl _),Nat.sub_self,List.set_cons_zero]
theorem markB1_ev (P:Nat) (l:List S92) (c:Int) (h0:0≤c) (hx:∀ x ∈ l,x.f3.length≤P) (hl:l.length≤9223372036854775806) (hb:c+(l.length:Int) * (3+P)≤9223372036854775800) :
  ∃ m l',l'.length=l.length∧c≤m∧m≤c+(l.length:Int) * (3+P)∧Ev (fun k=>laws_markBlockS.f k l c) (m,l'):=by
 obtain ⟨m,l',e1,e2,e3,e4⟩:=markB1_loop P l [] c h0 hx (by simpa using hl) hb
 exact ⟨m, l', e1, e2, e3, e4⟩
end Go.Proofs.Ytajocpalpnpmdaa.Q
namespace Go.Proofs.Ytajocpalpnpmdaa.Q
open Go.RowKit Go.Proofs.YtajocpalpnpmdaaW.PrintWords
def marked (c:Int) (n:Nat):List Int:=(List.range n).map (fun i:Nat=>c+(i:Int))
theorem marked_length (c:Int) (n:Nat):(marked c n).length=n:=by simp [marked]
theorem markInt64S_loop (l:List Int) (c0:Int) (h0:0≤c0) (hb:c0+l.length≤9223372036854775806) (d:Nat):∀ i:Nat,i≤l.length→l.length - i=d →
  Ev (fun k=>laws_markInt64S.l0 k (marked c0 i ++ l.drop i) (c0+i) i) (c0+l.length,marked c0 l.length):=by
 induction d with
 | zero =>
  intro i h1 h2
  obtain rfl : i = l.length := by omega
  refine Ev.step (f:=fun _=>some (c0+(l.length:Int),marked c0 l.length)) (fun k=>?_) (Ev.now _)
  rw [laws_markInt64S.l0, if_neg (by simp [marked_length])]
  simp
 | succ d ih =>
  intro i h1 h2
  refine Ev.step (fun k => ?_) (ih (i + 1) (by omega) (by omega))
  have hl:(marked c0 i ++ l.drop i).length=l.length:=by simp [marked_length];omega
  rw [laws_markInt64S.l0,hl,if_pos (by omega),if_pos (by omega),wrap64_id (by omega) (by omega),wrap64_id (by omega) (by omega)]
  have e:(marked c0 i ++ l.drop i).set (i:Int).toNat (c0+i)=marked c0 (i+1) ++ l.drop (i+1):=by
   rw [Int.toNat_natCast,List.set_append_right _ _ (by simp [marked_length])]
   rw [List.drop_eq_getElem_cons (by omega),marked_length,Nat.sub_self,List.set_cons_zero]
   simp [marked, List.range_succ]
  rw [e]
  have e2:c0+(i:Int)+1=c0+((i+1:Nat):Int):=by omega
  rw [e2]
  rfl
theorem markInt64S_ev (l:List Int) (c:Int) (h0:0≤c) (hb:c+l.length≤9223372036854775806):Ev (fun k=>laws_markInt64S.f k l c) (c+l.length,marked c l.length):=by
 have h:=markInt64S_loop l c h0 hb l.length 0 (by omega) (by omega)
 simpa [marked, laws_markInt64S.f] using h
theorem heldInt64S_loop (n:Nat) (c0:Int) (h0:0≤c0) (hb:c0+n≤9223372036854775806) (d:Nat):∀ i:Nat,i≤n→n - i=d →
  Ev (fun k=>laws_heldInt64S.l0 k (marked c0 n) (c0+i) i) (c0+n):=by
 induction d with
 | zero =>
  intro i h1 h2
  obtain rfl : i = n := by omega
  refine Ev.step (f:=fun _=>some (c0+(i:Int))) (fun k=>?_) (Ev.now _)
  rw [laws_heldInt64S.l0, if_neg (by simp [marked_length])]
 | succ d ih =>
  intro i h1 h2
  refine Ev.step (fun k => ?_) (ih (i + 1) (by omega) (by omega))
  rw [laws_heldInt64S.l0,marked_length,if_pos (by omega),if_pos (by omega),rd_get _ _ (by rw [marked_length];omega),if_pos (by simp [marked]),wrap64_id (by omega) (by omega),wrap64_id (by omega) (by omega)]
  have e2:c0+(i:Int)+1=c0+((i+1:Nat):Int):=by omega
  rw [e2]
  rfl
theorem heldInt64S_ev (n:Nat) (c:Int) (h0:0≤c) (hb:c+n≤9223372036854775806):Ev (fun k=>laws_heldInt64S.f k (marked c n) c) (c+n):=by
 have h := heldInt64S_loop n c h0 hb n 0 (by omega) (by omega)
 simpa [laws_heldInt64S.f] using h
end Go.Proofs.Ytajocpalpnpmdaa.Q
namespace Go.Proofs.Ytajocpalpnpmdaa.Q
open Go.RowKit Go.Proofs.YtajocpalpnpmdaaW.PrintWords Go.Proofs.YtajocpalpnpmdaaW.PrintMore Go.Proofs.YtajocpalpnpmdaaW.PrintLast
set_option linter.unusedVariables false
set_option linter.unusedSimpArgs false
def markedBo (c:Int) (n:Nat):List Bool:=(List.range n).map (fun i:Nat=>Int.tmod (c+(i:Int)) 3 == 0)
theorem markedBo_length (c:Int) (n:Nat):(markedBo c n).length=n:=by simp [markedBo]
theorem markBoolS_loop (l:List Bool) (c0:Int) (h0:0≤c0) (hb:c0+l.length≤9223372036854775806) (d:Nat):∀ i:Nat,i≤l.length→l.length - i=d →
  Ev (fun k=>laws_markBoolS.l0 k (markedBo c0 i ++ l.drop i) (c0+i) i) (c0+l.length,markedBo c0 l.length):=by
 induction d with
 | zero =>
  intro i h1 h2
  obtain rfl : i = l.length := by omega
  refine Ev.step (f:=fun _=>some (c0+(l.length:Int),markedBo c0 l.length)) (fun k=>?_) (Ev.now _)
  rw [laws_markBoolS.l0, if_neg (by simp [markedBo_length])]
  simp
 | succ d ih =>
  intro i h1 h2
  refine Ev.step (fun k => ?_) (ih (i + 1) (by omega) (by omega))
  have hl:(markedBo c0 i ++ l.drop i).length=l.length:=by simp [markedBo_length];omega
  rw [laws_markBoolS.l0,hl,if_pos (by omega),if_pos (by omega),wrap64_id (by omega) (by omega),wrap64_id (by omega) (by omega)]
  have e:(markedBo c0 i ++ l.drop i).set (i:Int).toNat (Int.tmod (c0+i) 3 == 0)=markedBo c0 (i+1) ++ l.drop (i+1):=by
   rw [Int.toNat_natCast,List.set_append_right _ _ (by simp [markedBo_length])]
   rw [List.drop_eq_getElem_cons (by omega),markedBo_length,Nat.sub_self,List.set_cons_zero]
   simp [markedBo, List.range_succ]
  rw [e]
  have e2:c0+(i:Int)+1=c0+((i+1:Nat):Int):=by omega
  rw [e2]
  rfl
theorem markBoolS_ev (l:List Bool) (c:Int) (h0:0≤c) (hb:c+l.length≤9223372036854775806):Ev (fun k=>laws_markBoolS.f k l c) (c+l.length,markedBo c l.length):=by
 have h := markBoolS_loop l c h0 hb l.length 0 (by omega) (by omega)
 simpa [markedBo, laws_markBoolS.f] using h
theorem markF1_ev (l:List S92) (p q:Int) (m:List Int) (t:List Bool) (h:List Int) (x:Int) (on la:List Int) (hl:l.length≤1048576) (hs:∀ x ∈ l,x.f3.length≤1048576) (hm:m.length≤1048576) (ht:t.length≤1048576) (hh:h.length≤1048576) (ho:on.length≤1048576) (hla:la.length≤1048576) :
  ∃ m1 m2 m3 m4 r l' m' t' h' on' la',0≤r∧Ev (fun k=>laws_markBlockS.f k l 1) (m1,l')∧Ev (fun k=>laws_markPageMap.f k p q m t m1) (m2,m',t')∧Ev (fun k=>laws_markHeat.f k h x m2) (m3,h')∧Ev (fun k=>laws_markInt64S.f k on m3) (m4,on')∧Ev (fun k=>laws_markInt64S.f k la m4) (r,la'):=by
 have hb1:(l.length:Int) * (3+(1048576:Nat))≤1099515822080:=by
  have : (l.length : Int) ≤ 1048576 := by omega
  omega
 obtain ⟨m1,l',e1,e2,e3,e4⟩:=markB1_ev 1048576 l 1 (by omega) hs (by omega) (by omega)
 have i1 := markInt64S_ev m m1 (by omega) (by omega)
 have i2 := markBoolS_ev t (m1 + m.length) (by omega) (by omega)
 have i3:=markInt64S_ev h (m1+m.length+t.length) (by omega) (by omega)
 have i4:=markInt64S_ev on (m1+m.length+t.length+h.length) (by omega) (by omega)
 have i5:=markInt64S_ev la (m1+m.length+t.length+h.length+on.length) (by omega) (by omega)
 exact ⟨m1,_,_,_,_,l',_,_,_,_,_,by omega,e4,Ev.bind i1 (Ev.bind i2 (Ev.now _)),Ev.bind i3 (Ev.now _),i4,i5⟩
end Go.Proofs.Ytajocpalpnpmdaa.Q
namespace Go.Proofs.Ytajocpalpnpmdaa.Q
open Go.RowKit Go.Proofs.YtajocpalpnpmdaaW.PrintWords Go.Proofs.YtajocpalpnpmdaaW.PrintMore Go.Proofs.YtajocpalpnpmdaaW.PrintLast
set_option linter.unusedVariables false
set_option linter.unusedSimpArgs false
theorem szBlock2_ev (x:S103) (hx:okPg x) (n:Int) (h0:-1≤n) (h1:n≤1048576):∃ r,Ev (fun k=>laws_szBlock.f k x.f0 x.f1 x.f2 x.f3 n) r∧-1≤r∧r≤n∧(0≤r→(x.f3.length:Int)≤n):=by
 obtain ⟨r,p,a,b,c⟩:=szStringS_ev x.f3 hx.2 (by have:=hx.1;omega) n h0 h1
 by_cases hr : r < 0
 ·exact ⟨-1,Ev.bind p (Ev.if_pos hr (Ev.now _)),by omega,by omega,by omega⟩
 ·exact ⟨r, Ev.bind p (Ev.if_neg hr (Ev.now _)), a, b, c⟩
theorem szBlockS2_loop (l:List S103) (hs:∀ x ∈ l,okPg x) (hl:l.length≤140737488351232) (d:Nat):∀ (i:Nat) (n:Int),i≤l.length→l.length - i=d→-1≤n→n≤1048576 →
  ∃ r,Ev (fun k=>laws_szBlockS.l0 k l n i) r∧-1≤r∧r≤n∧(0≤r→∀ x ∈ l.drop i,(x.f3.length:Int)≤n):=by
 induction d with
 | zero =>
  intro i n h1 h2 h3 h4
  refine ⟨n,Ev.step (f:=fun _=>some n) (fun k=>?_) (Ev.now _),h3,by omega,fun _ x hx=>?_⟩
  ·rw [laws_szBlockS.l0, if_neg (by omega)]
  ·rw [List.drop_of_length_le (by omega)] at hx
   simp at hx
 | succ d ih =>
  intro i n h1 h2 h3 h4
  obtain ⟨r1,e1,a1,b1,g1⟩:=szBlock2_ev l[i] (hs _ (List.getElem_mem _)) n h3 h4
  have hstep:∀ k,laws_szBlockS.l0 (k+1) l n i=(laws_szBlock.f k (l[i].f0) (l[i].f1) (l[i].f2) (l[i].f3) n).bind fun t=>if t < 0 then some (-1) else laws_szBlockS.l0 k l t ((i+1:Nat):Int):=by
   intro k
   rw [laws_szBlockS.l0,if_pos (by omega),if_pos (by omega),rdLB_get l i (by omega),wrap64_id (by omega) (by omega)]
   rfl
  by_cases hr : r1 < 0
  ·exact ⟨-1,Ev.step hstep (Ev.bind e1 (Ev.if_pos hr (Ev.now _))),by omega,by omega,by omega⟩
  ·obtain ⟨r,p,a,b,g⟩:=ih (i+1) r1 (by omega) (by omega) (by omega) (by omega)
   refine ⟨r,Ev.step hstep (Ev.bind e1 (Ev.if_neg hr p)),a,by omega,fun hr0 x hx=>?_⟩
   rw [List.drop_eq_getElem_cons (by omega)] at hx
   rcases List.mem_cons.1 hx with rfl | hx
   ·exact g1 (by omega)
   ·have := g hr0 x hx
    omega
theorem szBlockS2_ev (l:List S103) (hs:∀ x ∈ l,okPg x) (hl:l.length≤140737488351232) (n:Int) (h3:-1≤n) (h4:n≤1048576) :
  ∃ r,Ev (fun k=>laws_szBlockS.f k l n) r∧-1≤r∧r≤n∧(0≤r→(l.length:Int)≤n∧∀ x ∈ l,(x.f3.length:Int)≤n):=by
 by_cases h : n - (l.length : Int) < 0
 ·refine ⟨-1, ⟨0, fun k _ => ?_⟩, by omega, h3, by omega⟩
  show laws_szBlockS.f k l n = _
  unfold laws_szBlockS.f
  rw [wrap64_id (by omega) (by omega), if_pos h]
 ·obtain ⟨r,⟨K,p⟩,a,b,g⟩:=szBlockS2_loop l hs hl l.length 0 (n - l.length) (by omega) (by omega) (by omega) (by omega)
  refine ⟨r,⟨K,fun k hk=>?_⟩,a,by omega,fun hr=>⟨by omega,fun x hx=>?_⟩⟩
  ·have p1 := p k hk
   dsimp only at p1 ⊢
   unfold laws_szBlockS.f
   rw [wrap64_id (by omega) (by omega), if_neg h]
   exact p1
  ·have := g hr x (by rw [List.drop_zero]; exact hx)
   omega
theorem szFlash2_ev (a b c:Int) (l:List S103) (u v:Int) (o:Bool) (z:Int) (hs:∀ x ∈ l,okPg x) (hl:l.length≤140737488351232) (n:Int) (h3:-1≤n) (h4:n≤1048576) :
  ∃ r,Ev (fun k=>laws_szFlash.f k a b c l u v o z n) r∧-1≤r∧r≤n∧(0≤r→(l.length:Int)≤n∧∀ x ∈ l,(x.f3.length:Int)≤n):=by
 obtain ⟨r, p, q, t, g⟩ := szBlockS2_ev l hs hl n h3 h4
 by_cases hr : r < 0
 ·exact ⟨-1,Ev.bind p (Ev.if_pos hr (Ev.now _)),by omega,by omega,by omega⟩
 ·exact ⟨r, Ev.bind p (Ev.if_neg hr (Ev.now _)), q, t, g⟩
structure FtlSmall (x : S34) (n : Int) : Prop where
 blocks : (x.f0.f1.length : Int) ≤ n
 pages : ∀ y ∈ x.f0.f1, (y.f3.length : Int) ≤ n
 map : (x.f1.f2.length : Int) ≤ n
 trim : (x.f1.f3.length : Int) ≤ n
 heat : (x.f2.f0.length : Int) ≤ n
 opn : (x.f4.length : Int) ≤ n
 last : (x.f5.length : Int) ≤ n
theorem szFtl2_ev (x:S34) (h:FtlIn x) (n:Int) (h0:0≤n) (h1:n≤1048576) :
  ∃ r,Ev (fun k=>laws_szFTL.f k x.f0.f0.f0 x.f0.f0.f1 x.f0.f0.f2 x.f0.f1 x.f0.f2 x.f0.f3 x.f0.f4 x.f0.f5 x.f1.f0 x.f1.f1 x.f1.f2 x.f1.f3 x.f2.f0 x.f2.f1 x.f3 x.f4 x.f5 x.f6 x.f7 n) r∧r≤n∧(0≤r→FtlSmall x n):=by
 have b0 := h.blocks
 have b1 := h.map
 have b2 := h.trim
 have b3 := h.heat
 have b4 := h.opn
 have b5 := h.last
 unfold laws_szFTL.f
 obtain ⟨r1,e1,p1,q1,g1⟩:=szFlash2_ev x.f0.f0.f0 x.f0.f0.f1 x.f0.f0.f2 x.f0.f1 x.f0.f2 x.f0.f3 x.f0.f4 x.f0.f5 h.pages (by omega) n (by omega) h1
 by_cases c1 : r1 < 0
 ·exact ⟨-1,Ev.bind e1 (Ev.if_pos c1 (Ev.now _)),by omega,by omega⟩
 obtain ⟨r2,e2,p2,q2,g2⟩:=szInt64S_some x.f1.f2 r1 (by omega) (by omega) (by omega)
 have em:∃ r3,laws_szPageMap.f x.f1.f0 x.f1.f1 x.f1.f2 x.f1.f3 r1=some r3∧-1≤r3∧r3≤r1∧(0≤r3→(x.f1.f2.length:Int)≤n∧(x.f1.f3.length:Int)≤n):=by
  unfold laws_szPageMap.f
  rw [e2, Option.bind_some]
  by_cases c2 : r2 < 0
  ·exact ⟨-1, by rw [if_pos c2], by omega, by omega, by omega⟩
  ·obtain ⟨r3,e3,p3,q3,g3⟩:=szBoolS_some x.f1.f3 r2 (by omega) (by omega) (by omega)
   rw [if_neg c2, e3, Option.bind_some]
   by_cases c3 : r3 < 0
   ·exact ⟨-1, by rw [if_pos c3], by omega, by omega, by omega⟩
   ·exact ⟨r3, by rw [if_neg c3], by omega, by omega, by omega⟩
 obtain ⟨r3, e3, p3, q3, g3⟩ := em
 by_cases c3 : r3 < 0
 ·exact ⟨-1,Ev.bind e1 (Ev.if_neg c1 (Ev.bind1 e3 (Ev.if_pos c3 (Ev.now _)))),by omega,by omega⟩
 obtain ⟨r4,e4,q4,g4⟩:=szHeat_some x.f2.f0 x.f2.f1 r3 (by omega) (by omega) (by omega)
 by_cases c4 : r4 < 0
 ·exact ⟨-1,Ev.bind e1 (Ev.if_neg c1 (Ev.bind1 e3 (Ev.if_neg c3 (Ev.bind1 e4 (Ev.if_pos c4 (Ev.now _)))))),by omega,by omega⟩
 obtain ⟨r5,e5,p5,q5,g5⟩:=szInt64S_some x.f4 r4 (by omega) (by omega) (by omega)
 by_cases c5 : r5 < 0
 ·exact ⟨-1,Ev.bind e1 (Ev.if_neg c1 (Ev.bind1 e3 (Ev.if_neg c3 (Ev.bind1 e4 (Ev.if_neg c4 (Ev.bind1 e5 (Ev.if_pos c5 (Ev.now _)))))))),by omega,by omega⟩
 obtain ⟨r6,e6,p6,q6,g6⟩:=szInt64S_some x.f5 r5 (by omega) (by omega) (by omega)
 by_cases c6 : r6 < 0
 ·exact ⟨-1,Ev.bind e1 (Ev.if_neg c1 (Ev.bind1 e3 (Ev.if_neg c3 (Ev.bind1 e4 (Ev.if_neg c4 (Ev.bind1 e5 (Ev.if_neg c5 (Ev.bind1 e6 (Ev.if_pos c6 (Ev.now _)))))))))),by omega,by omega⟩
 exact ⟨r6,Ev.bind e1 (Ev.if_neg c1 (Ev.bind1 e3 (Ev.if_neg c3 (Ev.bind1 e4 (Ev.if_neg c4 (Ev.bind1 e5 (Ev.if_neg c5 (Ev.bind1 e6 (Ev.if_neg c6 (Ev.now _)))))))))),by omega,fun hr=>⟨by have:=(g1 (by omega)).1;omega,fun y hy=>by have:=(g1 (by omega)).2 y hy;omega,by have:=(g3 (by omega)).1;omega,by have:=(g3 (by omega)).2;omega,by have:=g4 (by omega);omega,by have:=g5 (by omega);omega,by have:=g6 (by omega);omega⟩⟩
end Go.Proofs.Ytajocpalpnpmdaa.Q
namespace Go.Proofs.Ytajocpalpnpmdaa.Q
open Go.RowKit Go.Proofs.YtajocpalpnpmdaaW.PrintWords Go.Proofs.YtajocpalpnpmdaaW.PrintMore Go.Proofs.YtajocpalpnpmdaaW.PrintLast
set_option linter.unusedVariables false
set_option linter.unusedSimpArgs false
def okPgB (x:S103):Bool:=decide (x.f3.length≤8796093022208) && x.f3.all fun y=>decide (y.size≤140737488351232)
theorem okPgB_ok {x : S103} (h : okPgB x = true) : okPg x := by
 unfold okPgB at h
 rw [Bool.and_eq_true] at h
 exact ⟨of_decide_eq_true h.1,fun y hy=>of_decide_eq_true (List.all_eq_true.1 h.2 y hy)⟩
theorem okPgB_mk {x : S103} (h : okPg x) : okPgB x = true := by
 unfold okPgB
 rw [Bool.and_eq_true]
 exact ⟨decide_eq_true h.1,List.all_eq_true.2 fun y hy=>decide_eq_true (h.2 y hy)⟩
def laws_FnExactFreeBlocks.f (a0_0:Int) (a0_1:Int) (a0_2:Int) (l0_3:List (S103)) (a0_4:Int) (a0_5:Int) (a0_6:Bool) (a0_7:Int) (a0_8:Int) (a0_9:Int) (l0_10:List Int) (l0_11:List Bool) (l0_12:List Int) (a0_13:Int) (a0_14:Int) (l0_15:List Int) (l0_16:List Int) (a0_17:Int) (a0_18:Int):Option Bool:=if l0_3.length≤2932031007402∧l0_3.all okPgB=true∧l0_10.length≤17592186044416∧l0_11.length≤140737488351232∧l0_12.length≤17592186044416∧l0_15.length≤17592186044416∧l0_16.length≤17592186044416 then some true else none
theorem laws_FnExactFreeBlocks.calls (a0_0:Int) (a0_1:Int) (a0_2:Int) (A0_3:Option Addr) (c0_3:Nat) (l0_3:List (S103)) (a0_4:Int) (a0_5:Int) (a0_6:Bool) (a0_7:Int) (a0_8:Int) (a0_9:Int) (A0_10:Option Addr) (c0_10:Nat) (l0_10:List Int) (A0_11:Option Addr) (c0_11:Nat) (l0_11:List Bool) (A0_12:Option Addr) (c0_12:Nat) (l0_12:List Int) (a0_13:Int) (a0_14:Int) (A0_15:Option Addr) (c0_15:Nat) (l0_15:List Int) (A0_16:Option Addr) (c0_16:Nat) (l0_16:List Int) (a0_17:Int) (a0_18:Int) (r:Bool) (w:World) (hr0_3:Kd.C k103 w A0_3 l0_3.length l0_3) (hc0_3:l0_3.length≤c0_3) (hr0_10:Kd.C (Kd.int .i64) w A0_10 l0_10.length l0_10) (hc0_10:l0_10.length≤c0_10) (hr0_11:Kd.C Kd.bool w A0_11 l0_11.length l0_11) (hc0_11:l0_11.length≤c0_11) (hr0_12:Kd.C (Kd.int .i64) w A0_12 l0_12.length l0_12) (hc0_12:l0_12.length≤c0_12) (hr0_15:Kd.C (Kd.int .i64) w A0_15 l0_15.length l0_15) (hc0_15:l0_15.length≤c0_15) (hr0_16:Kd.C (Kd.int .i64) w A0_16 l0_16.length l0_16) (hc0_16:l0_16.length≤c0_16) (h:laws_FnExactFreeBlocks.f a0_0 a0_1 a0_2 l0_3 a0_4 a0_5 a0_6 a0_7 a0_8 a0_9 l0_10 l0_11 l0_12 a0_13 a0_14 l0_15 l0_16 a0_17 a0_18=some r) :
  Calls Try.prog 4 #[.agg #[.int .i64 a0_0,.int .i64 a0_1,.int .i64 a0_2,.slice A0_3 l0_3.length c0_3,.int .i64 a0_4,.int .i64 a0_5,.bool a0_6,.int .i64 a0_7,.int .i64 a0_8,.int .i64 a0_9,.slice A0_10 l0_10.length c0_10,.slice A0_11 l0_11.length c0_11,.slice A0_12 l0_12.length c0_12,.int .i64 a0_13,.int .i64 a0_14,.slice A0_15 l0_15.length c0_15,.slice A0_16 l0_16.length c0_16,.int .i64 a0_17,.int .i64 a0_18]] w fun e w'=>e=.returned (.bool r)∧Below w.heap.size w w':=by
 unfold laws_FnExactFreeBlocks.f at h
 by_cases hc:l0_3.length≤2932031007402∧l0_3.all okPgB=true∧l0_10.length≤17592186044416∧l0_11.length≤140737488351232∧l0_12.length≤17592186044416∧l0_15.length≤17592186044416∧l0_16.length≤17592186044416
 ·rw [if_pos hc] at h
  obtain rfl := Option.some.inj h
  have hX:FtlIn (⟨⟨⟨a0_0,a0_1,a0_2⟩,l0_3,a0_4,a0_5,a0_6,a0_7⟩,⟨a0_8,a0_9,l0_10,l0_11⟩,⟨l0_12,a0_13⟩,a0_14,l0_15,l0_16,a0_17,a0_18⟩:S34):=⟨hc.1,fun y hy=>okPgB_ok (List.all_eq_true.1 hc.2.1 y hy),hc.2.2.1,hc.2.2.2.1,hc.2.2.2.2.1,hc.2.2.2.2.2.1,hc.2.2.2.2.2.2⟩
  have HF0:FFTLL w (.agg #[.int .i64 a0_0,.int .i64 a0_1,.int .i64 a0_2,.slice A0_3 l0_3.length c0_3,.int .i64 a0_4,.int .i64 a0_5,.bool a0_6,.int .i64 a0_7,.int .i64 a0_8,.int .i64 a0_9,.slice A0_10 l0_10.length c0_10,.slice A0_11 l0_11.length c0_11,.slice A0_12 l0_12.length c0_12,.int .i64 a0_13,.int .i64 a0_14,.slice A0_15 l0_15.length c0_15,.slice A0_16 l0_16.length c0_16,.int .i64 a0_17,.int .i64 a0_18]) (a0_0,a0_1,a0_2,l0_3,a0_4,a0_5,a0_6,a0_7,a0_8,a0_9,l0_10,l0_11,l0_12,a0_13,a0_14,l0_15,l0_16,a0_17,a0_18):=⟨A0_3,c0_3,A0_10,c0_10,A0_11,c0_11,A0_12,c0_12,A0_15,c0_15,A0_16,c0_16,rfl,hr0_3,hc0_3,hr0_10,hc0_10,hr0_11,hc0_11,hr0_12,hc0_12,hr0_15,hc0_15,hr0_16,hc0_16⟩
  obtain ⟨t0,⟨k1,e1⟩,q0,small⟩:=szFtl2_ev _ hX 1048576 (by omega) (by omega)
  by_cases hneg : t0 < 0
  ·exact freeLaw_neg _ _ t0 w HF0 (fun W hb=>laws_szFTL_F k1 _ _ 1048576 t0 W (FFTLL_below HF0 hb) (e1 k1 (Nat.le_refl _))) hneg
  ·have sm := small (by omega)
   obtain ⟨k2, e2⟩ := toFtl_ev _ hX
   obtain ⟨k3, e3⟩ := eqFtl_self _ hX
   have hp := toB_len l0_3 hX.pages
   have s3 := sm.blocks
   have s10 := sm.map
   have s11 := sm.trim
   have s12 := sm.heat
   have s15 := sm.opn
   have s16 := sm.last
   dsimp only at s3 s10 s11 s12 s15 s16
   have b3 := hX.blocks
   obtain ⟨m1,m2,m3,m4,m,L',M',T',H',O',X',hm0,⟨k4,e4⟩,⟨k5,e5⟩,⟨k6,e6⟩,⟨k7,e7⟩,⟨k8,e8⟩⟩:=markF1_ev (l0_3.map toB) a0_8 a0_9 l0_10 l0_11 l0_12 a0_13 l0_15 l0_16 (by rw [List.length_map];omega) (fun y hy=>by obtain ⟨z,hz,rfl⟩:=List.mem_map.1 hy;have:=sm.pages z hz;show z.f3.length≤_;omega) (by omega) (by omega) (by omega) (by omega) (by omega)
   have hR:=freeV_len (a0_0,a0_1,a0_2,l0_3.map toB,a0_4,a0_5,a0_6,a0_7,a0_8,a0_9,l0_10,l0_11,l0_12,a0_13,a0_14,l0_15,l0_16,a0_17,a0_18)
   generalize hxx:((a0_0,a0_1,a0_2,l0_3.map toB,a0_4,a0_5,a0_6,a0_7,a0_8,a0_9,l0_10,l0_11,l0_12,a0_13,a0_14,l0_15,l0_16,a0_17,a0_18):TFFTLI)=x at hR
   have hq := eqInt64S_ev (freeV x) (freeV x) (by omega)
   rw [decide_eq_true rfl] at hq
   obtain ⟨k9, e9⟩ := hq
   obtain ⟨k10,e10⟩:=markInt64S_ev (freeV x) 1 (by omega) (by omega)
   obtain ⟨k11,e11⟩:=heldInt64S_ev (freeV x).length 1 (by omega) (by omega)
   refine freeLaw_pos (k1+k2+k3+k4+k5+k6+k7+k8+k9+k10+k11) _ _ x (freeV x) (marked 1 (freeV x).length) t0 m (1+(freeV x).length) w HF0 ?_ ?_ ?_ ?_ ?_ ?_ ?_ (e10 _ (by omega)) ?_ (by omega) hm0 (by omega)
   ·exact fun W hb=>laws_szFTL_F k1 _ _ 1048576 t0 W (FFTLL_below HF0 hb) (e1 k1 (Nat.le_refl _))
   ·exact fun W hb=>by subst hxx;exact laws_toFTL_own k2 _ _ _ W (FFTLL_below HF0 hb) (e2 k2 (Nat.le_refl _))
   ·exact fun W v hv=>by subst hxx;exact freeS_F _ v W hv (fun y hy=>by have:=hp y hy;omega) (by show (l0_3.map toB).length≤_;rw [List.length_map];omega)
   ·exact fun W v hv => freeI_F x v W hv
   ·exact fun W v v' hv hv'=>by subst hxx;exact laws_eqFTL_F k3 v _ v' _ true W hv hv' (e3 k3 (Nat.le_refl _))
   ·intro wa wb W v ha hb ho
    subst hxx
    obtain ⟨v3, v10, v11, v12, v15, v16, rfl, ho⟩ := ho
    exact (markFTL_calls (k1+k2+k3+k4+k5+k6+k7+k8+k9+k10+k11) a0_0 a0_1 a0_2 v3 (l0_3.map toB) a0_4 a0_5 a0_6 a0_7 a0_8 a0_9 v10 v11 v12 l0_10 l0_11 l0_12 a0_13 a0_14 v15 v16 l0_15 l0_16 a0_17 a0_18 1 m1 m2 m3 m4 m L' M' T' H' O' X' wa wb W ha hb ho (e4 _ (by omega)) (e5 _ (by omega)) (e6 _ (by omega)) (e7 _ (by omega)) (e8 _ (by omega))).mono fun e w' ⟨he,_,_,_,_,_,_,hb2,hk2⟩=>⟨he,hb2,hk2⟩
   ·exact fun W A c A' c' h1 g1 h2 g2=>(laws_eqInt64S.calls k9 A c (freeV x) A' c' (freeV x) true W h1 g1 h2 g2 (e9 k9 (Nat.le_refl _))).mono fun e w' ⟨he,hd⟩=>⟨he,by obtain ⟨nn,rfl⟩:=hd.out;exact pw_below_drewN (Below.refl _ _) nn⟩
   ·intro W A c h1 g1
    have hh:=laws_heldInt64S.calls k11 A c (marked 1 (freeV x).length) 1 (1+(freeV x).length) W h1 (by rw [marked_length];exact g1) (e11 k11 (Nat.le_refl _))
    rw [marked_length] at hh
    exact hh.mono fun e w' ⟨he,hd⟩=>⟨he,by obtain ⟨nn,rfl⟩:=hd.out;exact pw_below_drewN (Below.refl _ _) nn⟩
 ·rw [if_neg hc] at h
  exact absurd h (by simp)
end Go.Proofs.Ytajocpalpnpmdaa.Q
