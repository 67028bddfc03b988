/- The program's functions as Lean functions,and for each the proof that the machine's call comes to what its function says. Conditions: those that stand before each theorem. -/
import Derived.Test.YtajocpalpnpmdaaQ0
import Derived.Test.YtajocpalpnpmdaaQ4
import Derived.Test.YtajocpalpnpmdaaXAllW
namespace Go.Proofs.Ytajocpalpnpmdaa.Q
open Go.RowKit Go.Proofs.YtajocpalpnpmdaaW.PrintWords Go.Proofs.YtajocpalpnpmdaaW.PrintLast Go.Proofs.YtajocpalpnpmdaaW.PrintMore
abbrev kN5_ := @blk_drewN
abbrev kD5_ := @blk_drew
abbrev kA5_ := @blk_alloc
abbrev rA5_ := @Kd.R_alloc
abbrev bA5_ := @below_alloc
abbrev bN5_ := @pw_below_drewN
abbrev bD5_ := @below_drew1
abbrev bS5_ := @below_set
abbrev mk5_ := @Aside0.mk
abbrev fZ5_ := @blk_frozen
abbrev bT5_ := @below_step
abbrev bZ5_ := @below_size
abbrev mA5_ := @List.map_toArray
abbrev mC5_ := @List.map_cons
abbrev mN5_ := @List.map_nil
set_option linter.unusedVariables false
set_option linter.unusedSimpArgs false

def laws_toInt64S.l0:Nat→List Int→List Int→Int→Option (List Int)
 | 0, _, _, _ => none
 | k+1,x0,x3,x4=>if x4 < (x0.length:Int) then (if 0≤x4 then (if x4 < (x3.length:Int) then (laws_toInt64S.l0 k x0 (x3.set (x4:Int).toNat (rd x0 x4)) (wrap64 (x4+1))) else (none)) else (none)) else (some x3)
def laws_toInt64S.f (k:Nat) (l0:List Int):Option (List Int):=if 0≤(l0.length:Int) then (if ((l0.length:Int):Int).toNat≤35184372088832 then (laws_toInt64S.l0 k l0 (List.replicate ((l0.length:Int):Int).toNat 0) 0) else (none)) else (none)
set_option maxHeartbeats 8000000 in
set_option maxRecDepth 100000 in
theorem laws_toInt64S.calls (k:Nat) (A0:Option Addr) (c0:Nat) (l0:List Int) (r:List Int) (w:World) (hr0:Kd.C (Kd.int .i64) w A0 l0.length l0) (hc0:l0.length≤c0) (h:laws_toInt64S.f k l0=some r) :
  Calls Try.prog 24 #[.slice A0 l0.length c0] w fun e w'=>∃ v0_:Value,e=.returned (v0_)∧Kd.R (Kd.int .i64) 2 w' w.heap.size (fun _=>True) v0_ r∧Below w.heap.size w w':=by
 have HR0 := Aside0.mk hr0
 have HC0 := Aside0.mk hc0
 clear hr0 hc0
 have HB := Aside0.mk (Below.refl w.heap.size w)
 have H:(if 0≤(l0.length:Int) then (if ((l0.length:Int):Int).toNat≤35184372088832 then (laws_toInt64S.l0 k l0 (List.replicate ((l0.length:Int):Int).toNat 0) 0) else (none)) else (none))=some r:=h
 clear h
 by_cases c2 : 0 ≤ (l0.length : Int)
 ·rw [if_pos c2] at H
  have c2b0 := eq_true c2
  have c2b1:decide (0≤(l0.length:Int))=true:=decide_eq_true c2
  clear c2
  by_cases c3 : ((l0.length : Int) : Int).toNat ≤ 35184372088832
  ·rw [if_pos c3] at H
   have c3b0 := eq_true c3
   have c3b1:decide (((l0.length:Int):Int).toNat≤35184372088832)=true:=decide_eq_true c3
   clear c3
   obtain ⟨y180,hy180⟩:∃ y_:List Int,y_=(List.replicate ((l0.length:Int):Int).toNat 0):=⟨_,rfl⟩
   replace H:(laws_toInt64S.l0 k l0 y180 0)=some r:=by first|(rw [hy180];with_reducible exact H)|(have H2_:=(Option.bind_some _ _).symm.trans H;rw [hy180];with_reducible exact H2_)|(have H2_:=(Option.bind_some _ _).symm.trans H;with_reducible exact H2_)|with_reducible exact H|(rw [hy180];exact H)|exact H
   have Ny180 := Aside0.mk hy180
   clear hy180
   have H' := Aside0.mk H
   clear H
   go_enter Try.func24, Try.ntmps24
   go_wp2_with (first|((with_reducible refine gate_dst (N:=7) rfl ?_);refine Kd.R_make (Kd.int .i64) _ 2 rfl (N:=7) rfl 27 _ _ rfl (l0.length:Int) rfl rfl Try.underlying27 (.int .i64 0) 8 info2 rfl (by decide) (by omega) 0 (ok:=fun _=>True) (okp:=fun _=>True) rfl (fun _ hk=>hk) trivial (of_decide_eq_true (by first|(with_reducible assumption)|assumption)) (Nat.le_trans (Nat.mul_le_mul_right _ (of_decide_eq_true (by first|(with_reducible assumption)|assumption):(l0.length:Int).toNat≤35184372088832)) (by omega)) (Below.refl _ _) (Nat.le_refl _) ?_;intro v181 w4 ho5 hb hg_ hnew_;clear hg_ hnew_;(first|rw [← Ny180.out] at ho5|(simp only [Int.reduceToNat] at ho5;rw [← Ny180.out] at ho5));have n0_:=mk5_ (Kd.R_lower ho5 (bZ5_ (by repeat (first|(with_reducible first|exact HB.out|apply bA5_|apply bN5_|apply bD5_)|exact HB.out))));have n1_:=mk5_ (bT5_ (by repeat (first|(with_reducible first|exact HB.out|apply bA5_|apply bN5_|apply bD5_)|exact HB.out)) hb);clear HB;have HO182:=n0_;have HB:=n1_;clear n0_ n1_;clear hb ho5))
   go_loopg [4] k (fun kq v4 w'=>∃ (x3_1:List Int) (x4_1:Int),v4=.int .i64 x4_1∧Aside0 (laws_toInt64S.l0 kq l0 x3_1 x4_1=some r)∧Aside0 (kq≤k)∧Aside0 (Kd.R (Kd.int .i64) 2 w' w.heap.size (fun _=>True) v181 x3_1)∧Aside0 (Below w.heap.size w w'))
   case atStart=>exact ⟨(y180),(0),(by first|rfl|(simp;done)|(simp [*];done)),H',⟨Nat.le_refl _⟩,⟨by (with_reducible repeat (first|apply rA5_|apply Kd.R_drewN|apply Kd.R_drew));exact HO182.out⟩,⟨by repeat (first|(with_reducible first|exact HB.out|apply bA5_|apply bN5_|apply bD5_)|exact HB.out)⟩⟩
   case round =>
    clear H'
    try clear c2
    try clear c2b0
    try clear c2b1
    try clear p2
    try clear c3
    try clear c3b0
    try clear c3b1
    obtain ⟨x3_1, x4_1, rfl, HA, HK1, HO_3, HB⟩ := hrel
    cases gk with
    | zero => exact absurd HA.out (by simp [laws_toInt64S.l0])
    | succ k1 =>
     have H := HA.out
     clear HA
     simp only [laws_toInt64S.l0] at H
     by_cases c6 : x4_1 < (l0.length : Int)
     ·rw [if_pos c6] at H
      have c6b0:decide (x4_1 < (l0.length:Int))=true:=decide_eq_true c6
      clear c6
      by_cases c7 : 0 ≤ x4_1
      ·rw [if_pos c7] at H
       have c7b0:decide (0≤x4_1)=true:=decide_eq_true c7
       clear c7
       by_cases c8 : x4_1 < (x3_1.length : Int)
       ·rw [if_pos c8] at H
        have c8b0:decide (x4_1 < (x3_1.length:Int))=true:=decide_eq_true c8
        clear c8
        obtain ⟨y184,hy184⟩:∃ y_:List Int,y_=(x3_1.set (x4_1:Int).toNat (rd l0 x4_1)):=⟨_,rfl⟩
        replace H:(laws_toInt64S.l0 k1 l0 y184 (wrap64 (x4_1+1)))=some r:=by first|(rw [hy184];with_reducible exact H)|(have H2_:=(Option.bind_some _ _).symm.trans H;rw [hy184];with_reducible exact H2_)|(have H2_:=(Option.bind_some _ _).symm.trans H;with_reducible exact H2_)|with_reducible exact H|(rw [hy184];exact H)|exact H
        have Ny184 := Aside0.mk hy184
        clear hy184
        have H' := Aside0.mk H
        clear H
        have p183:0≤(x4_1:Int):=of_decide_eq_true (by first|(with_reducible assumption)|assumption)
        have q183:x4_1 < (l0.length:Int):=of_decide_eq_true (by first|(with_reducible assumption)|assumption)
        obtain ⟨ad183,e183,hx183_0⟩:=Kd.at_int HR0.out x4_1 p183 q183
        cases e183
        replace hx183_0:=(HB.out.cell (World.block_lt_of_cell? w _ hx183_0)).trans hx183_0
        replace p183 := eq_true p183
        replace q183 := eq_true q183
        have p9:0≤(x4_1:Int):=of_decide_eq_true (by first|(with_reducible assumption)|assumption)
        have q9:(x4_1:Int) < ((x3_1.length:Int):Int):=of_decide_eq_true (by first|(with_reducible assumption)|assumption)
        obtain ⟨go9,co9,eo9,gb9,gl9,cl9,HG9⟩:=Kd.R_form HO_3.out (by omega)
        (first|cases eo9|(injection eo9 with ea_ en_ ec_;(first|subst ea_|(injection ea_ with ea_;subst ea_));subst ec_;clear en_))
        have GB9 := Aside0.mk gb9
        have GG9 := Aside0.mk HG9
        clear gb9 gl9 HG9
        obtain ⟨hx9_0,hf9_0⟩:=Kd.R_celln 0 HO_3.out (x4_1:Int) p9 q9
        replace p9 := eq_true p9
        replace q9 := eq_true q9
        have HP10:=Kd.R_putg HO_3.out (x4_1:Int) (rd l0 x4_1)
        go_wp2_with (first|((with_reducible refine gate_store (t:=2) (p:=20) rfl ?_);refine store_event (t:=2) (p:=20) (v:=?vo_w11) (w1:=(wr.setCell ⟨go9,(x4_1:Int).toNat,none⟩ (.int .i64 (rd l0 x4_1)))) ?hg ?ho ?hn ?hr ?_;(case ho=>rfl);(case hg=>rfl);(case hn=>rfl);(case hr=>first|(go_simp;done)|(go_simp;rfl));intro w11 hw;have hg:wr.grownBy w11 (some go9):=(by rw [hw];exact HP10.2);have hp_:Kd.R (Kd.int .i64) 2 w11 w.heap.size (fun _=>True) (.slice (some ⟨go9,0,none⟩) x3_1.length co9) y184:=(by rw [hw,Ny184.out];exact HP10.1);clear HP10;have n0_:=mk5_ (hp_);have n1_:=mk5_ ((by rw [hw];exact bS5_ (HB.out) GB9.out:Below w.heap.size w w11));clear HO_3;clear HB;have HO_3:=n0_;have HB:=n1_;clear n0_ n1_;clear hg hw hp_))
        go_roundg k1
        case measure => have := HK1.out; omega
        case rel=>exact ⟨(y184),(wrap64 (x4_1+1)),(by first|rfl|(simp;done)|(simp [*];done)),H',⟨by have:=HK1.out;omega⟩,⟨by (with_reducible repeat (first|apply rA5_|apply Kd.R_drewN|apply Kd.R_drew));exact HO_3.out⟩,⟨by repeat (first|(with_reducible first|exact HB.out|apply bA5_|apply bN5_|apply bD5_)|exact HB.out)⟩⟩
       ·rw [if_neg c8] at H
        exact absurd H (by simp)
      ·rw [if_neg c7] at H
       exact absurd H (by simp)
     ·rw [if_neg c6] at H
      have c6b0:decide (x4_1 < (l0.length:Int))=false:=decide_eq_false c6
      clear c6
      obtain rfl := Option.some.inj H
      go_wp2
      go_ret
      exact ⟨_,by first|rfl|(simp [errW_none,errW_some] <;> rfl)|(simp [*,errW_none,errW_some] <;> rfl),by (with_reducible repeat (first|apply rA5_|apply Kd.R_drewN|apply Kd.R_drew));exact HO_3.out,by repeat (first|(with_reducible first|exact HB.out|apply bA5_|apply bN5_|apply bD5_)|exact HB.out)⟩
  ·rw [if_neg c3] at H
   exact absurd H (by simp)
 ·rw [if_neg c2] at H
  exact absurd H (by simp)

def laws_toBoolS.l0:Nat→List Bool→List Bool→Int→Option (List Bool)
 | 0, _, _, _ => none
 | k+1,x0,x3,x4=>if x4 < (x0.length:Int) then (if 0≤x4 then (if x4 < (x3.length:Int) then (laws_toBoolS.l0 k x0 (x3.set (x4:Int).toNat (rdOf false x0 x4)) (wrap64 (x4+1))) else (none)) else (none)) else (some x3)
def laws_toBoolS.f (k:Nat) (l0:List Bool):Option (List Bool):=if 0≤(l0.length:Int) then (if ((l0.length:Int):Int).toNat≤281474976710656 then (laws_toBoolS.l0 k l0 (List.replicate ((l0.length:Int):Int).toNat false) 0) else (none)) else (none)
set_option maxHeartbeats 8000000 in
set_option maxRecDepth 100000 in
theorem laws_toBoolS.calls (k:Nat) (A0:Option Addr) (c0:Nat) (l0:List Bool) (r:List Bool) (w:World) (hr0:Kd.C Kd.bool w A0 l0.length l0) (hc0:l0.length≤c0) (h:laws_toBoolS.f k l0=some r) :
  Calls Try.prog 50 #[.slice A0 l0.length c0] w fun e w'=>∃ v0_:Value,e=.returned (v0_)∧Kd.R Kd.bool 4 w' w.heap.size (fun _=>True) v0_ r∧Below w.heap.size w w':=by
 have HR0 := Aside0.mk hr0
 have HC0 := Aside0.mk hc0
 clear hr0 hc0
 have HB := Aside0.mk (Below.refl w.heap.size w)
 have H:(if 0≤(l0.length:Int) then (if ((l0.length:Int):Int).toNat≤281474976710656 then (laws_toBoolS.l0 k l0 (List.replicate ((l0.length:Int):Int).toNat false) 0) else (none)) else (none))=some r:=h
 clear h
 by_cases c2 : 0 ≤ (l0.length : Int)
 ·rw [if_pos c2] at H
  have c2b0 := eq_true c2
  have c2b1:decide (0≤(l0.length:Int))=true:=decide_eq_true c2
  clear c2
  by_cases c3 : ((l0.length : Int) : Int).toNat ≤ 281474976710656
  ·rw [if_pos c3] at H
   have c3b0 := eq_true c3
   have c3b1:decide (((l0.length:Int):Int).toNat≤281474976710656)=true:=decide_eq_true c3
   clear c3
   obtain ⟨y185,hy185⟩:∃ y_:List Bool,y_=(List.replicate ((l0.length:Int):Int).toNat false):=⟨_,rfl⟩
   replace H:(laws_toBoolS.l0 k l0 y185 0)=some r:=by first|(rw [hy185];with_reducible exact H)|(have H2_:=(Option.bind_some _ _).symm.trans H;rw [hy185];with_reducible exact H2_)|(have H2_:=(Option.bind_some _ _).symm.trans H;with_reducible exact H2_)|with_reducible exact H|(rw [hy185];exact H)|exact H
   have Ny185 := Aside0.mk hy185
   clear hy185
   have H' := Aside0.mk H
   clear H
   go_enter Try.func50, Try.ntmps50
   go_wp2_with (first|((with_reducible refine gate_dst (N:=7) rfl ?_);refine Kd.R_make Kd.bool _ 4 rfl (N:=7) rfl 28 _ _ rfl (l0.length:Int) rfl rfl Try.underlying28 (.bool false) 1 info4 rfl (by decide) (by omega) false (ok:=fun _=>True) (okp:=fun _=>True) rfl (fun _ hk=>hk) trivial (of_decide_eq_true (by first|(with_reducible assumption)|assumption)) (Nat.le_trans (Nat.mul_le_mul_right _ (of_decide_eq_true (by first|(with_reducible assumption)|assumption):(l0.length:Int).toNat≤281474976710656)) (by omega)) (Below.refl _ _) (Nat.le_refl _) ?_;intro v186 w4 ho5 hb hg_ hnew_;clear hg_ hnew_;(first|rw [← Ny185.out] at ho5|(simp only [Int.reduceToNat] at ho5;rw [← Ny185.out] at ho5));have n0_:=mk5_ (Kd.R_lower ho5 (bZ5_ (by repeat (first|(with_reducible first|exact HB.out|apply bA5_|apply bN5_|apply bD5_)|exact HB.out))));have n1_:=mk5_ (bT5_ (by repeat (first|(with_reducible first|exact HB.out|apply bA5_|apply bN5_|apply bD5_)|exact HB.out)) hb);clear HB;have HO187:=n0_;have HB:=n1_;clear n0_ n1_;clear hb ho5))
   go_loopg [4] k (fun kq v4 w'=>∃ (x3_1:List Bool) (x4_1:Int),v4=.int .i64 x4_1∧Aside0 (laws_toBoolS.l0 kq l0 x3_1 x4_1=some r)∧Aside0 (kq≤k)∧Aside0 (Kd.R Kd.bool 4 w' w.heap.size (fun _=>True) v186 x3_1)∧Aside0 (Below w.heap.size w w'))
   case atStart=>exact ⟨(y185),(0),(by first|rfl|(simp;done)|(simp [*];done)),H',⟨Nat.le_refl _⟩,⟨by (with_reducible repeat (first|apply rA5_|apply Kd.R_drewN|apply Kd.R_drew));exact HO187.out⟩,⟨by repeat (first|(with_reducible first|exact HB.out|apply bA5_|apply bN5_|apply bD5_)|exact HB.out)⟩⟩
   case round =>
    clear H'
    try clear c2
    try clear c2b0
    try clear c2b1
    try clear p2
    try clear c3
    try clear c3b0
    try clear c3b1
    try clear c5
    obtain ⟨x3_1, x4_1, rfl, HA, HK1, HO_3, HB⟩ := hrel
    cases gk with
    | zero => exact absurd HA.out (by simp [laws_toBoolS.l0])
    | succ k1 =>
     have H := HA.out
     clear HA
     simp only [laws_toBoolS.l0] at H
     by_cases c6 : x4_1 < (l0.length : Int)
     ·rw [if_pos c6] at H
      have c6b0:decide (x4_1 < (l0.length:Int))=true:=decide_eq_true c6
      clear c6
      by_cases c7 : 0 ≤ x4_1
      ·rw [if_pos c7] at H
       have c7b0:decide (0≤x4_1)=true:=decide_eq_true c7
       clear c7
       by_cases c8 : x4_1 < (x3_1.length : Int)
       ·rw [if_pos c8] at H
        have c8b0:decide (x4_1 < (x3_1.length:Int))=true:=decide_eq_true c8
        clear c8
        obtain ⟨y189,hy189⟩:∃ y_:List Bool,y_=(x3_1.set (x4_1:Int).toNat (rdOf false l0 x4_1)):=⟨_,rfl⟩
        replace H:(laws_toBoolS.l0 k1 l0 y189 (wrap64 (x4_1+1)))=some r:=by first|(rw [hy189];with_reducible exact H)|(have H2_:=(Option.bind_some _ _).symm.trans H;rw [hy189];with_reducible exact H2_)|(have H2_:=(Option.bind_some _ _).symm.trans H;with_reducible exact H2_)|with_reducible exact H|(rw [hy189];exact H)|exact H
        have Ny189 := Aside0.mk hy189
        clear hy189
        have H' := Aside0.mk H
        clear H
        have p188:0≤(x4_1:Int):=of_decide_eq_true (by first|(with_reducible assumption)|assumption)
        have q188:x4_1 < (l0.length:Int):=of_decide_eq_true (by first|(with_reducible assumption)|assumption)
        obtain ⟨ad188,e188,hx188_0⟩:=Kd.at_bool HR0.out x4_1 p188 q188
        cases e188
        replace hx188_0:=(HB.out.cell (World.block_lt_of_cell? w _ hx188_0)).trans hx188_0
        replace p188 := eq_true p188
        replace q188 := eq_true q188
        have p9:0≤(x4_1:Int):=of_decide_eq_true (by first|(with_reducible assumption)|assumption)
        have q9:(x4_1:Int) < ((x3_1.length:Int):Int):=of_decide_eq_true (by first|(with_reducible assumption)|assumption)
        obtain ⟨go9,co9,eo9,gb9,gl9,cl9,HG9⟩:=Kd.R_form HO_3.out (by omega)
        (first|cases eo9|(injection eo9 with ea_ en_ ec_;(first|subst ea_|(injection ea_ with ea_;subst ea_));subst ec_;clear en_))
        have GB9 := Aside0.mk gb9
        have GG9 := Aside0.mk HG9
        clear gb9 gl9 HG9
        obtain ⟨hx9_0,hf9_0⟩:=Kd.R_celln false HO_3.out (x4_1:Int) p9 q9
        replace p9 := eq_true p9
        replace q9 := eq_true q9
        have HP10:=Kd.R_putg HO_3.out (x4_1:Int) (rdOf false l0 x4_1)
        go_wp2_with (first|((with_reducible refine gate_store (t:=4) (p:=20) rfl ?_);refine store_event (t:=4) (p:=20) (v:=?vo_w11) (w1:=(wr.setCell ⟨go9,(x4_1:Int).toNat,none⟩ (.bool (rdOf false l0 x4_1)))) ?hg ?ho ?hn ?hr ?_;(case ho=>rfl);(case hg=>rfl);(case hn=>rfl);(case hr=>first|(go_simp;done)|(go_simp;rfl));intro w11 hw;have hg:wr.grownBy w11 (some go9):=(by rw [hw];exact HP10.2);have hp_:Kd.R Kd.bool 4 w11 w.heap.size (fun _=>True) (.slice (some ⟨go9,0,none⟩) x3_1.length co9) y189:=(by rw [hw,Ny189.out];exact HP10.1);clear HP10;have n0_:=mk5_ (hp_);have n1_:=mk5_ ((by rw [hw];exact bS5_ (HB.out) GB9.out:Below w.heap.size w w11));clear HO_3;clear HB;have HO_3:=n0_;have HB:=n1_;clear n0_ n1_;clear hg hw hp_))
        go_roundg k1
        case measure => have := HK1.out; omega
        case rel=>exact ⟨(y189),(wrap64 (x4_1+1)),(by first|rfl|(simp;done)|(simp [*];done)),H',⟨by have:=HK1.out;omega⟩,⟨by (with_reducible repeat (first|apply rA5_|apply Kd.R_drewN|apply Kd.R_drew));exact HO_3.out⟩,⟨by repeat (first|(with_reducible first|exact HB.out|apply bA5_|apply bN5_|apply bD5_)|exact HB.out)⟩⟩
       ·rw [if_neg c8] at H
        exact absurd H (by simp)
      ·rw [if_neg c7] at H
       exact absurd H (by simp)
     ·rw [if_neg c6] at H
      have c6b0:decide (x4_1 < (l0.length:Int))=false:=decide_eq_false c6
      clear c6
      obtain rfl := Option.some.inj H
      go_wp2
      go_ret
      exact ⟨_,by first|rfl|(simp [errW_none,errW_some] <;> rfl)|(simp [*,errW_none,errW_some] <;> rfl),by (with_reducible repeat (first|apply rA5_|apply Kd.R_drewN|apply Kd.R_drew));exact HO_3.out,by repeat (first|(with_reducible first|exact HB.out|apply bA5_|apply bN5_|apply bD5_)|exact HB.out)⟩
  ·rw [if_neg c3] at H
   exact absurd H (by simp)
 ·rw [if_neg c2] at H
  exact absurd H (by simp)

def laws_toPageMap.f (k:Nat) (a0_0:Int) (a0_1:Int) (l0_2:List Int) (l0_3:List Bool):Option (Int × Int × List Int × List Bool):=(laws_toInt64S.f k l0_2).bind fun t193=>((laws_toBoolS.f k l0_3).bind fun t196=>(some (a0_0,a0_1,t193,t196)))
set_option maxHeartbeats 8000000 in
set_option maxRecDepth 100000 in
theorem laws_toPageMap.calls (k:Nat) (a0_0:Int) (a0_1:Int) (A0_2:Option Addr) (c0_2:Nat) (l0_2:List Int) (A0_3:Option Addr) (c0_3:Nat) (l0_3:List Bool) (r1:Int) (r2:Int) (r3:List Int) (r4:List Bool) (w:World) (hr0_2:Kd.C (Kd.int .i64) w A0_2 l0_2.length l0_2) (hc0_2:l0_2.length≤c0_2) (hr0_3:Kd.C Kd.bool w A0_3 l0_3.length l0_3) (hc0_3:l0_3.length≤c0_3) (h:laws_toPageMap.f k a0_0 a0_1 l0_2 l0_3=some (r1,r2,r3,r4)) :
  Calls Try.prog 22 #[.agg #[.int .i64 a0_0,.int .i64 a0_1,.slice A0_2 l0_2.length c0_2,.slice A0_3 l0_3.length c0_3]] w fun e w'=>∃ v2_ v3_:Value,e=.returned (.agg #[.int .i64 r1,.int .i64 r2,v2_,v3_])∧Kd.R (Kd.int .i64) 2 w' w.heap.size (fun _=>True) v2_ r3∧Kd.R Kd.bool 4 w' w.heap.size (fun _=>True) v3_ r4∧Below w.heap.size w w':=by
 have hu30 := Try.underlying30
 have hu41 := Try.underlying41
 have HR0_2 := Aside0.mk hr0_2
 have HC0_2 := Aside0.mk hc0_2
 clear hr0_2 hc0_2
 have HR0_3 := Aside0.mk hr0_3
 have HC0_3 := Aside0.mk hc0_3
 clear hr0_3 hc0_3
 have HB := Aside0.mk (Below.refl w.heap.size w)
 have H:((laws_toInt64S.f k l0_2).bind fun t193=>((laws_toBoolS.f k l0_3).bind fun t196=>(some (a0_0,a0_1,t193,t196))))=some (r1,r2,r3,r4):=h
 clear h
 replace H := Option.bind_eq_some_iff.mp H
 obtain ⟨t193, A20, H⟩ := H
 replace H:((laws_toBoolS.f k l0_3).bind fun t196=>(some (a0_0,a0_1,t193,t196)))=some (r1,r2,r3,r4):=H
 have A2 := Aside0.mk A20
 clear A20
 replace H := Option.bind_eq_some_iff.mp H
 obtain ⟨t196, A30, H⟩ := H
 replace H:(some (a0_0,a0_1,t193,t196))=some (r1,r2,r3,r4):=H
 have A3 := Aside0.mk A30
 clear A30
 simp only [Option.some.injEq, Prod.mk.injEq] at H
 obtain ⟨rfl, rfl, rfl, rfl⟩ := H
 go_enter Try.func22, Try.ntmps22
 go_wp2_with (first|((with_reducible refine gate_dst (N:=1) rfl ?_);refine box_event ?hg (N:=1) ?hd (cs:=#[.int .i64 a0_0,.int .i64 a0_1,.slice A0_2 l0_2.length c0_2,.slice A0_3 l0_3.length c0_3]) (t:=30) ?hr ?_;(case hd=>rfl);(case hg=>rfl);(case hr=>first|(go_simp;done)|(go_simp;rfl));intro gb190 hg w4 hbox hb;have n0_:=mk5_ (bT5_ (by repeat (first|(with_reducible first|exact HB.out|apply bA5_|apply bN5_|apply bD5_)|exact HB.out)) hb);have n1_:=mk5_ (hbox);have n2_:=mk5_ ((by rw [hg];exact (bZ5_ (by repeat (first|(with_reducible first|exact HB.out|apply bA5_|apply bN5_|apply bD5_)|exact HB.out))):w.heap.size≤gb190));have n3_:=mk5_ ((by rw [hg];exact (bZ5_ (by repeat (first|(with_reducible first|exact HB.out|apply bA5_|apply bN5_|apply bD5_)|exact HB.out))):w.heap.size≤gb190));clear HB;have HB:=n0_;have BK190:=n1_;have GW190:=n2_;have GE190:=n3_;clear n0_ n1_ n2_ n3_;clear hb hbox hg)|((with_reducible refine gate_dst (N:=2) rfl ?_);refine box_event ?hg (N:=2) ?hd (cs:=#[.int .i64 0,.int .i64 0,.slice none 0 0,.slice none 0 0]) (t:=41) ?hr ?_;(case hd=>rfl);(case hg=>rfl);(case hr=>first|(go_simp;done)|(go_simp;rfl));intro gb191 hg w5 hbox hb;have n0_:=mk5_ (blk_below (g:=gb190) (o:=.cells #[.int .i64 a0_0,.int .i64 a0_1,.slice A0_2 l0_2.length c0_2,.slice A0_3 l0_3.length c0_3] 30 (0,0)) (by (with_reducible repeat (first|refine kN5_ ?_ _|refine kD5_ ?_|refine kA5_ ?_ _));exact BK190.out) hb);have n1_:=mk5_ (bT5_ (by repeat (first|(with_reducible first|exact HB.out|apply bA5_|apply bN5_|apply bD5_|refine bS5_ ?_ GE190.out)|exact HB.out)) hb);have n2_:=mk5_ (hbox);have n3_:=mk5_ ((by rw [hg];exact (bZ5_ (by repeat (first|(with_reducible first|exact HB.out|apply bA5_|apply bN5_|apply bD5_|refine bS5_ ?_ GE190.out)|exact HB.out))):w.heap.size≤gb191));have n4_:=mk5_ ((by rw [hg];exact (bZ5_ (by repeat (first|(with_reducible first|exact HB.out|apply bA5_|apply bN5_|apply bD5_|refine bS5_ ?_ GE190.out)|exact HB.out))):w.heap.size≤gb191));have n5_:=mk5_ ((by rw [hg];exact Nat.ne_of_lt (blk_lt (g:=gb190) (o:=.cells #[.int .i64 a0_0,.int .i64 a0_1,.slice A0_2 l0_2.length c0_2,.slice A0_3 l0_3.length c0_3] 30 (0,0)) (by (with_reducible repeat (first|refine kN5_ ?_ _|refine kD5_ ?_|refine kA5_ ?_ _));exact BK190.out)):gb190≠gb191));have n6_:=mk5_ ((by rw [hg];exact Nat.ne_of_gt (blk_lt (g:=gb190) (o:=.cells #[.int .i64 a0_0,.int .i64 a0_1,.slice A0_2 l0_2.length c0_2,.slice A0_3 l0_3.length c0_3] 30 (0,0)) (by (with_reducible repeat (first|refine kN5_ ?_ _|refine kD5_ ?_|refine kA5_ ?_ _));exact BK190.out)):gb191≠gb190));clear BK190;clear HB;have BK190:=n0_;have HB:=n1_;have BK191:=n2_;have GW191:=n3_;have GE191:=n4_;have NB190_191:=n5_;have NB191_190:=n6_;clear n0_ n1_ n2_ n3_ n4_ n5_ n6_;clear hb hbox hg)|((with_reducible refine gate_dst (N:=3) rfl ?_);refine box_event ?hg (N:=3) ?hd (cs:=#[.int .i64 0,.int .i64 0,.slice none 0 0,.slice none 0 0]) (t:=41) ?hr ?_;(case hd=>rfl);(case hg=>rfl);(case hr=>first|(go_simp;done)|(go_simp;rfl));intro gb192 hg w6 hbox hb;have n0_:=mk5_ (blk_below (g:=gb190) (o:=.cells #[.int .i64 a0_0,.int .i64 a0_1,.slice A0_2 l0_2.length c0_2,.slice A0_3 l0_3.length c0_3] 30 (0,0)) (by (with_reducible repeat (first|refine kN5_ ?_ _|refine kD5_ ?_|refine kA5_ ?_ _));exact BK190.out) hb);have n1_:=mk5_ (blk_below (g:=gb191) (o:=.cells #[.int .i64 0,.int .i64 0,.slice none 0 0,.slice none 0 0] 41 (0,0)) (by (with_reducible repeat (first|refine kN5_ ?_ _|refine kD5_ ?_|refine kA5_ ?_ _));exact BK191.out) hb);have n2_:=mk5_ (bT5_ (by repeat (first|(with_reducible first|exact HB.out|apply bA5_|apply bN5_|apply bD5_|refine bS5_ ?_ GE190.out|refine bS5_ ?_ GE191.out)|exact HB.out)) hb);have n3_:=mk5_ (hbox);have n4_:=mk5_ ((by rw [hg];exact (bZ5_ (by repeat (first|(with_reducible first|exact HB.out|apply bA5_|apply bN5_|apply bD5_|refine bS5_ ?_ GE190.out|refine bS5_ ?_ GE191.out)|exact HB.out))):w.heap.size≤gb192));have n5_:=mk5_ ((by rw [hg];exact (bZ5_ (by repeat (first|(with_reducible first|exact HB.out|apply bA5_|apply bN5_|apply bD5_|refine bS5_ ?_ GE190.out|refine bS5_ ?_ GE191.out)|exact HB.out))):w.heap.size≤gb192));have n6_:=mk5_ ((by rw [hg];exact Nat.ne_of_lt (blk_lt (g:=gb190) (o:=.cells #[.int .i64 a0_0,.int .i64 a0_1,.slice A0_2 l0_2.length c0_2,.slice A0_3 l0_3.length c0_3] 30 (0,0)) (by (with_reducible repeat (first|refine kN5_ ?_ _|refine kD5_ ?_|refine kA5_ ?_ _));exact BK190.out)):gb190≠gb192));have n7_:=mk5_ ((by rw [hg];exact Nat.ne_of_gt (blk_lt (g:=gb190) (o:=.cells #[.int .i64 a0_0,.int .i64 a0_1,.slice A0_2 l0_2.length c0_2,.slice A0_3 l0_3.length c0_3] 30 (0,0)) (by (with_reducible repeat (first|refine kN5_ ?_ _|refine kD5_ ?_|refine kA5_ ?_ _));exact BK190.out)):gb192≠gb190));have n8_:=mk5_ ((by rw [hg];exact Nat.ne_of_lt (blk_lt (g:=gb191) (o:=.cells #[.int .i64 0,.int .i64 0,.slice none 0 0,.slice none 0 0] 41 (0,0)) (by (with_reducible repeat (first|refine kN5_ ?_ _|refine kD5_ ?_|refine kA5_ ?_ _));exact BK191.out)):gb191≠gb192));have n9_:=mk5_ ((by rw [hg];exact Nat.ne_of_gt (blk_lt (g:=gb191) (o:=.cells #[.int .i64 0,.int .i64 0,.slice none 0 0,.slice none 0 0] 41 (0,0)) (by (with_reducible repeat (first|refine kN5_ ?_ _|refine kD5_ ?_|refine kA5_ ?_ _));exact BK191.out)):gb192≠gb191));clear BK190;clear BK191;clear HB;have BK190:=n0_;have BK191:=n1_;have HB:=n2_;have BK192:=n3_;have GW192:=n4_;have GE192:=n5_;have NB190_192:=n6_;have NB192_190:=n7_;have NB191_192:=n8_;have NB192_191:=n9_;clear n0_ n1_ n2_ n3_ n4_ n5_ n6_ n7_ n8_ n9_;clear hb hbox hg;have hnb7:=NB190_191.out;have hnc7:=NB191_190.out;have hnb8:=NB190_192.out;have hnc8:=NB192_190.out;have hcz9_0:w6.cell? ⟨gb190,0,none⟩=some (.int .i64 a0_0):=(blk_cell BK190.out 0).trans rfl;have hcz9_1:w6.cell? ⟨gb190,1,none⟩=some (.int .i64 a0_1):=(blk_cell BK190.out 1).trans rfl;have hcz9_2:w6.cell? ⟨gb190,2,none⟩=some (.slice A0_2 l0_2.length c0_2):=(blk_cell BK190.out 2).trans rfl;have hcz9_3:w6.cell? ⟨gb190,3,none⟩=some (.slice A0_3 l0_3.length c0_3):=(blk_cell BK190.out 3).trans rfl;have hfz9_0:=fZ5_ BK190.out 0;have hfz9_1:=fZ5_ BK190.out 1;have hfz9_2:=fZ5_ BK190.out 2;have hfz9_3:=fZ5_ BK190.out 3;have hnb10:=NB192_191.out;have hnc10:=NB191_192.out;have hcz11_0:w6.cell? ⟨gb192,0,none⟩=some (.int .i64 0):=(blk_cell BK192.out 0).trans rfl;have hcz11_1:w6.cell? ⟨gb192,1,none⟩=some (.int .i64 0):=(blk_cell BK192.out 1).trans rfl;have hcz11_2:w6.cell? ⟨gb192,2,none⟩=some (.slice none 0 0):=(blk_cell BK192.out 2).trans rfl;have hcz11_3:w6.cell? ⟨gb192,3,none⟩=some (.slice none 0 0):=(blk_cell BK192.out 3).trans rfl;have hfz11_0:=fZ5_ BK192.out 0;have hfz11_1:=fZ5_ BK192.out 1;have hfz11_2:=fZ5_ BK192.out 2;have hfz11_3:=fZ5_ BK192.out 3)|((with_reducible refine gate_callee (f:=24) rfl ?_);refine goesL_ (some 12) rfl rfl Try.func24 (by kernel_rfl) rfl #[.slice A0_2 l0_2.length c0_2] rfl (by (try simp only [mA5_,mC5_,mN5_]);first|done|rfl|(simp only [List.length_drop,List.length_take];rfl)) ?_;(with_reducible refine (laws_toInt64S.calls k _ _ l0_2 t193 _ ?side1 ?side2 A2.out).mono ?_);(case side1=>exact Kd.C_below HR0_2.out (by repeat (first|(with_reducible first|exact HB.out|apply bA5_|apply bN5_|apply bD5_|refine bS5_ ?_ GE190.out|refine bS5_ ?_ GE191.out|refine bS5_ ?_ GE192.out)|exact HB.out)));(case side2=>exact HC0_2.out);rintro e w12 ⟨v194,rfl,ho0,hb⟩;refine ⟨_,rfl,?_⟩;have n0_:=mk5_ (Kd.R_lower ho0 (bZ5_ (by repeat (first|(with_reducible first|exact HB.out|apply bA5_|apply bN5_|apply bD5_|refine bS5_ ?_ GE190.out|refine bS5_ ?_ GE191.out|refine bS5_ ?_ GE192.out)|exact HB.out))));have n1_:=mk5_ (blk_below (g:=gb190) (o:=.cells #[.int .i64 a0_0,.int .i64 a0_1,.slice A0_2 l0_2.length c0_2,.slice A0_3 l0_3.length c0_3] 30 (0,0)) (by (with_reducible repeat (first|refine kN5_ ?_ _|refine kD5_ ?_|refine kA5_ ?_ _));refine blk_far ?_ NB190_192.out _;(with_reducible repeat (first|refine kN5_ ?_ _|refine kD5_ ?_|refine kA5_ ?_ _));refine blk_far ?_ NB190_192.out _;(with_reducible repeat (first|refine kN5_ ?_ _|refine kD5_ ?_|refine kA5_ ?_ _));exact BK190.out) hb);have n2_:=mk5_ (blk_below (g:=gb191) (o:=.cells #[.int .i64 0,.int .i64 0,.slice none 0 0,.slice none 0 0] 41 (0,0)) (by (with_reducible repeat (first|refine kN5_ ?_ _|refine kD5_ ?_|refine kA5_ ?_ _));refine blk_far ?_ NB191_192.out _;(with_reducible repeat (first|refine kN5_ ?_ _|refine kD5_ ?_|refine kA5_ ?_ _));refine blk_far ?_ NB191_192.out _;(with_reducible repeat (first|refine kN5_ ?_ _|refine kD5_ ?_|refine kA5_ ?_ _));exact BK191.out) hb);have n3_:=mk5_ (blk_below (g:=gb192) (o:=.cells #[.int .i64 a0_0,.int .i64 a0_1,.slice none 0 0,.slice none 0 0] 41 (0,0)) (by (with_reducible repeat (first|refine kN5_ ?_ _|refine kD5_ ?_|refine kA5_ ?_ _));refine blk_put (cs:=#[.int .i64 a0_0,.int .i64 0,.slice none 0 0,.slice none 0 0]) ?_ 1 _ rfl;(with_reducible repeat (first|refine kN5_ ?_ _|refine kD5_ ?_|refine kA5_ ?_ _));refine blk_put (cs:=#[.int .i64 0,.int .i64 0,.slice none 0 0,.slice none 0 0]) ?_ 0 _ rfl;(with_reducible repeat (first|refine kN5_ ?_ _|refine kD5_ ?_|refine kA5_ ?_ _));exact BK192.out) hb);have n4_:=mk5_ (bT5_ (by repeat (first|(with_reducible first|exact HB.out|apply bA5_|apply bN5_|apply bD5_|refine bS5_ ?_ GE190.out|refine bS5_ ?_ GE191.out|refine bS5_ ?_ GE192.out)|exact HB.out)) hb);clear BK190;clear BK191;clear BK192;clear HB;have HO195:=n0_;have BK190:=n1_;have BK191:=n2_;have BK192:=n3_;have HB:=n4_;clear n0_ n1_ n2_ n3_ n4_;(try clear hb);(try clear hb2);(try clear hk);(try clear hi);(try clear ho0);obtain ⟨Ao13,co13,eo13⟩:=Kd.R_slice HO195.out;subst eo13;have hcz14_0:w12.cell? ⟨gb192,0,none⟩=some (.int .i64 a0_0):=(blk_cell BK192.out 0).trans rfl;have hcz14_1:w12.cell? ⟨gb192,1,none⟩=some (.int .i64 a0_1):=(blk_cell BK192.out 1).trans rfl;have hcz14_2:w12.cell? ⟨gb192,2,none⟩=some (.slice none 0 0):=(blk_cell BK192.out 2).trans rfl;have hcz14_3:w12.cell? ⟨gb192,3,none⟩=some (.slice none 0 0):=(blk_cell BK192.out 3).trans rfl;have hfz14_0:=fZ5_ BK192.out 0;have hfz14_1:=fZ5_ BK192.out 1;have hfz14_2:=fZ5_ BK192.out 2;have hfz14_3:=fZ5_ BK192.out 3;have hcz15_0:w12.cell? ⟨gb190,0,none⟩=some (.int .i64 a0_0):=(blk_cell BK190.out 0).trans rfl;have hcz15_1:w12.cell? ⟨gb190,1,none⟩=some (.int .i64 a0_1):=(blk_cell BK190.out 1).trans rfl;have hcz15_2:w12.cell? ⟨gb190,2,none⟩=some (.slice A0_2 l0_2.length c0_2):=(blk_cell BK190.out 2).trans rfl;have hcz15_3:w12.cell? ⟨gb190,3,none⟩=some (.slice A0_3 l0_3.length c0_3):=(blk_cell BK190.out 3).trans rfl;have hfz15_0:=fZ5_ BK190.out 0;have hfz15_1:=fZ5_ BK190.out 1;have hfz15_2:=fZ5_ BK190.out 2;have hfz15_3:=fZ5_ BK190.out 3)|((with_reducible refine gate_callee (f:=50) rfl ?_);refine goesL_ (some 16) rfl rfl Try.func50 (by kernel_rfl) rfl #[.slice A0_3 l0_3.length c0_3] rfl (by (try simp only [mA5_,mC5_,mN5_]);first|done|rfl|(simp only [List.length_drop,List.length_take];rfl)) ?_;(with_reducible refine (laws_toBoolS.calls k _ _ l0_3 t196 _ ?side1 ?side2 A3.out).mono ?_);(case side1=>exact Kd.C_below HR0_3.out (by repeat (first|(with_reducible first|exact HB.out|apply bA5_|apply bN5_|apply bD5_|refine bS5_ ?_ GE190.out|refine bS5_ ?_ GE191.out|refine bS5_ ?_ GE192.out)|exact HB.out)));(case side2=>exact HC0_3.out);rintro e w16 ⟨v197,rfl,ho0,hb⟩;refine ⟨_,rfl,?_⟩;have n0_:=mk5_ (Kd.R_below (by (with_reducible repeat (first|apply rA5_|apply Kd.R_drewN|apply Kd.R_drew));exact (Kd.R_mono (Kd.R_far (p:=⟨gb192,2,none⟩) (Kd.R_types HO195.out BK192.out (by decide)) (fun _ hk=>hk.2) (.slice Ao13 t193.length co13)) (fun _ h_=>h_.1))) hb);have n1_:=mk5_ (Kd.R_lower ho0 (bZ5_ (by repeat (first|(with_reducible first|exact HB.out|apply bA5_|apply bN5_|apply bD5_|refine bS5_ ?_ GE190.out|refine bS5_ ?_ GE191.out|refine bS5_ ?_ GE192.out)|exact HB.out))));have n2_:=mk5_ (blk_below (g:=gb190) (o:=.cells #[.int .i64 a0_0,.int .i64 a0_1,.slice A0_2 l0_2.length c0_2,.slice A0_3 l0_3.length c0_3] 30 (0,0)) (by (with_reducible repeat (first|refine kN5_ ?_ _|refine kD5_ ?_|refine kA5_ ?_ _));refine blk_far ?_ NB190_192.out _;(with_reducible repeat (first|refine kN5_ ?_ _|refine kD5_ ?_|refine kA5_ ?_ _));exact BK190.out) hb);have n3_:=mk5_ (blk_below (g:=gb191) (o:=.cells #[.int .i64 0,.int .i64 0,.slice none 0 0,.slice none 0 0] 41 (0,0)) (by (with_reducible repeat (first|refine kN5_ ?_ _|refine kD5_ ?_|refine kA5_ ?_ _));refine blk_far ?_ NB191_192.out _;(with_reducible repeat (first|refine kN5_ ?_ _|refine kD5_ ?_|refine kA5_ ?_ _));exact BK191.out) hb);have n4_:=mk5_ (blk_below (g:=gb192) (o:=.cells #[.int .i64 a0_0,.int .i64 a0_1,.slice Ao13 t193.length co13,.slice none 0 0] 41 (0,0)) (by (with_reducible repeat (first|refine kN5_ ?_ _|refine kD5_ ?_|refine kA5_ ?_ _));refine blk_put (cs:=#[.int .i64 a0_0,.int .i64 a0_1,.slice none 0 0,.slice none 0 0]) ?_ 2 _ rfl;(with_reducible repeat (first|refine kN5_ ?_ _|refine kD5_ ?_|refine kA5_ ?_ _));exact BK192.out) hb);have n5_:=mk5_ (bT5_ (by repeat (first|(with_reducible first|exact HB.out|apply bA5_|apply bN5_|apply bD5_|refine bS5_ ?_ GE190.out|refine bS5_ ?_ GE191.out|refine bS5_ ?_ GE192.out)|exact HB.out)) hb);clear HO195;clear BK190;clear BK191;clear BK192;clear HB;have HO195:=n0_;have HO198:=n1_;have BK190:=n2_;have BK191:=n3_;have BK192:=n4_;have HB:=n5_;clear n0_ n1_ n2_ n3_ n4_ n5_;(try clear hb);(try clear hb2);(try clear hk);(try clear hi);(try clear ho0);obtain ⟨Ao17,co17,eo17⟩:=Kd.R_slice HO198.out;subst eo17;have hcz18_0:w16.cell? ⟨gb192,0,none⟩=some (.int .i64 a0_0):=(blk_cell BK192.out 0).trans rfl;have hcz18_1:w16.cell? ⟨gb192,1,none⟩=some (.int .i64 a0_1):=(blk_cell BK192.out 1).trans rfl;have hcz18_2:w16.cell? ⟨gb192,2,none⟩=some (.slice Ao13 t193.length co13):=(blk_cell BK192.out 2).trans rfl;have hcz18_3:w16.cell? ⟨gb192,3,none⟩=some (.slice none 0 0):=(blk_cell BK192.out 3).trans rfl;have hfz18_0:=fZ5_ BK192.out 0;have hfz18_1:=fZ5_ BK192.out 1;have hfz18_2:=fZ5_ BK192.out 2;have hfz18_3:=fZ5_ BK192.out 3;have hcz19_0:w16.cell? ⟨gb191,0,none⟩=some (.int .i64 0):=(blk_cell BK191.out 0).trans rfl;have hcz19_1:w16.cell? ⟨gb191,1,none⟩=some (.int .i64 0):=(blk_cell BK191.out 1).trans rfl;have hcz19_2:w16.cell? ⟨gb191,2,none⟩=some (.slice none 0 0):=(blk_cell BK191.out 2).trans rfl;have hcz19_3:w16.cell? ⟨gb191,3,none⟩=some (.slice none 0 0):=(blk_cell BK191.out 3).trans rfl;have hfz19_0:=fZ5_ BK191.out 0;have hfz19_1:=fZ5_ BK191.out 1;have hfz19_2:=fZ5_ BK191.out 2;have hfz19_3:=fZ5_ BK191.out 3))
 refine bodyPost_ret (results_cell_row rfl _ _ gb191 41 #[.int .i64 a0_0,.int .i64 a0_1,.slice Ao13 t193.length co13,.slice Ao17 t196.length co17] (0,0) _ rfl (by (with_reducible repeat (first|refine kN5_ ?_ _|refine kD5_ ?_|refine kA5_ ?_ _));refine blk_put (cs:=#[.int .i64 a0_0,.int .i64 a0_1,.slice Ao13 t193.length co13,.slice none 0 0]) ?_ 3 _ rfl;(with_reducible repeat (first|refine kN5_ ?_ _|refine kD5_ ?_|refine kA5_ ?_ _));refine blk_put (cs:=#[.int .i64 a0_0,.int .i64 a0_1,.slice none 0 0,.slice none 0 0]) ?_ 2 _ rfl;(with_reducible repeat (first|refine kN5_ ?_ _|refine kD5_ ?_|refine kA5_ ?_ _));refine blk_put (cs:=#[.int .i64 a0_0,.int .i64 0,.slice none 0 0,.slice none 0 0]) ?_ 1 _ rfl;(with_reducible repeat (first|refine kN5_ ?_ _|refine kD5_ ?_|refine kA5_ ?_ _));refine blk_put (cs:=#[.int .i64 0,.int .i64 0,.slice none 0 0,.slice none 0 0]) ?_ 0 _ rfl;(with_reducible repeat (first|refine kN5_ ?_ _|refine kD5_ ?_|refine kA5_ ?_ _));refine blk_far ?_ NB191_192.out _;(with_reducible repeat (first|refine kN5_ ?_ _|refine kD5_ ?_|refine kA5_ ?_ _));exact BK191.out) Try.underlying41 rfl (by kernel_rfl)) rfl ?_
 exact ⟨_,_,by first|rfl|(simp [errW_none,errW_some] <;> rfl)|(simp [*,errW_none,errW_some] <;> rfl),by (with_reducible repeat (first|apply rA5_|apply Kd.R_drewN|apply Kd.R_drew));exact Kd.R_mono (Kd.R_far (p:=⟨gb191,3,none⟩) (Kd.R_far (p:=⟨gb191,2,none⟩) (Kd.R_far (p:=⟨gb191,1,none⟩) (Kd.R_far (p:=⟨gb191,0,none⟩) (Kd.R_far (p:=⟨gb192,3,none⟩) (Kd.R_types (Kd.R_types HO195.out BK192.out (by decide)) BK191.out (by decide)) (fun _ hk=>hk.1.2) (.slice Ao17 t196.length co17)) (fun _ hk=>hk.2) (.int .i64 a0_0)) (fun _ hk=>hk.2) (.int .i64 a0_1)) (fun _ hk=>hk.2) (.slice Ao13 t193.length co13)) (fun _ hk=>hk.2) (.slice Ao17 t196.length co17)) (fun _ hk=>trivial),by (with_reducible repeat (first|apply rA5_|apply Kd.R_drewN|apply Kd.R_drew));exact Kd.R_mono (Kd.R_far (p:=⟨gb191,3,none⟩) (Kd.R_far (p:=⟨gb191,2,none⟩) (Kd.R_far (p:=⟨gb191,1,none⟩) (Kd.R_far (p:=⟨gb191,0,none⟩) (Kd.R_far (p:=⟨gb192,3,none⟩) (Kd.R_types (Kd.R_types HO198.out BK192.out (by decide)) BK191.out (by decide)) (fun _ hk=>hk.1.2) (.slice Ao17 t196.length co17)) (fun _ hk=>hk.2) (.int .i64 a0_0)) (fun _ hk=>hk.2) (.int .i64 a0_1)) (fun _ hk=>hk.2) (.slice Ao13 t193.length co13)) (fun _ hk=>hk.2) (.slice Ao17 t196.length co17)) (fun _ hk=>trivial),by repeat (first|(with_reducible first|exact HB.out|apply bA5_|apply bN5_|apply bD5_|refine bS5_ ?_ GE190.out|refine bS5_ ?_ GE191.out|refine bS5_ ?_ GE192.out)|exact HB.out)⟩

def laws_toHeat.f (k:Nat) (l0_0:List Int) (a0_1:Int):Option (List Int × Int):=(laws_toInt64S.f k l0_0).bind fun t202=>(some (t202,a0_1))
set_option maxHeartbeats 8000000 in
set_option maxRecDepth 100000 in
theorem laws_toHeat.calls (k:Nat) (A0_0:Option Addr) (c0_0:Nat) (l0_0:List Int) (a0_1:Int) (r1:List Int) (r2:Int) (w:World) (hr0_0:Kd.C (Kd.int .i64) w A0_0 l0_0.length l0_0) (hc0_0:l0_0.length≤c0_0) (h:laws_toHeat.f k l0_0 a0_1=some (r1,r2)) :
  Calls Try.prog 23 #[.agg #[.slice A0_0 l0_0.length c0_0,.int .i64 a0_1]] w fun e w'=>∃ v0_:Value,e=.returned (.agg #[v0_,.int .i64 r2])∧Kd.R (Kd.int .i64) 2 w' w.heap.size (fun _=>True) v0_ r1∧Below w.heap.size w w':=by
 have hu32 := Try.underlying32
 have hu42 := Try.underlying42
 have HR0_0 := Aside0.mk hr0_0
 have HC0_0 := Aside0.mk hc0_0
 clear hr0_0 hc0_0
 have HB := Aside0.mk (Below.refl w.heap.size w)
 have H:((laws_toInt64S.f k l0_0).bind fun t202=>(some (t202,a0_1)))=some (r1,r2):=h
 clear h
 replace H := Option.bind_eq_some_iff.mp H
 obtain ⟨t202, A20, H⟩ := H
 replace H : (some (t202, a0_1)) = some (r1, r2) := H
 have A2 := Aside0.mk A20
 clear A20
 simp only [Option.some.injEq, Prod.mk.injEq] at H
 obtain ⟨rfl, rfl⟩ := H
 go_enter Try.func23, Try.ntmps23
 go_wp2_with (first|((with_reducible refine gate_dst (N:=1) rfl ?_);refine box_event ?hg (N:=1) ?hd (cs:=#[.slice A0_0 l0_0.length c0_0,.int .i64 a0_1]) (t:=32) ?hr ?_;(case hd=>rfl);(case hg=>rfl);(case hr=>first|(go_simp;done)|(go_simp;rfl));intro gb199 hg w3 hbox hb;have n0_:=mk5_ (bT5_ (by repeat (first|(with_reducible first|exact HB.out|apply bA5_|apply bN5_|apply bD5_)|exact HB.out)) hb);have n1_:=mk5_ (hbox);have n2_:=mk5_ ((by rw [hg];exact (bZ5_ (by repeat (first|(with_reducible first|exact HB.out|apply bA5_|apply bN5_|apply bD5_)|exact HB.out))):w.heap.size≤gb199));have n3_:=mk5_ ((by rw [hg];exact (bZ5_ (by repeat (first|(with_reducible first|exact HB.out|apply bA5_|apply bN5_|apply bD5_)|exact HB.out))):w.heap.size≤gb199));clear HB;have HB:=n0_;have BK199:=n1_;have GW199:=n2_;have GE199:=n3_;clear n0_ n1_ n2_ n3_;clear hb hbox hg)|((with_reducible refine gate_dst (N:=2) rfl ?_);refine box_event ?hg (N:=2) ?hd (cs:=#[.slice none 0 0,.int .i64 0]) (t:=42) ?hr ?_;(case hd=>rfl);(case hg=>rfl);(case hr=>first|(go_simp;done)|(go_simp;rfl));intro gb200 hg w4 hbox hb;have n0_:=mk5_ (blk_below (g:=gb199) (o:=.cells #[.slice A0_0 l0_0.length c0_0,.int .i64 a0_1] 32 (0,0)) (by (with_reducible repeat (first|refine kN5_ ?_ _|refine kD5_ ?_|refine kA5_ ?_ _));exact BK199.out) hb);have n1_:=mk5_ (bT5_ (by repeat (first|(with_reducible first|exact HB.out|apply bA5_|apply bN5_|apply bD5_|refine bS5_ ?_ GE199.out)|exact HB.out)) hb);have n2_:=mk5_ (hbox);have n3_:=mk5_ ((by rw [hg];exact (bZ5_ (by repeat (first|(with_reducible first|exact HB.out|apply bA5_|apply bN5_|apply bD5_|refine bS5_ ?_ GE199.out)|exact HB.out))):w.heap.size≤gb200));have n4_:=mk5_ ((by rw [hg];exact (bZ5_ (by repeat (first|(with_reducible first|exact HB.out|apply bA5_|apply bN5_|apply bD5_|refine bS5_ ?_ GE199.out)|exact HB.out))):w.heap.size≤gb200));have n5_:=mk5_ ((by rw [hg];exact Nat.ne_of_lt (blk_lt (g:=gb199) (o:=.cells #[.slice A0_0 l0_0.length c0_0,.int .i64 a0_1] 32 (0,0)) (by (with_reducible repeat (first|refine kN5_ ?_ _|refine kD5_ ?_|refine kA5_ ?_ _));exact BK199.out)):gb199≠gb200));have n6_:=mk5_ ((by rw [hg];exact Nat.ne_of_gt (blk_lt (g:=gb199) (o:=.cells #[.slice A0_0 l0_0.length c0_0,.int .i64 a0_1] 32 (0,0)) (by (with_reducible repeat (first|refine kN5_ ?_ _|refine kD5_ ?_|refine kA5_ ?_ _));exact BK199.out)):gb200≠gb199));clear BK199;clear HB;have BK199:=n0_;have HB:=n1_;have BK200:=n2_;have GW200:=n3_;have GE200:=n4_;have NB199_200:=n5_;have NB200_199:=n6_;clear n0_ n1_ n2_ n3_ n4_ n5_ n6_;clear hb hbox hg)|((with_reducible refine gate_dst (N:=3) rfl ?_);refine box_event ?hg (N:=3) ?hd (cs:=#[.slice none 0 0,.int .i64 0]) (t:=42) ?hr ?_;(case hd=>rfl);(case hg=>rfl);(case hr=>first|(go_simp;done)|(go_simp;rfl));intro gb201 hg w5 hbox hb;have n0_:=mk5_ (blk_below (g:=gb199) (o:=.cells #[.slice A0_0 l0_0.length c0_0,.int .i64 a0_1] 32 (0,0)) (by (with_reducible repeat (first|refine kN5_ ?_ _|refine kD5_ ?_|refine kA5_ ?_ _));exact BK199.out) hb);have n1_:=mk5_ (blk_below (g:=gb200) (o:=.cells #[.slice none 0 0,.int .i64 0] 42 (0,0)) (by (with_reducible repeat (first|refine kN5_ ?_ _|refine kD5_ ?_|refine kA5_ ?_ _));exact BK200.out) hb);have n2_:=mk5_ (bT5_ (by repeat (first|(with_reducible first|exact HB.out|apply bA5_|apply bN5_|apply bD5_|refine bS5_ ?_ GE199.out|refine bS5_ ?_ GE200.out)|exact HB.out)) hb);have n3_:=mk5_ (hbox);have n4_:=mk5_ ((by rw [hg];exact (bZ5_ (by repeat (first|(with_reducible first|exact HB.out|apply bA5_|apply bN5_|apply bD5_|refine bS5_ ?_ GE199.out|refine bS5_ ?_ GE200.out)|exact HB.out))):w.heap.size≤gb201));have n5_:=mk5_ ((by rw [hg];exact (bZ5_ (by repeat (first|(with_reducible first|exact HB.out|apply bA5_|apply bN5_|apply bD5_|refine bS5_ ?_ GE199.out|refine bS5_ ?_ GE200.out)|exact HB.out))):w.heap.size≤gb201));have n6_:=mk5_ ((by rw [hg];exact Nat.ne_of_lt (blk_lt (g:=gb199) (o:=.cells #[.slice A0_0 l0_0.length c0_0,.int .i64 a0_1] 32 (0,0)) (by (with_reducible repeat (first|refine kN5_ ?_ _|refine kD5_ ?_|refine kA5_ ?_ _));exact BK199.out)):gb199≠gb201));have n7_:=mk5_ ((by rw [hg];exact Nat.ne_of_gt (blk_lt (g:=gb199) (o:=.cells #[.slice A0_0 l0_0.length c0_0,.int .i64 a0_1] 32 (0,0)) (by (with_reducible repeat (first|refine kN5_ ?_ _|refine kD5_ ?_|refine kA5_ ?_ _));exact BK199.out)):gb201≠gb199));have n8_:=mk5_ ((by rw [hg];exact Nat.ne_of_lt (blk_lt (g:=gb200) (o:=.cells #[.slice none 0 0,.int .i64 0] 42 (0,0)) (by (with_reducible repeat (first|refine kN5_ ?_ _|refine kD5_ ?_|refine kA5_ ?_ _));exact BK200.out)):gb200≠gb201));have n9_:=mk5_ ((by rw [hg];exact Nat.ne_of_gt (blk_lt (g:=gb200) (o:=.cells #[.slice none 0 0,.int .i64 0] 42 (0,0)) (by (with_reducible repeat (first|refine kN5_ ?_ _|refine kD5_ ?_|refine kA5_ ?_ _));exact BK200.out)):gb201≠gb200));clear BK199;clear BK200;clear HB;have BK199:=n0_;have BK200:=n1_;have HB:=n2_;have BK201:=n3_;have GW201:=n4_;have GE201:=n5_;have NB199_201:=n6_;have NB201_199:=n7_;have NB200_201:=n8_;have NB201_200:=n9_;clear n0_ n1_ n2_ n3_ n4_ n5_ n6_ n7_ n8_ n9_;clear hb hbox hg;have hnb6:=NB199_200.out;have hnc6:=NB200_199.out;have hnb7:=NB199_201.out;have hnc7:=NB201_199.out;have hcz8_0:w5.cell? ⟨gb199,0,none⟩=some (.slice A0_0 l0_0.length c0_0):=(blk_cell BK199.out 0).trans rfl;have hcz8_1:w5.cell? ⟨gb199,1,none⟩=some (.int .i64 a0_1):=(blk_cell BK199.out 1).trans rfl;have hfz8_0:=fZ5_ BK199.out 0;have hfz8_1:=fZ5_ BK199.out 1)|((with_reducible refine gate_callee (f:=24) rfl ?_);refine goesL_ (some 6) rfl rfl Try.func24 (by kernel_rfl) rfl #[.slice A0_0 l0_0.length c0_0] rfl (by (try simp only [mA5_,mC5_,mN5_]);first|done|rfl|(simp only [List.length_drop,List.length_take];rfl)) ?_;(with_reducible refine (laws_toInt64S.calls k _ _ l0_0 t202 _ ?side1 ?side2 A2.out).mono ?_);(case side1=>repeat (first|exact (Kd.C_below HR0_0.out HB.out)|(with_reducible refine Kd.C_alloc ?_ _)|(with_reducible refine Kd.C_drewN ?_ _)|(with_reducible refine Kd.C_drew ?_)));(case side2=>exact HC0_0.out);rintro e w9 ⟨v203,rfl,ho0,hb⟩;refine ⟨_,rfl,?_⟩;have n0_:=mk5_ (Kd.R_lower ho0 (bZ5_ (by repeat (first|(with_reducible first|exact HB.out|apply bA5_|apply bN5_|apply bD5_|refine bS5_ ?_ GE199.out|refine bS5_ ?_ GE200.out|refine bS5_ ?_ GE201.out)|exact HB.out))));have n1_:=mk5_ (blk_below (g:=gb199) (o:=.cells #[.slice A0_0 l0_0.length c0_0,.int .i64 a0_1] 32 (0,0)) (by (with_reducible repeat (first|refine kN5_ ?_ _|refine kD5_ ?_|refine kA5_ ?_ _));exact BK199.out) hb);have n2_:=mk5_ (blk_below (g:=gb200) (o:=.cells #[.slice none 0 0,.int .i64 0] 42 (0,0)) (by (with_reducible repeat (first|refine kN5_ ?_ _|refine kD5_ ?_|refine kA5_ ?_ _));exact BK200.out) hb);have n3_:=mk5_ (blk_below (g:=gb201) (o:=.cells #[.slice none 0 0,.int .i64 0] 42 (0,0)) (by (with_reducible repeat (first|refine kN5_ ?_ _|refine kD5_ ?_|refine kA5_ ?_ _));exact BK201.out) hb);have n4_:=mk5_ (bT5_ (by repeat (first|(with_reducible first|exact HB.out|apply bA5_|apply bN5_|apply bD5_|refine bS5_ ?_ GE199.out|refine bS5_ ?_ GE200.out|refine bS5_ ?_ GE201.out)|exact HB.out)) hb);clear BK199;clear BK200;clear BK201;clear HB;have HO204:=n0_;have BK199:=n1_;have BK200:=n2_;have BK201:=n3_;have HB:=n4_;clear n0_ n1_ n2_ n3_ n4_;(try clear hb);(try clear hb2);(try clear hk);(try clear hi);(try clear ho0);obtain ⟨Ao10,co10,eo10⟩:=Kd.R_slice HO204.out;subst eo10;have hnb11:=NB201_200.out;have hnc11:=NB200_201.out;have hcz12_0:w9.cell? ⟨gb201,0,none⟩=some (.slice none 0 0):=(blk_cell BK201.out 0).trans rfl;have hcz12_1:w9.cell? ⟨gb201,1,none⟩=some (.int .i64 0):=(blk_cell BK201.out 1).trans rfl;have hfz12_0:=fZ5_ BK201.out 0;have hfz12_1:=fZ5_ BK201.out 1;have hcz13_0:w9.cell? ⟨gb199,0,none⟩=some (.slice A0_0 l0_0.length c0_0):=(blk_cell BK199.out 0).trans rfl;have hcz13_1:w9.cell? ⟨gb199,1,none⟩=some (.int .i64 a0_1):=(blk_cell BK199.out 1).trans rfl;have hfz13_0:=fZ5_ BK199.out 0;have hfz13_1:=fZ5_ BK199.out 1;have hcz14_0:w9.cell? ⟨gb200,0,none⟩=some (.slice none 0 0):=(blk_cell BK200.out 0).trans rfl;have hcz14_1:w9.cell? ⟨gb200,1,none⟩=some (.int .i64 0):=(blk_cell BK200.out 1).trans rfl;have hfz14_0:=fZ5_ BK200.out 0;have hfz14_1:=fZ5_ BK200.out 1))
 refine bodyPost_ret (results_cell_row rfl _ _ gb200 42 #[.slice Ao10 t202.length co10,.int .i64 a0_1] (0,0) _ rfl (by (with_reducible repeat (first|refine kN5_ ?_ _|refine kD5_ ?_|refine kA5_ ?_ _));refine blk_put (cs:=#[.slice Ao10 t202.length co10,.int .i64 0]) ?_ 1 _ rfl;(with_reducible repeat (first|refine kN5_ ?_ _|refine kD5_ ?_|refine kA5_ ?_ _));refine blk_put (cs:=#[.slice none 0 0,.int .i64 0]) ?_ 0 _ rfl;(with_reducible repeat (first|refine kN5_ ?_ _|refine kD5_ ?_|refine kA5_ ?_ _));refine blk_far ?_ NB200_201.out _;(with_reducible repeat (first|refine kN5_ ?_ _|refine kD5_ ?_|refine kA5_ ?_ _));refine blk_far ?_ NB200_201.out _;(with_reducible repeat (first|refine kN5_ ?_ _|refine kD5_ ?_|refine kA5_ ?_ _));exact BK200.out) Try.underlying42 rfl (by kernel_rfl)) rfl ?_
 exact ⟨_,by first|rfl|(simp [errW_none,errW_some] <;> rfl)|(simp [*,errW_none,errW_some] <;> rfl),by (with_reducible repeat (first|apply rA5_|apply Kd.R_drewN|apply Kd.R_drew));exact Kd.R_mono (Kd.R_far (p:=⟨gb200,1,none⟩) (Kd.R_far (p:=⟨gb200,0,none⟩) (Kd.R_far (p:=⟨gb201,1,none⟩) (Kd.R_far (p:=⟨gb201,0,none⟩) (Kd.R_types (Kd.R_types HO204.out BK201.out (by decide)) BK200.out (by decide)) (fun _ hk=>hk.1.2) (.slice Ao10 t202.length co10)) (fun _ hk=>hk.1.2) (.int .i64 a0_1)) (fun _ hk=>hk.2) (.slice Ao10 t202.length co10)) (fun _ hk=>hk.2) (.int .i64 a0_1)) (fun _ hk=>trivial),by repeat (first|(with_reducible first|exact HB.out|apply bA5_|apply bN5_|apply bD5_|refine bS5_ ?_ GE199.out|refine bS5_ ?_ GE200.out|refine bS5_ ?_ GE201.out)|exact HB.out)⟩

def laws_toFTL.f (k:Nat) (a0_0:Int) (a0_1:Int) (a0_2:Int) (l0_3:List (S103)) (a0_4:Int) (a0_5:Int) (a0_6:Bool) (a0_7:Int) (a0_8:Int) (a0_9:Int) (l0_10:List Int) (l0_11:List Bool) (l0_12:List Int) (a0_13:Int) (a0_14:Int) (l0_15:List Int) (l0_16:List Int) (a0_17:Int) (a0_18:Int):Option (Int × Int × Int × (List (S92)) × Int × Int × Bool × Int × Int × Int × List Int × List Bool × List Int × Int × Int × List Int × List Int × Int × Int):=(laws_toFlash.f k a0_0 a0_1 a0_2 l0_3 a0_4 a0_5 a0_6 a0_7).bind fun bt208=>((laws_toPageMap.f k a0_8 a0_9 l0_10 l0_11).bind fun bt218=>((laws_toHeat.f k l0_12 a0_13).bind fun bt226=>((laws_toInt64S.f k l0_15).bind fun t230=>((laws_toInt64S.f k l0_16).bind fun t233=>(some (bt208.1,bt208.2.1,bt208.2.2.1,bt208.2.2.2.1,bt208.2.2.2.2.1,bt208.2.2.2.2.2.1,bt208.2.2.2.2.2.2.1,bt208.2.2.2.2.2.2.2,bt218.1,bt218.2.1,bt218.2.2.1,bt218.2.2.2,bt226.1,bt226.2,a0_14,t230,t233,a0_17,a0_18))))))

def impl_Geometry_all.f (a0_0:Int) (a0_1:Int) (a0_2:Int):Option (Int):=some (wrap64 (a0_0 * a0_1))
set_option maxHeartbeats 8000000 in
set_option maxRecDepth 100000 in
theorem impl_Geometry_all.calls (a0_0:Int) (a0_1:Int) (a0_2:Int) (r:Int) (w:World) (h:impl_Geometry_all.f a0_0 a0_1 a0_2=some r) :
  Calls Try.prog 27 #[.agg #[.int .i64 a0_0,.int .i64 a0_1,.int .i64 a0_2]] w fun e w'=>e=.returned (.int .i64 r)∧Below w.heap.size w w':=by
 have hu37 := Try.underlying37
 have HB := Aside0.mk (Below.refl w.heap.size w)
 have H : (some (wrap64 (a0_0 * a0_1))) = some r := h
 clear h
 obtain rfl := Option.some.inj H
 go_enter Try.func27, Try.ntmps27
 go_wp2_with (first|((with_reducible refine gate_dst (N:=1) rfl ?_);refine box_event ?hg (N:=1) ?hd (cs:=#[.int .i64 a0_0,.int .i64 a0_1,.int .i64 a0_2]) (t:=37) ?hr ?_;(case hd=>rfl);(case hg=>rfl);(case hr=>first|(go_simp;done)|(go_simp;rfl));intro gb236 hg w2 hbox hb;have n0_:=mk5_ (bT5_ (by repeat (first|(with_reducible first|exact HB.out|apply bA5_|apply bN5_|apply bD5_)|exact HB.out)) hb);have n1_:=mk5_ (hbox);have n2_:=mk5_ ((by rw [hg];exact (bZ5_ (by repeat (first|(with_reducible first|exact HB.out|apply bA5_|apply bN5_|apply bD5_)|exact HB.out))):w.heap.size≤gb236));have n3_:=mk5_ ((by rw [hg];exact (bZ5_ (by repeat (first|(with_reducible first|exact HB.out|apply bA5_|apply bN5_|apply bD5_)|exact HB.out))):w.heap.size≤gb236));clear HB;have HB:=n0_;have BK236:=n1_;have GW236:=n2_;have GE236:=n3_;clear n0_ n1_ n2_ n3_;clear hb hbox hg;have hcz3_0:w2.cell? ⟨gb236,0,none⟩=some (.int .i64 a0_0):=(blk_cell BK236.out 0).trans rfl;have hcz3_1:w2.cell? ⟨gb236,1,none⟩=some (.int .i64 a0_1):=(blk_cell BK236.out 1).trans rfl;have hcz3_2:w2.cell? ⟨gb236,2,none⟩=some (.int .i64 a0_2):=(blk_cell BK236.out 2).trans rfl;have hfz3_0:=fZ5_ BK236.out 0;have hfz3_1:=fZ5_ BK236.out 1;have hfz3_2:=fZ5_ BK236.out 2))
 go_ret
 exact ⟨by first|rfl|(simp [errW_none,errW_some] <;> rfl)|(simp [*,errW_none,errW_some] <;> rfl),by repeat (first|(with_reducible first|exact HB.out|apply bA5_|apply bN5_|apply bD5_|refine bS5_ ?_ GE236.out)|exact HB.out)⟩

def impl_within.f (a0:Int) (a1:Int) (a2:Int):Option (Bool):=if a0 ≥ a1 then (some (decide (a0≤a2))) else (some false)
set_option maxHeartbeats 8000000 in
set_option maxRecDepth 100000 in
theorem impl_within.calls (a0:Int) (a1:Int) (a2:Int) (r:Bool) (w:World) (h:impl_within.f a0 a1 a2=some r) :
  Calls Try.prog 29 #[.int .i64 a0,.int .i64 a1,.int .i64 a2] w fun e w'=>e=.returned (.bool r)∧Drawn0 w w':=by
 have H:(if a0 ≥ a1 then (some (decide (a0≤a2))) else (some false))=some r:=h
 clear h
 by_cases c4 : a0 ≥ a1
 ·rw [if_pos c4] at H
  have c4b0 : decide (a1 ≤ a0) = true := decide_eq_true c4
  clear c4
  obtain rfl := Option.some.inj H
  go_enter Try.func29, Try.ntmps29
  go_wp2
  go_ret
  exact ⟨by first|rfl|(simp;done)|(simp [*];done),by repeat (first|exact Drawn0.refl _|apply Drawn0.step)⟩
 ·rw [if_neg c4] at H
  have c4b0 : decide (a1 ≤ a0) = false := decide_eq_false c4
  clear c4
  obtain rfl := Option.some.inj H
  go_enter Try.func29, Try.ntmps29
  go_wp2
  go_ret
  exact ⟨by first|rfl|(simp;done)|(simp [*];done),by repeat (first|exact Drawn0.refl _|apply Drawn0.step)⟩

def impl_ValidGeometry.f (a0_0:Int) (a0_1:Int) (a0_2:Int):Option (Bool):=(impl_within.f a0_0 2 3).bind fun t238=>(if t238=true then ((impl_within.f a0_1 4 12).bind fun t239=>(if t239=true then (if a0_2=8 then (some true) else (some (a0_2 == 16))) else (some false))) else (some false))
set_option maxHeartbeats 8000000 in
set_option maxRecDepth 100000 in
theorem impl_ValidGeometry.calls (a0_0:Int) (a0_1:Int) (a0_2:Int) (r:Bool) (w:World) (h:impl_ValidGeometry.f a0_0 a0_1 a0_2=some r) :
  Calls Try.prog 51 #[.agg #[.int .i64 a0_0,.int .i64 a0_1,.int .i64 a0_2]] w fun e w'=>e=.returned (.bool r)∧Below w.heap.size w w':=by
 have hu37 := Try.underlying37
 have HB := Aside0.mk (Below.refl w.heap.size w)
 have H:((impl_within.f a0_0 2 3).bind fun t238=>(if t238=true then ((impl_within.f a0_1 4 12).bind fun t239=>(if t239=true then (if a0_2=8 then (some true) else (some (a0_2 == 16))) else (some false))) else (some false)))=some r:=h
 clear h
 replace H := Option.bind_eq_some_iff.mp H
 obtain ⟨t238, A20, H⟩ := H
 replace H:(if t238=true then ((impl_within.f a0_1 4 12).bind fun t239=>(if t239=true then (if a0_2=8 then (some true) else (some (a0_2 == 16))) else (some false))) else (some false))=some r:=H
 have A2 := Aside0.mk A20
 clear A20
 by_cases c3 : t238 = true
 ·subst c3
  have H1:((impl_within.f a0_1 4 12).bind fun t239=>(if t239=true then (if a0_2=8 then (some true) else (some (a0_2 == 16))) else (some false)))=some r:=by rw [if_pos rfl] at H;exact H
  clear H
  have H := H1
  clear H1
  replace H := Option.bind_eq_some_iff.mp H
  obtain ⟨t239, A40, H⟩ := H
  replace H:(if t239=true then (if a0_2=8 then (some true) else (some (a0_2 == 16))) else (some false))=some r:=H
  have A4 := Aside0.mk A40
  clear A40
  by_cases c5 : t239 = true
  ·subst c5
   have H1:(if a0_2=8 then (some true) else (some (a0_2 == 16)))=some r:=by rw [if_pos rfl] at H;exact H
   clear H
   have H := H1
   clear H1
   by_cases c6 : a0_2 = 8
   ·rw [if_pos c6] at H
    have c6b0 : (a0_2 == 8) = true := beq_iff_eq.mpr c6
    have c6b1 : (a0_2 != 8) = false := bne_eq_false_iff_eq.mpr c6
    clear c6
    obtain rfl := Option.some.inj H
    go_enter Try.func51, Try.ntmps51
    go_wp2_with (first|((with_reducible refine gate_dst (N:=1) rfl ?_);refine box_event ?hg (N:=1) ?hd (cs:=#[.int .i64 a0_0,.int .i64 a0_1,.int .i64 a0_2]) (t:=37) ?hr ?_;(case hd=>rfl);(case hg=>rfl);(case hr=>first|(go_simp;done)|(go_simp;rfl));intro gb237 hg w7 hbox hb;have n0_:=mk5_ (bT5_ (by repeat (first|(with_reducible first|exact HB.out|apply bA5_|apply bN5_|apply bD5_)|exact HB.out)) hb);have n1_:=mk5_ (hbox);have n2_:=mk5_ ((by rw [hg];exact (bZ5_ (by repeat (first|(with_reducible first|exact HB.out|apply bA5_|apply bN5_|apply bD5_)|exact HB.out))):w.heap.size≤gb237));have n3_:=mk5_ ((by rw [hg];exact (bZ5_ (by repeat (first|(with_reducible first|exact HB.out|apply bA5_|apply bN5_|apply bD5_)|exact HB.out))):w.heap.size≤gb237));clear HB;have HB:=n0_;have BK237:=n1_;have GW237:=n2_;have GE237:=n3_;clear n0_ n1_ n2_ n3_;clear hb hbox hg;have hcz8_0:w7.cell? ⟨gb237,0,none⟩=some (.int .i64 a0_0):=(blk_cell BK237.out 0).trans rfl;have hcz8_1:w7.cell? ⟨gb237,1,none⟩=some (.int .i64 a0_1):=(blk_cell BK237.out 1).trans rfl;have hcz8_2:w7.cell? ⟨gb237,2,none⟩=some (.int .i64 a0_2):=(blk_cell BK237.out 2).trans rfl;have hfz8_0:=fZ5_ BK237.out 0;have hfz8_1:=fZ5_ BK237.out 1;have hfz8_2:=fZ5_ BK237.out 2)|((with_reducible refine gate_callee (f:=29) rfl ?_);refine goesL_ (some 5) rfl rfl Try.func29 (by kernel_rfl) rfl #[.int .i64 a0_0,.int .i64 2,.int .i64 3] rfl (by (try simp only [mA5_,mC5_,mN5_]);first|done|rfl|(simp only [List.length_drop,List.length_take];rfl)) ?_;(with_reducible refine (impl_within.calls a0_0 2 3 true _ A2.out).mono ?_);rintro e w' ⟨rfl,⟨nd,rfl⟩⟩;refine ⟨_,rfl,?_⟩)|(go_at_call 29;(with_reducible refine (impl_within.calls a0_1 4 12 true _ A4.out).mono ?_);rintro e w' ⟨rfl,⟨nd,rfl⟩⟩))
    go_ret
    exact ⟨by first|rfl|(simp [errW_none,errW_some] <;> rfl)|(simp [*,errW_none,errW_some] <;> rfl),by repeat (first|(with_reducible first|exact HB.out|apply bA5_|apply bN5_|apply bD5_|refine bS5_ ?_ GE237.out)|exact HB.out)⟩
   ·rw [if_neg c6] at H
    have c6b0 : (a0_2 == 8) = false := beq_eq_false_iff_ne.mpr c6
    have c6b1 : (a0_2 != 8) = true := bne_iff_ne.mpr c6
    obtain rfl := Option.some.inj H
    go_enter Try.func51, Try.ntmps51
    go_wp2_with (first|((with_reducible refine gate_dst (N:=1) rfl ?_);refine box_event ?hg (N:=1) ?hd (cs:=#[.int .i64 a0_0,.int .i64 a0_1,.int .i64 a0_2]) (t:=37) ?hr ?_;(case hd=>rfl);(case hg=>rfl);(case hr=>first|(go_simp;done)|(go_simp;rfl));intro gb237 hg w9 hbox hb;have n0_:=mk5_ (bT5_ (by repeat (first|(with_reducible first|exact HB.out|apply bA5_|apply bN5_|apply bD5_)|exact HB.out)) hb);have n1_:=mk5_ (hbox);have n2_:=mk5_ ((by rw [hg];exact (bZ5_ (by repeat (first|(with_reducible first|exact HB.out|apply bA5_|apply bN5_|apply bD5_)|exact HB.out))):w.heap.size≤gb237));have n3_:=mk5_ ((by rw [hg];exact (bZ5_ (by repeat (first|(with_reducible first|exact HB.out|apply bA5_|apply bN5_|apply bD5_)|exact HB.out))):w.heap.size≤gb237));clear HB;have HB:=n0_;have BK237:=n1_;have GW237:=n2_;have GE237:=n3_;clear n0_ n1_ n2_ n3_;clear hb hbox hg;have hcz10_0:w9.cell? ⟨gb237,0,none⟩=some (.int .i64 a0_0):=(blk_cell BK237.out 0).trans rfl;have hcz10_1:w9.cell? ⟨gb237,1,none⟩=some (.int .i64 a0_1):=(blk_cell BK237.out 1).trans rfl;have hcz10_2:w9.cell? ⟨gb237,2,none⟩=some (.int .i64 a0_2):=(blk_cell BK237.out 2).trans rfl;have hfz10_0:=fZ5_ BK237.out 0;have hfz10_1:=fZ5_ BK237.out 1;have hfz10_2:=fZ5_ BK237.out 2)|((with_reducible refine gate_callee (f:=29) rfl ?_);refine goesL_ (some 5) rfl rfl Try.func29 (by kernel_rfl) rfl #[.int .i64 a0_0,.int .i64 2,.int .i64 3] rfl (by (try simp only [mA5_,mC5_,mN5_]);first|done|rfl|(simp only [List.length_drop,List.length_take];rfl)) ?_;(with_reducible refine (impl_within.calls a0_0 2 3 true _ A2.out).mono ?_);rintro e w' ⟨rfl,⟨nd,rfl⟩⟩;refine ⟨_,rfl,?_⟩)|(go_at_call 29;(with_reducible refine (impl_within.calls a0_1 4 12 true _ A4.out).mono ?_);rintro e w' ⟨rfl,⟨nd,rfl⟩⟩))
    go_ret
    exact ⟨by first|rfl|(simp [errW_none,errW_some] <;> rfl)|(simp [*,errW_none,errW_some] <;> rfl),by repeat (first|(with_reducible first|exact HB.out|apply bA5_|apply bN5_|apply bD5_|refine bS5_ ?_ GE237.out)|exact HB.out)⟩
  ·replace c5 := Bool.eq_false_iff.mpr c5
   subst c5
   have H1:(some false)=some r:=by rw [if_neg (show ¬ (false=true) by decide)] at H;exact H
   clear H
   have H := H1
   clear H1
   obtain rfl := Option.some.inj H
   go_enter Try.func51, Try.ntmps51
   go_wp2_with (first|((with_reducible refine gate_dst (N:=1) rfl ?_);refine box_event ?hg (N:=1) ?hd (cs:=#[.int .i64 a0_0,.int .i64 a0_1,.int .i64 a0_2]) (t:=37) ?hr ?_;(case hd=>rfl);(case hg=>rfl);(case hr=>first|(go_simp;done)|(go_simp;rfl));intro gb237 hg w11 hbox hb;have n0_:=mk5_ (bT5_ (by repeat (first|(with_reducible first|exact HB.out|apply bA5_|apply bN5_|apply bD5_)|exact HB.out)) hb);have n1_:=mk5_ (hbox);have n2_:=mk5_ ((by rw [hg];exact (bZ5_ (by repeat (first|(with_reducible first|exact HB.out|apply bA5_|apply bN5_|apply bD5_)|exact HB.out))):w.heap.size≤gb237));have n3_:=mk5_ ((by rw [hg];exact (bZ5_ (by repeat (first|(with_reducible first|exact HB.out|apply bA5_|apply bN5_|apply bD5_)|exact HB.out))):w.heap.size≤gb237));clear HB;have HB:=n0_;have BK237:=n1_;have GW237:=n2_;have GE237:=n3_;clear n0_ n1_ n2_ n3_;clear hb hbox hg;have hcz12_0:w11.cell? ⟨gb237,0,none⟩=some (.int .i64 a0_0):=(blk_cell BK237.out 0).trans rfl;have hcz12_1:w11.cell? ⟨gb237,1,none⟩=some (.int .i64 a0_1):=(blk_cell BK237.out 1).trans rfl;have hcz12_2:w11.cell? ⟨gb237,2,none⟩=some (.int .i64 a0_2):=(blk_cell BK237.out 2).trans rfl;have hfz12_0:=fZ5_ BK237.out 0;have hfz12_1:=fZ5_ BK237.out 1;have hfz12_2:=fZ5_ BK237.out 2)|((with_reducible refine gate_callee (f:=29) rfl ?_);refine goesL_ (some 5) rfl rfl Try.func29 (by kernel_rfl) rfl #[.int .i64 a0_0,.int .i64 2,.int .i64 3] rfl (by (try simp only [mA5_,mC5_,mN5_]);first|done|rfl|(simp only [List.length_drop,List.length_take];rfl)) ?_;(with_reducible refine (impl_within.calls a0_0 2 3 true _ A2.out).mono ?_);rintro e w' ⟨rfl,⟨nd,rfl⟩⟩;refine ⟨_,rfl,?_⟩)|(go_at_call 29;(with_reducible refine (impl_within.calls a0_1 4 12 false _ A4.out).mono ?_);rintro e w' ⟨rfl,⟨nd,rfl⟩⟩))
   go_ret
   exact ⟨by first|rfl|(simp [errW_none,errW_some] <;> rfl)|(simp [*,errW_none,errW_some] <;> rfl),by repeat (first|(with_reducible first|exact HB.out|apply bA5_|apply bN5_|apply bD5_|refine bS5_ ?_ GE237.out)|exact HB.out)⟩
 ·replace c3 := Bool.eq_false_iff.mpr c3
  subst c3
  have H1:(some false)=some r:=by rw [if_neg (show ¬ (false=true) by decide)] at H;exact H
  clear H
  have H := H1
  clear H1
  obtain rfl := Option.some.inj H
  go_enter Try.func51, Try.ntmps51
  go_wp2_with (first|((with_reducible refine gate_dst (N:=1) rfl ?_);refine box_event ?hg (N:=1) ?hd (cs:=#[.int .i64 a0_0,.int .i64 a0_1,.int .i64 a0_2]) (t:=37) ?hr ?_;(case hd=>rfl);(case hg=>rfl);(case hr=>first|(go_simp;done)|(go_simp;rfl));intro gb237 hg w13 hbox hb;have n0_:=mk5_ (bT5_ (by repeat (first|(with_reducible first|exact HB.out|apply bA5_|apply bN5_|apply bD5_)|exact HB.out)) hb);have n1_:=mk5_ (hbox);have n2_:=mk5_ ((by rw [hg];exact (bZ5_ (by repeat (first|(with_reducible first|exact HB.out|apply bA5_|apply bN5_|apply bD5_)|exact HB.out))):w.heap.size≤gb237));have n3_:=mk5_ ((by rw [hg];exact (bZ5_ (by repeat (first|(with_reducible first|exact HB.out|apply bA5_|apply bN5_|apply bD5_)|exact HB.out))):w.heap.size≤gb237));clear HB;have HB:=n0_;have BK237:=n1_;have GW237:=n2_;have GE237:=n3_;clear n0_ n1_ n2_ n3_;clear hb hbox hg;have hcz14_0:w13.cell? ⟨gb237,0,none⟩=some (.int .i64 a0_0):=(blk_cell BK237.out 0).trans rfl;have hcz14_1:w13.cell? ⟨gb237,1,none⟩=some (.int .i64 a0_1):=(blk_cell BK237.out 1).trans rfl;have hcz14_2:w13.cell? ⟨gb237,2,none⟩=some (.int .i64 a0_2):=(blk_cell BK237.out 2).trans rfl;have hfz14_0:=fZ5_ BK237.out 0;have hfz14_1:=fZ5_ BK237.out 1;have hfz14_2:=fZ5_ BK237.out 2)|((with_reducible refine gate_callee (f:=29) rfl ?_);refine goesL_ (some 5) rfl rfl Try.func29 (by kernel_rfl) rfl #[.int .i64 a0_0,.int .i64 2,.int .i64 3] rfl (by (try simp only [mA5_,mC5_,mN5_]);first|done|rfl|(simp only [List.length_drop,List.length_take];rfl)) ?_;(with_reducible refine (impl_within.calls a0_0 2 3 false _ A2.out).mono ?_);rintro e w' ⟨rfl,⟨nd,rfl⟩⟩;refine ⟨_,rfl,?_⟩))
  go_ret
  exact ⟨by first|rfl|(simp [errW_none,errW_some] <;> rfl)|(simp [*,errW_none,errW_some] <;> rfl),by repeat (first|(with_reducible first|exact HB.out|apply bA5_|apply bN5_|apply bD5_|refine bS5_ ?_ GE237.out)|exact HB.out)⟩

-- NOT PRINTED: function 72 (impl_Block_72)

-- NOT PRINTED: function 52 (impl_Block_52)

def impl_PageMap_physical.f (a0_0:Int) (a0_1:Int) (l0_2:List Int) (l0_3:List Bool):Option (Int):=some (wrap64 (a0_0 * a0_1))
set_option maxHeartbeats 8000000 in
set_option maxRecDepth 100000 in
theorem impl_PageMap_physical.calls (a0_0:Int) (a0_1:Int) (A0_2:Option Addr) (c0_2:Nat) (l0_2:List Int) (A0_3:Option Addr) (c0_3:Nat) (l0_3:List Bool) (r:Int) (w:World) (hr0_2:Kd.C (Kd.int .i64) w A0_2 l0_2.length l0_2) (hc0_2:l0_2.length≤c0_2) (hr0_3:Kd.C Kd.bool w A0_3 l0_3.length l0_3) (hc0_3:l0_3.length≤c0_3) (h:impl_PageMap_physical.f a0_0 a0_1 l0_2 l0_3=some r) :
  Calls Try.prog 56 #[.agg #[.int .i64 a0_0,.int .i64 a0_1,.slice A0_2 l0_2.length c0_2,.slice A0_3 l0_3.length c0_3]] w fun e w'=>e=.returned (.int .i64 r)∧Below w.heap.size w w':=by
 have hu41 := Try.underlying41
 have HR0_2 := Aside0.mk hr0_2
 have HC0_2 := Aside0.mk hc0_2
 clear hr0_2 hc0_2
 have HR0_3 := Aside0.mk hr0_3
 have HC0_3 := Aside0.mk hc0_3
 clear hr0_3 hc0_3
 have HB := Aside0.mk (Below.refl w.heap.size w)
 have H : (some (wrap64 (a0_0 * a0_1))) = some r := h
 clear h
 obtain rfl := Option.some.inj H
 go_enter Try.func56, Try.ntmps56
 go_wp2_with (first|((with_reducible refine gate_dst (N:=1) rfl ?_);refine box_event ?hg (N:=1) ?hd (cs:=#[.int .i64 a0_0,.int .i64 a0_1,.slice A0_2 l0_2.length c0_2,.slice A0_3 l0_3.length c0_3]) (t:=41) ?hr ?_;(case hd=>rfl);(case hg=>rfl);(case hr=>first|(go_simp;done)|(go_simp;rfl));intro gb240 hg w2 hbox hb;have n0_:=mk5_ (bT5_ (by repeat (first|(with_reducible first|exact HB.out|apply bA5_|apply bN5_|apply bD5_)|exact HB.out)) hb);have n1_:=mk5_ (hbox);have n2_:=mk5_ ((by rw [hg];exact (bZ5_ (by repeat (first|(with_reducible first|exact HB.out|apply bA5_|apply bN5_|apply bD5_)|exact HB.out))):w.heap.size≤gb240));have n3_:=mk5_ ((by rw [hg];exact (bZ5_ (by repeat (first|(with_reducible first|exact HB.out|apply bA5_|apply bN5_|apply bD5_)|exact HB.out))):w.heap.size≤gb240));clear HB;have HB:=n0_;have BK240:=n1_;have GW240:=n2_;have GE240:=n3_;clear n0_ n1_ n2_ n3_;clear hb hbox hg;have hcz3_0:w2.cell? ⟨gb240,0,none⟩=some (.int .i64 a0_0):=(blk_cell BK240.out 0).trans rfl;have hcz3_1:w2.cell? ⟨gb240,1,none⟩=some (.int .i64 a0_1):=(blk_cell BK240.out 1).trans rfl;have hcz3_2:w2.cell? ⟨gb240,2,none⟩=some (.slice A0_2 l0_2.length c0_2):=(blk_cell BK240.out 2).trans rfl;have hcz3_3:w2.cell? ⟨gb240,3,none⟩=some (.slice A0_3 l0_3.length c0_3):=(blk_cell BK240.out 3).trans rfl;have hfz3_0:=fZ5_ BK240.out 0;have hfz3_1:=fZ5_ BK240.out 1;have hfz3_2:=fZ5_ BK240.out 2;have hfz3_3:=fZ5_ BK240.out 3))
 go_ret
 exact ⟨by first|rfl|(simp [errW_none,errW_some] <;> rfl)|(simp [*,errW_none,errW_some] <;> rfl),by repeat (first|(with_reducible first|exact HB.out|apply bA5_|apply bN5_|apply bD5_|refine bS5_ ?_ GE240.out)|exact HB.out)⟩

def slices_Index_int64_int64.l0:Nat→List Int→Int→Int→Int→Option (Int)
 | 0, _, _, _, _ => none
 | k+1,x0,x1,x7,x8=>if x8 < x7 then (if 0≤x8 then (if x8 < (x0.length:Int) then (if x1=(rd x0 x8) then (some x8) else (slices_Index_int64_int64.l0 k x0 x1 x7 (wrap64 (x8+1)))) else (none)) else (none)) else (some (-1))
def slices_Index_int64_int64.f (k:Nat) (l0:List Int) (a1:Int):Option (Int):=slices_Index_int64_int64.l0 k l0 a1 (l0.length:Int) 0
set_option maxHeartbeats 8000000 in
set_option maxRecDepth 100000 in
theorem slices_Index_int64_int64.calls (k:Nat) (A0:Option Addr) (c0:Nat) (l0:List Int) (a1:Int) (r:Int) (w:World) (hr0:Kd.C (Kd.int .i64) w A0 l0.length l0) (hc0:l0.length≤c0) (h:slices_Index_int64_int64.f k l0 a1=some r) :
  Calls Try.prog 73 #[.slice A0 l0.length c0,.int .i64 a1] w fun e w'=>e=.returned (.int .i64 r)∧Drawn0 w w':=by
 have HR0 := Aside0.mk hr0
 have HC0 := Aside0.mk hc0
 clear hr0 hc0
 have H:(slices_Index_int64_int64.l0 k l0 a1 (l0.length:Int) 0)=some r:=h
 clear h
 have H' := Aside0.mk H
 clear H
 go_enter Try.func73, Try.ntmps73
 go_wp2
 go_loopg [8] k (fun kq v8 w'=>∃ (x8_1:Int),v8=.int .i64 x8_1∧Aside0 (slices_Index_int64_int64.l0 kq l0 a1 (l0.length:Int) x8_1=some r)∧Aside0 (kq≤k)∧Drawn0 w w')
 case atStart=>exact ⟨(0),(by first|rfl|(simp;done)|(simp [*];done)),H',⟨Nat.le_refl _⟩,by repeat (first|exact Drawn0.refl _|apply Drawn0.step)⟩
 case round =>
  clear H'
  try clear p2
  obtain ⟨x8_1, rfl, HA, HK1, ⟨m1, rfl⟩⟩ := hrel
  cases gk with
  | zero=>exact absurd HA.out (by simp [slices_Index_int64_int64.l0])
  | succ k1 =>
   have H := HA.out
   clear HA
   simp only [slices_Index_int64_int64.l0] at H
   by_cases c3 : x8_1 < (l0.length : Int)
   ·rw [if_pos c3] at H
    have c3b0:decide (x8_1 < (l0.length:Int))=true:=decide_eq_true c3
    clear c3
    by_cases c4 : 0 ≤ x8_1
    ·rw [if_pos c4] at H
     have c4b0 : decide (0 ≤ x8_1) = true := decide_eq_true c4
     clear c4
     by_cases c5 : x8_1 < (l0.length : Int)
     ·rw [if_pos c5] at H
      have c5b0:decide (x8_1 < (l0.length:Int))=true:=decide_eq_true c5
      clear c5
      by_cases c6 : a1 = (rd l0 x8_1)
      ·rw [if_pos c6] at H
       have c6b0:(a1 == (rd l0 x8_1))=true:=beq_iff_eq.mpr c6
       have c6b1:(a1 != (rd l0 x8_1))=false:=bne_eq_false_iff_eq.mpr c6
       clear c6
       obtain rfl := Option.some.inj H
       have p241:0≤(x8_1:Int):=of_decide_eq_true (by first|(with_reducible assumption)|assumption)
       have q241:x8_1 < (l0.length:Int):=of_decide_eq_true (by first|(with_reducible assumption)|assumption)
       obtain ⟨ad241,e241,hx241_0⟩:=Kd.at_int HR0.out x8_1 p241 q241
       cases e241
       replace p241 := eq_true p241
       replace q241 := eq_true q241
       go_wp2
       go_ret
       exact ⟨by first|rfl|(simp;done)|(simp [*];done),by repeat (first|exact Drawn0.refl _|apply Drawn0.step)⟩
      ·rw [if_neg c6] at H
       have c6b0:(a1 == (rd l0 x8_1))=false:=beq_eq_false_iff_ne.mpr c6
       have c6b1:(a1 != (rd l0 x8_1))=true:=bne_iff_ne.mpr c6
       have H' := Aside0.mk H
       clear H
       have p241:0≤(x8_1:Int):=of_decide_eq_true (by first|(with_reducible assumption)|assumption)
       have q241:x8_1 < (l0.length:Int):=of_decide_eq_true (by first|(with_reducible assumption)|assumption)
       obtain ⟨ad241,e241,hx241_0⟩:=Kd.at_int HR0.out x8_1 p241 q241
       cases e241
       replace p241 := eq_true p241
       replace q241 := eq_true q241
       go_wp2
       go_roundg k1
       case measure => have := HK1.out; omega
       case rel=>exact ⟨(wrap64 (x8_1+1)),(by first|rfl|(simp;done)|(simp [*];done)),H',⟨by have:=HK1.out;omega⟩,by repeat (first|exact Drawn0.refl _|apply Drawn0.step)⟩
     ·rw [if_neg c5] at H
      exact absurd H (by simp)
    ·rw [if_neg c4] at H
     exact absurd H (by simp)
   ·rw [if_neg c3] at H
    have c3b0:decide (x8_1 < (l0.length:Int))=false:=decide_eq_false c3
    clear c3
    obtain rfl := Option.some.inj H
    go_wp2
    go_ret
    exact ⟨by first|rfl|(simp;done)|(simp [*];done),by repeat (first|exact Drawn0.refl _|apply Drawn0.step)⟩

def slices_Contains_int64_int64.f (k:Nat) (l0:List Int) (a1:Int):Option (Bool):=(slices_Index_int64_int64.f k l0 a1).bind fun t242=>(some (decide (t242 ≥ 0)))
set_option maxHeartbeats 8000000 in
set_option maxRecDepth 100000 in
theorem slices_Contains_int64_int64.calls (k:Nat) (A0:Option Addr) (c0:Nat) (l0:List Int) (a1:Int) (r:Bool) (w:World) (hr0:Kd.C (Kd.int .i64) w A0 l0.length l0) (hc0:l0.length≤c0) (h:slices_Contains_int64_int64.f k l0 a1=some r) :
  Calls Try.prog 57 #[.slice A0 l0.length c0,.int .i64 a1] w fun e w'=>e=.returned (.bool r)∧Drawn0 w w':=by
 have HR0 := Aside0.mk hr0
 have HC0 := Aside0.mk hc0
 clear hr0 hc0
 have H:((slices_Index_int64_int64.f k l0 a1).bind fun t242=>(some (decide (t242 ≥ 0))))=some r:=h
 clear h
 replace H := Option.bind_eq_some_iff.mp H
 obtain ⟨t242, A30, H⟩ := H
 replace H : (some (decide (t242 ≥ 0))) = some r := H
 have A3 := Aside0.mk A30
 clear A30
 obtain rfl := Option.some.inj H
 go_enter Try.func57, Try.ntmps57
 go_wp2_with (first|((with_reducible refine gate_callee (f:=73) rfl ?_);refine goesL_ (some 7) rfl rfl Try.func73 (by kernel_rfl) rfl #[.slice A0 l0.length c0,.int .i64 a1] rfl (by (try simp only [mA5_,mC5_,mN5_]);first|done|rfl|(simp only [List.length_drop,List.length_take];rfl)) ?_;(with_reducible refine (slices_Index_int64_int64.calls k _ _ l0 a1 t242 _ ?side1 ?side2 A3.out).mono ?_);(case side1=>repeat (first|exact HR0.out|(with_reducible refine Kd.C_alloc ?_ _)|(with_reducible refine Kd.C_drewN ?_ _)|(with_reducible refine Kd.C_drew ?_)));(case side2=>exact HC0.out);rintro e w' ⟨rfl,⟨nd,rfl⟩⟩;refine ⟨_,rfl,?_⟩))
 go_ret
 exact ⟨by first|rfl|(simp;done)|(simp [*];done),by repeat (first|exact Drawn0.refl _|apply Drawn0.step)⟩

-- NOT PRINTED: function 74 (slices_IndexFunc_int64_int64)

-- NOT PRINTED: function 58 (slices_ContainsFunc_int64_int64)

-- impl_allWithin: function 31: its contract stands in Derived.Test.YtajocpalpnpmdaaXAllW

def impl_ValidHeat.f (l0_0:List Int) (a0_1:Int):Option (Bool):=(impl_within.f (l0_0.length:Int) 1 48).bind fun t244=>(if t244=true then ((impl_allWithin.f l0_0 0 1000000).bind fun t245=>(if t245=true then ((impl_within.f a0_1 0 15).bind fun t246=>(some t246)) else (some false))) else (some false))
set_option maxHeartbeats 8000000 in
set_option maxRecDepth 100000 in
theorem impl_ValidHeat.calls (A0_0:Option Addr) (c0_0:Nat) (l0_0:List Int) (a0_1:Int) (r:Bool) (w:World) (hr0_0:Kd.C (Kd.int .i64) w A0_0 l0_0.length l0_0) (hc0_0:l0_0.length≤c0_0) (h:impl_ValidHeat.f l0_0 a0_1=some r) :
  Calls Try.prog 28 #[.agg #[.slice A0_0 l0_0.length c0_0,.int .i64 a0_1]] w fun e w'=>e=.returned (.bool r)∧Below w.heap.size w w':=by
 have hu42 := Try.underlying42
 have HR0_0 := Aside0.mk hr0_0
 have HC0_0 := Aside0.mk hc0_0
 clear hr0_0 hc0_0
 have HB := Aside0.mk (Below.refl w.heap.size w)
 have H:((impl_within.f (l0_0.length:Int) 1 48).bind fun t244=>(if t244=true then ((impl_allWithin.f l0_0 0 1000000).bind fun t245=>(if t245=true then ((impl_within.f a0_1 0 15).bind fun t246=>(some t246)) else (some false))) else (some false)))=some r:=h
 clear h
 replace H := Option.bind_eq_some_iff.mp H
 obtain ⟨t244, A20, H⟩ := H
 replace H:(if t244=true then ((impl_allWithin.f l0_0 0 1000000).bind fun t245=>(if t245=true then ((impl_within.f a0_1 0 15).bind fun t246=>(some t246)) else (some false))) else (some false))=some r:=H
 have A2 := Aside0.mk A20
 clear A20
 by_cases c3 : t244 = true
 ·subst c3
  have H1:((impl_allWithin.f l0_0 0 1000000).bind fun t245=>(if t245=true then ((impl_within.f a0_1 0 15).bind fun t246=>(some t246)) else (some false)))=some r:=by rw [if_pos rfl] at H;exact H
  clear H
  have H := H1
  clear H1
  replace H := Option.bind_eq_some_iff.mp H
  obtain ⟨t245, A40, H⟩ := H
  replace H:(if t245=true then ((impl_within.f a0_1 0 15).bind fun t246=>(some t246)) else (some false))=some r:=H
  have A4 := Aside0.mk A40
  clear A40
  by_cases c5 : t245 = true
  ·subst c5
   have H1:((impl_within.f a0_1 0 15).bind fun t246=>(some t246))=some r:=by rw [if_pos rfl] at H;exact H
   clear H
   have H := H1
   clear H1
   replace H := Option.bind_eq_some_iff.mp H
   obtain ⟨t246, A60, H⟩ := H
   replace H : (some t246) = some r := H
   have A6 := Aside0.mk A60
   clear A60
   obtain rfl := Option.some.inj H
   go_enter Try.func28, Try.ntmps28
   go_wp2_with (first|((with_reducible refine gate_dst (N:=1) rfl ?_);refine box_event ?hg (N:=1) ?hd (cs:=#[.slice A0_0 l0_0.length c0_0,.int .i64 a0_1]) (t:=42) ?hr ?_;(case hd=>rfl);(case hg=>rfl);(case hr=>first|(go_simp;done)|(go_simp;rfl));intro gb243 hg w7 hbox hb;have n0_:=mk5_ (bT5_ (by repeat (first|(with_reducible first|exact HB.out|apply bA5_|apply bN5_|apply bD5_)|exact HB.out)) hb);have n1_:=mk5_ (hbox);have n2_:=mk5_ ((by rw [hg];exact (bZ5_ (by repeat (first|(with_reducible first|exact HB.out|apply bA5_|apply bN5_|apply bD5_)|exact HB.out))):w.heap.size≤gb243));have n3_:=mk5_ ((by rw [hg];exact (bZ5_ (by repeat (first|(with_reducible first|exact HB.out|apply bA5_|apply bN5_|apply bD5_)|exact HB.out))):w.heap.size≤gb243));clear HB;have HB:=n0_;have BK243:=n1_;have GW243:=n2_;have GE243:=n3_;clear n0_ n1_ n2_ n3_;clear hb hbox hg;have hcz8_0:w7.cell? ⟨gb243,0,none⟩=some (.slice A0_0 l0_0.length c0_0):=(blk_cell BK243.out 0).trans rfl;have hcz8_1:w7.cell? ⟨gb243,1,none⟩=some (.int .i64 a0_1):=(blk_cell BK243.out 1).trans rfl;have hfz8_0:=fZ5_ BK243.out 0;have hfz8_1:=fZ5_ BK243.out 1)|((with_reducible refine gate_callee (f:=29) rfl ?_);refine goesL_ (some 6) rfl rfl Try.func29 (by kernel_rfl) rfl #[.int .i64 (l0_0.length:Int),.int .i64 1,.int .i64 48] rfl (by (try simp only [mA5_,mC5_,mN5_]);first|done|rfl|(simp only [List.length_drop,List.length_take];rfl)) ?_;(with_reducible refine (impl_within.calls (l0_0.length:Int) 1 48 true _ A2.out).mono ?_);rintro e w' ⟨rfl,⟨nd,rfl⟩⟩;refine ⟨_,rfl,?_⟩)|(go_at_call 31;(with_reducible refine (impl_allWithin.calls _ _ l0_0 0 1000000 true _ ?side1 ?side2 A4.out).mono ?_);(case side1=>repeat (first|exact (Kd.C_below HR0_0.out (by repeat (first|(with_reducible first|exact HB.out|apply bA5_|apply bN5_|apply bD5_|refine bS5_ ?_ GE243.out)|exact HB.out)))|(with_reducible refine Kd.C_alloc ?_ _)|(with_reducible refine Kd.C_drewN ?_ _)|(with_reducible refine Kd.C_drew ?_)));(case side2=>exact HC0_0.out);rintro e w9 ⟨rfl,hb⟩;have n0_:=mk5_ (blk_below (g:=gb243) (o:=.cells #[.slice A0_0 l0_0.length c0_0,.int .i64 a0_1] 42 (0,0)) (by (with_reducible repeat (first|refine kN5_ ?_ _|refine kD5_ ?_|refine kA5_ ?_ _));exact BK243.out) hb);have n1_:=mk5_ (bT5_ (by repeat (first|(with_reducible first|exact HB.out|apply bA5_|apply bN5_|apply bD5_|refine bS5_ ?_ GE243.out)|exact HB.out)) hb);clear BK243;clear HB;have BK243:=n0_;have HB:=n1_;clear n0_ n1_;(try clear hb);(try clear hb2);(try clear hk);(try clear hi);have hcz10_0:w9.cell? ⟨gb243,0,none⟩=some (.slice A0_0 l0_0.length c0_0):=(blk_cell BK243.out 0).trans rfl;have hcz10_1:w9.cell? ⟨gb243,1,none⟩=some (.int .i64 a0_1):=(blk_cell BK243.out 1).trans rfl;have hfz10_0:=fZ5_ BK243.out 0;have hfz10_1:=fZ5_ BK243.out 1)|(go_at_call 29;(with_reducible refine (impl_within.calls a0_1 0 15 t246 _ A6.out).mono ?_);rintro e w' ⟨rfl,⟨nd,rfl⟩⟩))
   go_ret
   exact ⟨by first|rfl|(simp [errW_none,errW_some] <;> rfl)|(simp [*,errW_none,errW_some] <;> rfl),by repeat (first|(with_reducible first|exact HB.out|apply bA5_|apply bN5_|apply bD5_|refine bS5_ ?_ GE243.out)|exact HB.out)⟩
  ·replace c5 := Bool.eq_false_iff.mpr c5
   subst c5
   have H1:(some false)=some r:=by rw [if_neg (show ¬ (false=true) by decide)] at H;exact H
   clear H
   have H := H1
   clear H1
   obtain rfl := Option.some.inj H
   go_enter Try.func28, Try.ntmps28
   go_wp2_with (first|((with_reducible refine gate_dst (N:=1) rfl ?_);refine box_event ?hg (N:=1) ?hd (cs:=#[.slice A0_0 l0_0.length c0_0,.int .i64 a0_1]) (t:=42) ?hr ?_;(case hd=>rfl);(case hg=>rfl);(case hr=>first|(go_simp;done)|(go_simp;rfl));intro gb243 hg w11 hbox hb;have n0_:=mk5_ (bT5_ (by repeat (first|(with_reducible first|exact HB.out|apply bA5_|apply bN5_|apply bD5_)|exact HB.out)) hb);have n1_:=mk5_ (hbox);have n2_:=mk5_ ((by rw [hg];exact (bZ5_ (by repeat (first|(with_reducible first|exact HB.out|apply bA5_|apply bN5_|apply bD5_)|exact HB.out))):w.heap.size≤gb243));have n3_:=mk5_ ((by rw [hg];exact (bZ5_ (by repeat (first|(with_reducible first|exact HB.out|apply bA5_|apply bN5_|apply bD5_)|exact HB.out))):w.heap.size≤gb243));clear HB;have HB:=n0_;have BK243:=n1_;have GW243:=n2_;have GE243:=n3_;clear n0_ n1_ n2_ n3_;clear hb hbox hg;have hcz12_0:w11.cell? ⟨gb243,0,none⟩=some (.slice A0_0 l0_0.length c0_0):=(blk_cell BK243.out 0).trans rfl;have hcz12_1:w11.cell? ⟨gb243,1,none⟩=some (.int .i64 a0_1):=(blk_cell BK243.out 1).trans rfl;have hfz12_0:=fZ5_ BK243.out 0;have hfz12_1:=fZ5_ BK243.out 1)|((with_reducible refine gate_callee (f:=29) rfl ?_);refine goesL_ (some 6) rfl rfl Try.func29 (by kernel_rfl) rfl #[.int .i64 (l0_0.length:Int),.int .i64 1,.int .i64 48] rfl (by (try simp only [mA5_,mC5_,mN5_]);first|done|rfl|(simp only [List.length_drop,List.length_take];rfl)) ?_;(with_reducible refine (impl_within.calls (l0_0.length:Int) 1 48 true _ A2.out).mono ?_);rintro e w' ⟨rfl,⟨nd,rfl⟩⟩;refine ⟨_,rfl,?_⟩)|(go_at_call 31;(with_reducible refine (impl_allWithin.calls _ _ l0_0 0 1000000 false _ ?side1 ?side2 A4.out).mono ?_);(case side1=>repeat (first|exact (Kd.C_below HR0_0.out (by repeat (first|(with_reducible first|exact HB.out|apply bA5_|apply bN5_|apply bD5_|refine bS5_ ?_ GE243.out)|exact HB.out)))|(with_reducible refine Kd.C_alloc ?_ _)|(with_reducible refine Kd.C_drewN ?_ _)|(with_reducible refine Kd.C_drew ?_)));(case side2=>exact HC0_0.out);rintro e w13 ⟨rfl,hb⟩;have n0_:=mk5_ (blk_below (g:=gb243) (o:=.cells #[.slice A0_0 l0_0.length c0_0,.int .i64 a0_1] 42 (0,0)) (by (with_reducible repeat (first|refine kN5_ ?_ _|refine kD5_ ?_|refine kA5_ ?_ _));exact BK243.out) hb);have n1_:=mk5_ (bT5_ (by repeat (first|(with_reducible first|exact HB.out|apply bA5_|apply bN5_|apply bD5_|refine bS5_ ?_ GE243.out)|exact HB.out)) hb);clear BK243;clear HB;have BK243:=n0_;have HB:=n1_;clear n0_ n1_;(try clear hb);(try clear hb2);(try clear hk);(try clear hi)))
   go_ret
   exact ⟨by first|rfl|(simp [errW_none,errW_some] <;> rfl)|(simp [*,errW_none,errW_some] <;> rfl),by repeat (first|(with_reducible first|exact HB.out|apply bA5_|apply bN5_|apply bD5_|refine bS5_ ?_ GE243.out)|exact HB.out)⟩
 ·replace c3 := Bool.eq_false_iff.mpr c3
  subst c3
  have H1:(some false)=some r:=by rw [if_neg (show ¬ (false=true) by decide)] at H;exact H
  clear H
  have H := H1
  clear H1
  obtain rfl := Option.some.inj H
  go_enter Try.func28, Try.ntmps28
  go_wp2_with (first|((with_reducible refine gate_dst (N:=1) rfl ?_);refine box_event ?hg (N:=1) ?hd (cs:=#[.slice A0_0 l0_0.length c0_0,.int .i64 a0_1]) (t:=42) ?hr ?_;(case hd=>rfl);(case hg=>rfl);(case hr=>first|(go_simp;done)|(go_simp;rfl));intro gb243 hg w14 hbox hb;have n0_:=mk5_ (bT5_ (by repeat (first|(with_reducible first|exact HB.out|apply bA5_|apply bN5_|apply bD5_)|exact HB.out)) hb);have n1_:=mk5_ (hbox);have n2_:=mk5_ ((by rw [hg];exact (bZ5_ (by repeat (first|(with_reducible first|exact HB.out|apply bA5_|apply bN5_|apply bD5_)|exact HB.out))):w.heap.size≤gb243));have n3_:=mk5_ ((by rw [hg];exact (bZ5_ (by repeat (first|(with_reducible first|exact HB.out|apply bA5_|apply bN5_|apply bD5_)|exact HB.out))):w.heap.size≤gb243));clear HB;have HB:=n0_;have BK243:=n1_;have GW243:=n2_;have GE243:=n3_;clear n0_ n1_ n2_ n3_;clear hb hbox hg;have hcz15_0:w14.cell? ⟨gb243,0,none⟩=some (.slice A0_0 l0_0.length c0_0):=(blk_cell BK243.out 0).trans rfl;have hcz15_1:w14.cell? ⟨gb243,1,none⟩=some (.int .i64 a0_1):=(blk_cell BK243.out 1).trans rfl;have hfz15_0:=fZ5_ BK243.out 0;have hfz15_1:=fZ5_ BK243.out 1)|((with_reducible refine gate_callee (f:=29) rfl ?_);refine goesL_ (some 6) rfl rfl Try.func29 (by kernel_rfl) rfl #[.int .i64 (l0_0.length:Int),.int .i64 1,.int .i64 48] rfl (by (try simp only [mA5_,mC5_,mN5_]);first|done|rfl|(simp only [List.length_drop,List.length_take];rfl)) ?_;(with_reducible refine (impl_within.calls (l0_0.length:Int) 1 48 false _ A2.out).mono ?_);rintro e w' ⟨rfl,⟨nd,rfl⟩⟩;refine ⟨_,rfl,?_⟩))
  go_ret
  exact ⟨by first|rfl|(simp [errW_none,errW_some] <;> rfl)|(simp [*,errW_none,errW_some] <;> rfl),by repeat (first|(with_reducible first|exact HB.out|apply bA5_|apply bN5_|apply bD5_|refine bS5_ ?_ GE243.out)|exact HB.out)⟩

def impl_policyOk.f (a0:Int) (a1:Int):Option (Bool):=(impl_within.f a0 1 100).bind fun t247=>(if t247=true then ((impl_within.f a1 1 2).bind fun t248=>(some t248)) else (some false))
set_option maxHeartbeats 8000000 in
set_option maxRecDepth 100000 in
theorem impl_policyOk.calls (a0:Int) (a1:Int) (r:Bool) (w:World) (h:impl_policyOk.f a0 a1=some r) :
  Calls Try.prog 32 #[.int .i64 a0,.int .i64 a1] w fun e w'=>e=.returned (.bool r)∧Drawn0 w w':=by
 have H:((impl_within.f a0 1 100).bind fun t247=>(if t247=true then ((impl_within.f a1 1 2).bind fun t248=>(some t248)) else (some false)))=some r:=h
 clear h
 replace H := Option.bind_eq_some_iff.mp H
 obtain ⟨t247, A30, H⟩ := H
 replace H:(if t247=true then ((impl_within.f a1 1 2).bind fun t248=>(some t248)) else (some false))=some r:=H
 have A3 := Aside0.mk A30
 clear A30
 by_cases c4 : t247 = true
 ·subst c4
  have H1:((impl_within.f a1 1 2).bind fun t248=>(some t248))=some r:=by rw [if_pos rfl] at H;exact H
  clear H
  have H := H1
  clear H1
  replace H := Option.bind_eq_some_iff.mp H
  obtain ⟨t248, A50, H⟩ := H
  replace H : (some t248) = some r := H
  have A5 := Aside0.mk A50
  clear A50
  obtain rfl := Option.some.inj H
  go_enter Try.func32, Try.ntmps32
  go_wp2_with (first|((with_reducible refine gate_callee (f:=29) rfl ?_);refine goesL_ (some 6) rfl rfl Try.func29 (by kernel_rfl) rfl #[.int .i64 a0,.int .i64 1,.int .i64 100] rfl (by (try simp only [mA5_,mC5_,mN5_]);first|done|rfl|(simp only [List.length_drop,List.length_take];rfl)) ?_;(with_reducible refine (impl_within.calls a0 1 100 true _ A3.out).mono ?_);rintro e w' ⟨rfl,⟨nd,rfl⟩⟩;refine ⟨_,rfl,?_⟩)|(go_at_call 29;(with_reducible refine (impl_within.calls a1 1 2 t248 _ A5.out).mono ?_);rintro e w' ⟨rfl,⟨nd,rfl⟩⟩))
  go_ret
  exact ⟨by first|rfl|(simp;done)|(simp [*];done),by repeat (first|exact Drawn0.refl _|apply Drawn0.step)⟩
 ·replace c4 := Bool.eq_false_iff.mpr c4
  subst c4
  have H1:(some false)=some r:=by rw [if_neg (show ¬ (false=true) by decide)] at H;exact H
  clear H
  have H := H1
  clear H1
  obtain rfl := Option.some.inj H
  go_enter Try.func32, Try.ntmps32
  go_wp2_with (first|((with_reducible refine gate_callee (f:=29) rfl ?_);refine goesL_ (some 6) rfl rfl Try.func29 (by kernel_rfl) rfl #[.int .i64 a0,.int .i64 1,.int .i64 100] rfl (by (try simp only [mA5_,mC5_,mN5_]);first|done|rfl|(simp only [List.length_drop,List.length_take];rfl)) ?_;(with_reducible refine (impl_within.calls a0 1 100 false _ A3.out).mono ?_);rintro e w' ⟨rfl,⟨nd,rfl⟩⟩;refine ⟨_,rfl,?_⟩))
  go_ret
  exact ⟨by first|rfl|(simp;done)|(simp [*];done),by repeat (first|exact Drawn0.refl _|apply Drawn0.step)⟩

end Go.Proofs.Ytajocpalpnpmdaa.Q
