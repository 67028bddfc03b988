/- The program's functions as Lean functions,and for each the proof that the machine's call comes to what its function says. Conditions: those that stand before each theorem. -/
import Derived.Test.YtaecdlhomihejaaQ0
import Derived.Test.YtaecdlhomihejaaQ2
namespace Go.Proofs.Ytaecdlhomihejaa.Q
open Go.RowKit Go.Proofs.YtaecdlhomihejaaW.PrintWords Go.Proofs.YtaecdlhomihejaaW.PrintLast Go.Proofs.YtaecdlhomihejaaW.PrintMore
abbrev kN3_ := @blk_drewN
abbrev kD3_ := @blk_drew
abbrev kA3_ := @blk_alloc
abbrev rA3_ := @Kd.R_alloc
abbrev rD3_ := @Kd.R_drew
abbrev bA3_ := @below_alloc
abbrev bN3_ := @pw_below_drewN
abbrev bD3_ := @below_drew1
abbrev bS3_ := @below_set
abbrev mk3_ := @Aside0.mk
abbrev fZ3_ := @blk_frozen
abbrev sA3_ := @Kd.S_alloc
abbrev sB3_ := @Kd.S_below
abbrev bT3_ := @below_step
abbrev bZ3_ := @below_size
attribute [local go_sem] min2_int min_two
set_option linter.unusedVariables false
set_option linter.unusedSimpArgs false

def laws_markText.l0 : Nat → Int → ByteArray → Option (ByteArray)
  | 0, _, _ => none
  | k+1,x0,x3=>if x0 > 0 then ((some (([(wrap64 (48+(Int.tmod x0 10))) % 256]:List Int):List Int)).bind fun y134=>(if (strOfNums y134).size+x3.size≤9223372036854775807 then (laws_markText.l0 k (wrap64 (Int.tdiv x0 10)) ((strOfNums y134) ++ x3)) else (none))) else (if 1+x3.size≤9223372036854775807 then (some ((⟨#[109]⟩:ByteArray) ++ x3)) else (none))
def laws_markText.f (k:Nat) (a0:Int):Option (ByteArray):=if a0≤0 then (some (⟨#[109,48]⟩:ByteArray)) else (laws_markText.l0 k a0 (⟨#[]⟩:ByteArray))
set_option maxHeartbeats 8000000 in
set_option maxRecDepth 100000 in
theorem laws_markText.calls (k:Nat) (a0:Int) (r:ByteArray) (w:World) (h:laws_markText.f k a0=some r) :
    Calls Try.prog 189 #[.int .i64 a0] w fun e w'=>e=.returned (.string r)∧Below w.heap.size w w':=by
  have HB := Aside0.mk (Below.refl w.heap.size w)
  have H:(if a0≤0 then (some (⟨#[109,48]⟩:ByteArray)) else (laws_markText.l0 k a0 (⟨#[]⟩:ByteArray)))=some r:=h
  clear h
  by_cases c2 : a0 ≤ 0
  · rw [if_pos c2] at H
    have c2b0 : decide (a0 ≤ 0) = true := decide_eq_true c2
    clear c2
    obtain rfl := Option.some.inj H
    go_enter Try.func189, Try.ntmps189
    go_wp2
    go_ret
    exact ⟨by first|rfl|(simp [errW_none,errW_some] <;> rfl)|(simp [*,errW_none,errW_some] <;> rfl),by repeat (first|(with_reducible first|exact HB.out|apply bA3_|apply bN3_|apply bD3_)|exact HB.out)⟩
  · rw [if_neg c2] at H
    have c2b0 : decide (a0 ≤ 0) = false := decide_eq_false c2
    clear c2
    have H' := Aside0.mk H
    clear H
    go_enter Try.func189, Try.ntmps189
    go_wp2
    go_loopg [0,3] k (fun kq v0 v3 w'=>∃ (x0_1:Int) (x3_1:ByteArray),v0=.int .i64 x0_1∧v3=.string x3_1∧Aside0 (laws_markText.l0 kq x0_1 x3_1=some r)∧Aside0 (kq≤k)∧Aside0 (Below w.heap.size w w'))
    case atStart=>exact ⟨(a0),((⟨#[]⟩:ByteArray)),(by first|rfl|(simp;done)|(simp [*];done)),(by first|rfl|(simp;done)|(simp [*];done)),H',⟨Nat.le_refl _⟩,⟨by repeat (first|(with_reducible first|exact HB.out|apply bA3_|apply bN3_|apply bD3_)|exact HB.out)⟩⟩
    case round =>
      clear H'
      try clear c1
      try clear c2
      try clear c2b0
      try clear p2
      obtain ⟨x0_1, x3_1, rfl, rfl, HA, HK1, HB⟩ := hrel
      cases gk with
      | zero => exact absurd HA.out (by simp [laws_markText.l0])
      | succ k1 =>
        have H := HA.out
        clear HA
        simp only [laws_markText.l0] at H
        by_cases c3 : x0_1 > 0
        · rw [if_pos c3] at H
          have c3b0 : decide (0 < x0_1) = true := decide_eq_true c3
          clear c3
          obtain ⟨y134,hy134⟩:∃ y_:List Int,y_=(([(wrap64 (48+(Int.tmod x0_1 10))) % 256]:List Int)):=⟨_,rfl⟩
          replace H:(if (strOfNums y134).size+x3_1.size≤9223372036854775807 then (laws_markText.l0 k1 (wrap64 (Int.tdiv x0_1 10)) ((strOfNums y134) ++ x3_1)) else (none))=some r:=by first|(rw [hy134];with_reducible exact H)|(have H2_:=(Option.bind_some _ _).symm.trans H;rw [hy134];with_reducible exact H2_)|(have H2_:=(Option.bind_some _ _).symm.trans H;with_reducible exact H2_)|with_reducible exact H|(rw [hy134];exact H)|exact H
          have Ny134 := Aside0.mk hy134
          clear hy134
          by_cases c4 : (strOfNums y134).size + x3_1.size ≤ 9223372036854775807
          · rw [if_pos c4] at H
            have c4b0 := eq_true c4
            have c4b1:decide ((strOfNums y134).size+x3_1.size≤9223372036854775807)=true:=decide_eq_true c4
            try have c4b2:(9223372036854775807 < (strOfNums y134).size+x3_1.size)=False:=eq_false (Nat.not_lt.2 c4)
            have H' := Aside0.mk H
            clear H
            go_wp2_with (first|((with_reducible refine gate_dst (N:=12) rfl ?_);refine Kd.R_lit (Kd.int .u8) _ 5 ?hg (N:=12) ?hd (xs:=([(wrap64 (48+(Int.tmod x0_1 10))) % 256]:List Int)) (inner:=[.int .u8 ((wrap64 (48+(Int.tmod x0_1 10))) % 256)]) (ok:=fun _=>True) (okp:=fun _=>True) ?hr ?hp (fun _ hk=>hk) trivial (Below.refl _ _) (Nat.le_refl _) (by simp) ?_;(case hd=>rfl);(case hg=>rfl);(case hr=>first|(go_simp;done)|(go_simp;rfl));(case hp=>exact (Reps.one (show Kd.M (Kd.int .u8) _ _ _ ((wrap64 (48+(Int.tmod x0_1 10))) % 256) [.int .u8 ((wrap64 (48+(Int.tmod x0_1 10))) % 256)] from rfl) (Reps.none _ _)));intro v135 w5 ho6 hb hg_ hnew_;clear hg_ hnew_;(first|rw [← Ny134.out] at ho6|(simp only [Int.reduceToNat] at ho6;rw [← Ny134.out] at ho6));have n0_:=mk3_ (Kd.R_lower ho6 (bZ3_ (by repeat (first|(with_reducible first|exact HB.out|apply bA3_|apply bN3_|apply bD3_)|exact HB.out))));have n1_:=mk3_ (bT3_ (by repeat (first|(with_reducible first|exact HB.out|apply bA3_|apply bN3_|apply bD3_)|exact HB.out)) hb);clear HB;have HO136:=n0_;have HB:=n1_;clear n0_ n1_;clear hb ho6;have hcv7:=own_string (P:=Try.prog) Try.underlying197 Try.underlying5 Try.underlying9 (Kd.own_of_R HO136.out)))
            go_roundg k1
            case measure => have := HK1.out; omega
            case rel=>exact ⟨(wrap64 (Int.tdiv x0_1 10)),((strOfNums y134) ++ x3_1),(by first|rfl|(simp;done)|(simp [*];done)),(by first|rfl|(simp;done)|(simp [*];done)),H',⟨by have:=HK1.out;omega⟩,⟨by repeat (first|(with_reducible first|exact HB.out|apply bA3_|apply bN3_|apply bD3_)|exact HB.out)⟩⟩
          · rw [if_neg c4] at H
            exact absurd H (by simp)
        · rw [if_neg c3] at H
          have c3b0 : decide (0 < x0_1) = false := decide_eq_false c3
          clear c3
          by_cases c8 : 1 + x3_1.size ≤ 9223372036854775807
          · rw [if_pos c8] at H
            have c8b0 := eq_true c8
            have c8b1 : decide (1 + x3_1.size ≤ 9223372036854775807) = true := decide_eq_true c8
            try have c8b2:(9223372036854775807 < 1+x3_1.size)=False:=eq_false (Nat.not_lt.2 c8)
            obtain rfl := Option.some.inj H
            go_wp2
            go_ret
            exact ⟨by first|rfl|(simp [errW_none,errW_some] <;> rfl)|(simp [*,errW_none,errW_some] <;> rfl),by repeat (first|(with_reducible first|exact HB.out|apply bA3_|apply bN3_|apply bD3_)|exact HB.out)⟩
          · rw [if_neg c8] at H
            exact absurd H (by simp)

def laws_markStringS.l0 : Nat → List ByteArray → Int → Int → Option (Int × List ByteArray)
  | 0, _, _, _ => none
  | k+1,x0,x1,x5=>if x5 < (x0.length:Int) then ((laws_markText.f k x1).bind fun t137=>(if 0≤x5 then (laws_markStringS.l0 k (x0.set (x5:Int).toNat t137) (wrap64 (x1+1)) (wrap64 (x5+1))) else (none))) else (some (x1,x0))
def laws_markStringS.f (k:Nat) (l0:List ByteArray) (a1:Int):Option (Int × List ByteArray):=laws_markStringS.l0 k l0 a1 0
set_option maxHeartbeats 8000000 in
set_option maxRecDepth 100000 in
theorem laws_markStringS.calls (k:Nat) (P0_:Nat→Prop) (u9000_:Value) (l0:List ByteArray) (a1:Int) (r1:Int) (r2:List ByteArray) (w0 w:World) (hB:Below w0.heap.size w0 w) (ho0:Kd.R Kd.string 9 w w0.heap.size P0_ u9000_ l0) (h:laws_markStringS.f k l0 a1=some (r1,r2)) :
    Calls Try.prog 162 #[u9000_,.int .i64 a1] w fun e w'=>e=.returned (.int .i64 r1)∧Kd.R Kd.string 9 w' w0.heap.size (fun k_=>(P0_ k_∨w.heap.size≤k_)) u9000_ r2∧Below w0.heap.size w0 w'∧Kept w w' (fun k_=>P0_ k_):=by
  have HO0:=mk3_ (show Kd.R Kd.string 9 w w0.heap.size (fun k_=>(P0_ k_∨w.heap.size≤k_)) u9000_ l0 from Kd.R_mono ho0 (fun k_ hk=>(.inl hk)))
  have HK := Aside0.mk (Kept.refl w (fun k_ => P0_ k_))
  have HW0 := Aside0.mk hB.size
  have HB := Aside0.mk hB
  clear hB
  have H : (laws_markStringS.l0 k l0 a1 0) = some (r1, r2) := h
  clear h
  have H' := Aside0.mk H
  clear H
  go_enter Try.func162, Try.ntmps162
  go_wp2
  go_loopg [1,5] k (fun kq v1 v5 w'=>∃ (x0_1:List ByteArray) (x1_1:Int) (x5_1:Int),v1=.int .i64 x1_1∧v5=.int .i64 x5_1∧Aside0 (laws_markStringS.l0 kq x0_1 x1_1 x5_1=some (r1,r2))∧Aside0 (kq≤k)∧Aside0 (Kd.R Kd.string 9 w' w0.heap.size (fun k_=>(P0_ k_∨w.heap.size≤k_)) u9000_ x0_1)∧Aside0 (Kept w w' (fun k_=>P0_ k_))∧Aside0 (Below w0.heap.size w0 w'))
  case atStart=>exact ⟨(l0),(a1),(0),(by first|rfl|(simp;done)|(simp [*];done)),(by first|rfl|(simp;done)|(simp [*];done)),H',⟨Nat.le_refl _⟩,⟨by (with_reducible repeat (first|apply rA3_|apply Kd.R_drewN|apply rD3_));exact HO0.out⟩,⟨by repeat (first|(with_reducible first|exact HK.out|apply Kept.alloc|apply Kept.drewN|apply Kept.drew)|exact HK.out)⟩,⟨by repeat (first|(with_reducible first|exact HB.out|apply bA3_|apply bN3_|apply bD3_)|exact HB.out)⟩⟩
  case round =>
    clear H'
    try clear c1
    try clear p2
    obtain ⟨x0_1, x1_1, x5_1, rfl, rfl, HA, HK1, HO_0, HK, HB⟩ := hrel
    cases gk with
    | zero => exact absurd HA.out (by simp [laws_markStringS.l0])
    | succ k1 =>
      have H := HA.out
      clear HA
      simp only [laws_markStringS.l0] at H
      by_cases c3 : x5_1 < (x0_1.length : Int)
      · rw [if_pos c3] at H
        have c3b0 : decide (x5_1 < (x0_1.length : Int)) = true := decide_eq_true c3
        clear c3
        replace H := Option.bind_eq_some_iff.mp H
        obtain ⟨t137, A40, H⟩ := H
        replace H:(if 0≤x5_1 then (laws_markStringS.l0 k1 (x0_1.set (x5_1:Int).toNat t137) (wrap64 (x1_1+1)) (wrap64 (x5_1+1))) else (none))=some (r1,r2):=H
        have A4 := Aside0.mk A40
        clear A40
        by_cases c5 : 0 ≤ x5_1
        · rw [if_pos c5] at H
          have c5b0 : decide (0 ≤ x5_1) = true := decide_eq_true c5
          clear c5
          obtain ⟨y138,hy138⟩:∃ y_:List ByteArray,y_=(x0_1.set (x5_1:Int).toNat t137):=⟨_,rfl⟩
          replace H:(laws_markStringS.l0 k1 y138 (wrap64 (x1_1+1)) (wrap64 (x5_1+1)))=some (r1,r2):=by first|(rw [hy138];with_reducible exact H)|(have H2_:=(Option.bind_some _ _).symm.trans H;rw [hy138];with_reducible exact H2_)|(have H2_:=(Option.bind_some _ _).symm.trans H;with_reducible exact H2_)|with_reducible exact H|(rw [hy138];exact H)|exact H
          have Ny138 := Aside0.mk hy138
          clear hy138
          have H' := Aside0.mk H
          clear H
          obtain ⟨Ao7, co7, eo7⟩ := Kd.R_slice HO_0.out
          subst eo7
          go_wp2_with (first|((with_reducible refine gate_callee (f:=189) rfl ?_);refine goesL_ (some 15) rfl rfl Try.func189 (by kernel_rfl) rfl #[.int .i64 x1_1] rfl (by (try simp only [List.map_toArray,List.map_cons,List.map_nil]);first|done|rfl|(simp only [List.length_drop,List.length_take];rfl)) ?_;(with_reducible refine (laws_markText.calls k1 x1_1 t137 _ A4.out).mono ?_);rintro e w8 ⟨rfl,hb⟩;refine ⟨_,rfl,?_⟩;have n0_:=mk3_ (Kd.R_below (by (with_reducible repeat (first|apply rA3_|apply Kd.R_drewN|apply rD3_));exact HO_0.out) hb);have n1_:=mk3_ (Kept.below (S:=(fun k_=>P0_ k_)) (by repeat (first|(with_reducible first|exact HK.out|apply Kept.alloc|apply Kept.drewN|apply Kept.drew)|exact HK.out)) hb);have n2_:=mk3_ (bT3_ (by repeat (first|(with_reducible first|exact HB.out|apply bA3_|apply bN3_|apply bD3_)|exact HB.out)) hb);clear HO_0;clear HK;clear HB;have HO_0:=n0_;have HK:=n1_;have HB:=n2_;clear n0_ n1_ n2_;(try clear hb);(try clear hb2);(try clear hk);(try clear hi);have p6:0≤(x5_1:Int):=of_decide_eq_true (by first|(with_reducible assumption)|assumption);have q6:(x5_1:Int) < ((x0_1.length:Int):Int):=of_decide_eq_true (by first|(with_reducible assumption)|assumption);obtain ⟨go6,co6,eo6,gb6,gl6,cl6,HG6⟩:=Kd.R_form HO_0.out (by omega);(first|cases eo6|(injection eo6 with ea_ en_ ec_;(first|subst ea_|(injection ea_ with ea_;subst ea_));subst ec_;clear en_));have GB6:=mk3_ gb6;have GG6:=mk3_ HG6;clear gb6 gl6 HG6;have HMgo6:=mk3_ (show (P0_ go6∨w.heap.size≤go6) from (HO_0.out.1 _ rfl));obtain ⟨hx6_0,hf6_0⟩:=Kd.R_celln (⟨#[]⟩:ByteArray) HO_0.out (x5_1:Int) p6 q6;replace p6:=eq_true p6;replace q6:=eq_true q6;obtain ⟨hy9_,hz9_⟩:=Kd.R_celln (⟨#[]⟩:ByteArray) HO_0.out (x5_1:Int) (of_decide_eq_true (by first|(with_reducible assumption)|assumption)) (of_decide_eq_true (by first|(with_reducible assumption)|assumption));have HP9:=Kd.R_putg HO_0.out (x5_1:Int) t137)|((with_reducible refine gate_store (t:=9) (p:=16) rfl ?_);refine store_event (t:=9) (p:=16) (v:=?vo_w10) (w1:=(w8.setCell ⟨go6,(x5_1:Int).toNat,none⟩ (.string t137))) ?hg ?ho ?hn ?hr ?_;(case ho=>rfl);(case hg=>rfl);(case hn=>rfl);(case hr=>first|(go_simp;done)|(go_simp;rfl));intro w10 hw;have hg:w8.grownBy w10 (some go6):=(by rw [hw];exact HP9.2);have hp_:Kd.R Kd.string 9 w10 w0.heap.size (fun k_=>(P0_ k_∨w.heap.size≤k_)) (.slice (some ⟨go6,0,none⟩) x0_1.length co7) y138:=(by rw [hw,Ny138.out];exact HP9.1);clear HP9;have n0_:=mk3_ (hp_);have n1_:=mk3_ ((by rw [hw];exact bS3_ (HB.out) GB6.out:Below w0.heap.size w0 w10));have n2_:=mk3_ (Kept.of_grown (S:=(fun k_=>P0_ k_)) hg (by repeat (first|(with_reducible first|exact HK.out|apply Kept.alloc|apply Kept.drewN|apply Kept.drew)|exact HK.out)) (fun k_ e_=>(HO_0.out.1 k_ e_)));clear HO_0;clear HB;clear HK;have HO_0:=n0_;have HB:=n1_;have HK:=n2_;clear n0_ n1_ n2_;clear hg hw hp_))
          go_roundg k1
          case measure => have := HK1.out; omega
          case rel=>exact ⟨(y138),(wrap64 (x1_1+1)),(wrap64 (x5_1+1)),(by first|rfl|(simp;done)|(simp [*];done)),(by first|rfl|(simp;done)|(simp [*];done)),H',⟨by have:=HK1.out;omega⟩,⟨by (with_reducible repeat (first|apply rA3_|apply Kd.R_drewN|apply rD3_));exact HO_0.out⟩,⟨by repeat (first|(with_reducible first|exact HK.out|apply Kept.alloc|apply Kept.drewN|apply Kept.drew)|exact HK.out)⟩,⟨by repeat (first|(with_reducible first|exact HB.out|apply bA3_|apply bN3_|apply bD3_)|exact HB.out)⟩⟩
        · rw [if_neg c5] at H
          exact absurd H (by simp)
      · rw [if_neg c3] at H
        have c3b0 : decide (x5_1 < (x0_1.length : Int)) = false := decide_eq_false c3
        clear c3
        simp only [Option.some.injEq, Prod.mk.injEq] at H
        obtain ⟨rfl, rfl⟩ := H
        obtain ⟨Ao11, co11, eo11⟩ := Kd.R_slice HO_0.out
        subst eo11
        go_wp2
        go_ret
        exact ⟨by first|rfl|(simp [errW_none,errW_some] <;> rfl)|(simp [*,errW_none,errW_some] <;> rfl),by (with_reducible repeat (first|apply rA3_|apply Kd.R_drewN|apply rD3_));exact HO_0.out,by repeat (first|(with_reducible first|exact HB.out|apply bA3_|apply bN3_|apply bD3_)|exact HB.out),by repeat (first|(with_reducible first|exact HK.out|apply Kept.alloc|apply Kept.drewN|apply Kept.drew)|exact HK.out)⟩

-- NOT PRINTED: function 147 (laws_markBlockS)

-- NOT PRINTED: function 70 (laws_markFlash)

def laws_markBoolS.l0 : Nat → List Bool → Int → Int → Option (Int × List Bool)
  | 0, _, _, _ => none
  | k+1,x0,x1,x5=>if x5 < (x0.length:Int) then (if 0≤x5 then (laws_markBoolS.l0 k (x0.set (x5:Int).toNat ((Int.tmod x1 3) == 0)) (wrap64 (x1+1)) (wrap64 (x5+1))) else (none)) else (some (x1,x0))
def laws_markBoolS.f (k:Nat) (l0:List Bool) (a1:Int):Option (Int × List Bool):=laws_markBoolS.l0 k l0 a1 0
set_option maxHeartbeats 8000000 in
set_option maxRecDepth 100000 in
theorem laws_markBoolS.calls (k:Nat) (P0_:Nat→Prop) (u9000_:Value) (l0:List Bool) (a1:Int) (r1:Int) (r2:List Bool) (w0 w:World) (hB:Below w0.heap.size w0 w) (ho0:Kd.R Kd.bool 4 w w0.heap.size P0_ u9000_ l0) (h:laws_markBoolS.f k l0 a1=some (r1,r2)) :
    Calls Try.prog 148 #[u9000_,.int .i64 a1] w fun e w'=>e=.returned (.int .i64 r1)∧Kd.R Kd.bool 4 w' w0.heap.size (fun k_=>(P0_ k_∨w.heap.size≤k_)) u9000_ r2∧Below w0.heap.size w0 w'∧Kept w w' (fun k_=>P0_ k_):=by
  have HO0:=mk3_ (show Kd.R Kd.bool 4 w w0.heap.size (fun k_=>(P0_ k_∨w.heap.size≤k_)) u9000_ l0 from Kd.R_mono ho0 (fun k_ hk=>(.inl hk)))
  have HK := Aside0.mk (Kept.refl w (fun k_ => P0_ k_))
  have HW0 := Aside0.mk hB.size
  have HB := Aside0.mk hB
  clear hB
  have H : (laws_markBoolS.l0 k l0 a1 0) = some (r1, r2) := h
  clear h
  have H' := Aside0.mk H
  clear H
  go_enter Try.func148, Try.ntmps148
  go_wp2
  go_loopg [1,5] k (fun kq v1 v5 w'=>∃ (x0_1:List Bool) (x1_1:Int) (x5_1:Int),v1=.int .i64 x1_1∧v5=.int .i64 x5_1∧Aside0 (laws_markBoolS.l0 kq x0_1 x1_1 x5_1=some (r1,r2))∧Aside0 (kq≤k)∧Aside0 (Kd.R Kd.bool 4 w' w0.heap.size (fun k_=>(P0_ k_∨w.heap.size≤k_)) u9000_ x0_1)∧Aside0 (Kept w w' (fun k_=>P0_ k_))∧Aside0 (Below w0.heap.size w0 w'))
  case atStart=>exact ⟨(l0),(a1),(0),(by first|rfl|(simp;done)|(simp [*];done)),(by first|rfl|(simp;done)|(simp [*];done)),H',⟨Nat.le_refl _⟩,⟨by (with_reducible repeat (first|apply rA3_|apply Kd.R_drewN|apply rD3_));exact HO0.out⟩,⟨by repeat (first|(with_reducible first|exact HK.out|apply Kept.alloc|apply Kept.drewN|apply Kept.drew)|exact HK.out)⟩,⟨by repeat (first|(with_reducible first|exact HB.out|apply bA3_|apply bN3_|apply bD3_)|exact HB.out)⟩⟩
  case round =>
    clear H'
    try clear c1
    try clear p2
    obtain ⟨x0_1, x1_1, x5_1, rfl, rfl, HA, HK1, HO_0, HK, HB⟩ := hrel
    cases gk with
    | zero => exact absurd HA.out (by simp [laws_markBoolS.l0])
    | succ k1 =>
      have H := HA.out
      clear HA
      simp only [laws_markBoolS.l0] at H
      by_cases c3 : x5_1 < (x0_1.length : Int)
      · rw [if_pos c3] at H
        have c3b0 : decide (x5_1 < (x0_1.length : Int)) = true := decide_eq_true c3
        clear c3
        by_cases c4 : 0 ≤ x5_1
        · rw [if_pos c4] at H
          have c4b0 : decide (0 ≤ x5_1) = true := decide_eq_true c4
          clear c4
          obtain ⟨y140,hy140⟩:∃ y_:List Bool,y_=(x0_1.set (x5_1:Int).toNat ((Int.tmod x1_1 3) == 0)):=⟨_,rfl⟩
          replace H:(laws_markBoolS.l0 k1 y140 (wrap64 (x1_1+1)) (wrap64 (x5_1+1)))=some (r1,r2):=by first|(rw [hy140];with_reducible exact H)|(have H2_:=(Option.bind_some _ _).symm.trans H;rw [hy140];with_reducible exact H2_)|(have H2_:=(Option.bind_some _ _).symm.trans H;with_reducible exact H2_)|with_reducible exact H|(rw [hy140];exact H)|exact H
          have Ny140 := Aside0.mk hy140
          clear hy140
          have H' := Aside0.mk H
          clear H
          obtain ⟨Ao6, co6, eo6⟩ := Kd.R_slice HO_0.out
          subst eo6
          have p5:0≤(x5_1:Int):=of_decide_eq_true (by first|(with_reducible assumption)|assumption)
          have q5:(x5_1:Int) < ((x0_1.length:Int):Int):=of_decide_eq_true (by first|(with_reducible assumption)|assumption)
          obtain ⟨go5, co5, eo5, gb5, gl5, cl5, HG5⟩ := Kd.R_form HO_0.out (by omega)
          (first|cases eo5|(injection eo5 with ea_ en_ ec_;(first|subst ea_|(injection ea_ with ea_;subst ea_));subst ec_;clear en_))
          have GB5 := Aside0.mk gb5
          have GG5 := Aside0.mk HG5
          clear gb5 gl5 HG5
          have HMgo5 := Aside0.mk (show (P0_ go5 ∨ w.heap.size ≤ go5) from (HO_0.out.1 _ rfl))
          obtain ⟨hx5_0, hf5_0⟩ := Kd.R_celln false HO_0.out (x5_1 : Int) p5 q5
          replace p5 := eq_true p5
          replace q5 := eq_true q5
          have HP7 := Kd.R_putg HO_0.out (x5_1 : Int) ((Int.tmod x1_1 3) == 0)
          go_wp2_with (first|((with_reducible refine gate_store (t:=4) (p:=17) rfl ?_);refine store_event (t:=4) (p:=17) (v:=?vo_w8) (w1:=(wr.setCell ⟨go5,(x5_1:Int).toNat,none⟩ (.bool ((Int.tmod x1_1 3) == 0)))) ?hg ?ho ?hn ?hr ?_;(case ho=>rfl);(case hg=>rfl);(case hn=>rfl);(case hr=>first|(go_simp;done)|(go_simp;rfl));intro w8 hw;have hg:wr.grownBy w8 (some go5):=(by rw [hw];exact HP7.2);have hp_:Kd.R Kd.bool 4 w8 w0.heap.size (fun k_=>(P0_ k_∨w.heap.size≤k_)) (.slice (some ⟨go5,0,none⟩) x0_1.length co6) y140:=(by rw [hw,Ny140.out];exact HP7.1);clear HP7;have n0_:=mk3_ (hp_);have n1_:=mk3_ ((by rw [hw];exact bS3_ (HB.out) GB5.out:Below w0.heap.size w0 w8));have n2_:=mk3_ (Kept.of_grown (S:=(fun k_=>P0_ k_)) hg (by repeat (first|(with_reducible first|exact HK.out|apply Kept.alloc|apply Kept.drewN|apply Kept.drew)|exact HK.out)) (fun k_ e_=>(HO_0.out.1 k_ e_)));clear HO_0;clear HB;clear HK;have HO_0:=n0_;have HB:=n1_;have HK:=n2_;clear n0_ n1_ n2_;clear hg hw hp_))
          go_roundg k1
          case measure => have := HK1.out; omega
          case rel=>exact ⟨(y140),(wrap64 (x1_1+1)),(wrap64 (x5_1+1)),(by first|rfl|(simp;done)|(simp [*];done)),(by first|rfl|(simp;done)|(simp [*];done)),H',⟨by have:=HK1.out;omega⟩,⟨by (with_reducible repeat (first|apply rA3_|apply Kd.R_drewN|apply rD3_));exact HO_0.out⟩,⟨by repeat (first|(with_reducible first|exact HK.out|apply Kept.alloc|apply Kept.drewN|apply Kept.drew)|exact HK.out)⟩,⟨by repeat (first|(with_reducible first|exact HB.out|apply bA3_|apply bN3_|apply bD3_)|exact HB.out)⟩⟩
        · rw [if_neg c4] at H
          exact absurd H (by simp)
      · rw [if_neg c3] at H
        have c3b0 : decide (x5_1 < (x0_1.length : Int)) = false := decide_eq_false c3
        clear c3
        simp only [Option.some.injEq, Prod.mk.injEq] at H
        obtain ⟨rfl, rfl⟩ := H
        obtain ⟨Ao9, co9, eo9⟩ := Kd.R_slice HO_0.out
        subst eo9
        go_wp2
        go_ret
        exact ⟨by first|rfl|(simp [errW_none,errW_some] <;> rfl)|(simp [*,errW_none,errW_some] <;> rfl),by (with_reducible repeat (first|apply rA3_|apply Kd.R_drewN|apply rD3_));exact HO_0.out,by repeat (first|(with_reducible first|exact HB.out|apply bA3_|apply bN3_|apply bD3_)|exact HB.out),by repeat (first|(with_reducible first|exact HK.out|apply Kept.alloc|apply Kept.drewN|apply Kept.drew)|exact HK.out)⟩

def laws_markPageMap.f (k:Nat) (a0_0:Int) (a0_1:Int) (l0_2:List Int) (l0_3:List Bool) (a1:Int):Option (Int × List Int × List Bool):=(laws_markInt64S.f k l0_2 a1).bind fun bt142=>((laws_markBoolS.f k l0_3 bt142.1).bind fun bt144=>(some (bt144.1,bt142.2,bt144.2)))
set_option maxHeartbeats 8000000 in
set_option maxRecDepth 100000 in
theorem laws_markPageMap.calls (k:Nat) (a0_0:Int) (a0_1:Int) (P0_2_:Nat→Prop) (u9000_:Value) (l0_2:List Int) (P0_3_:Nat→Prop) (u9001_:Value) (l0_3:List Bool) (a1:Int) (r1:Int) (r2:List Int) (r3:List Bool) (w0 w:World) (hB:Below w0.heap.size w0 w) (ho0_2:Kd.R (Kd.int .i64) 2 w w0.heap.size P0_2_ u9000_ l0_2) (ho0_3:Kd.R Kd.bool 4 w w0.heap.size P0_3_ u9001_ l0_3) (h:laws_markPageMap.f k a0_0 a0_1 l0_2 l0_3 a1=some (r1,r2,r3)) :
    Calls Try.prog 71 #[.agg #[.int .i64 a0_0,.int .i64 a0_1,u9000_,u9001_],.int .i64 a1] w fun e w'=>e=.returned (.int .i64 r1)∧Kd.R (Kd.int .i64) 2 w' w0.heap.size (fun k_=>((P0_2_ k_∨P0_3_ k_)∨w.heap.size≤k_)) u9000_ r2∧Kd.R Kd.bool 4 w' w0.heap.size (fun k_=>((P0_2_ k_∨P0_3_ k_)∨w.heap.size≤k_)) u9001_ r3∧Below w0.heap.size w0 w'∧Kept w w' (fun k_=>P0_2_ k_∨P0_3_ k_):=by
  have hu41 := Try.underlying41
  have HO0_2:=mk3_ (show Kd.R (Kd.int .i64) 2 w w0.heap.size (fun k_=>((P0_2_ k_∨P0_3_ k_)∨w.heap.size≤k_)) u9000_ l0_2 from Kd.R_mono ho0_2 (fun k_ hk=>(.inl (.inl hk))))
  have HO0_3:=mk3_ (show Kd.R Kd.bool 4 w w0.heap.size (fun k_=>((P0_2_ k_∨P0_3_ k_)∨w.heap.size≤k_)) u9001_ l0_3 from Kd.R_mono ho0_3 (fun k_ hk=>(.inl (.inr hk))))
  have HK := Aside0.mk (Kept.refl w (fun k_ => P0_2_ k_ ∨ P0_3_ k_))
  have HW0 := Aside0.mk hB.size
  have HB := Aside0.mk hB
  clear hB
  have H:((laws_markInt64S.f k l0_2 a1).bind fun bt142=>((laws_markBoolS.f k l0_3 bt142.1).bind fun bt144=>(some (bt144.1,bt142.2,bt144.2))))=some (r1,r2,r3):=h
  clear h
  replace H := Option.bind_eq_some_iff.mp H
  obtain ⟨⟨t142, t143⟩, A30, H⟩ := H
  replace H:((laws_markBoolS.f k l0_3 t142).bind fun bt144=>(some (bt144.1,t143,bt144.2)))=some (r1,r2,r3):=H
  have A3 := Aside0.mk A30
  clear A30
  replace H := Option.bind_eq_some_iff.mp H
  obtain ⟨⟨t144, t145⟩, A40, H⟩ := H
  replace H : (some (t144, t143, t145)) = some (r1, r2, r3) := H
  have A4 := Aside0.mk A40
  clear A40
  simp only [Option.some.injEq, Prod.mk.injEq] at H
  obtain ⟨rfl, rfl, rfl⟩ := H
  obtain ⟨Ao5, co5, eo5⟩ := Kd.R_slice HO0_2.out
  subst eo5
  obtain ⟨Ao6, co6, eo6⟩ := Kd.R_slice HO0_3.out
  subst eo6
  go_enter Try.func71, Try.ntmps71
  go_wp2_with (first|((with_reducible refine gate_dst (N:=2) rfl ?_);refine box_event ?hg (N:=2) ?hd (cs:=#[.int .i64 a0_0,.int .i64 a0_1,.slice Ao5 l0_2.length co5,.slice Ao6 l0_3.length co6]) (t:=41) ?hr ?_;(case hd=>rfl);(case hg=>rfl);(case hr=>first|(go_simp;done)|(go_simp;rfl));intro gb141 hg w7 hbox hb;have n0_:=mk3_ (Kd.R_below (by (with_reducible repeat (first|apply rA3_|apply Kd.R_drewN|apply rD3_));exact HO0_2.out) hb);have n1_:=mk3_ (Kd.R_below (by (with_reducible repeat (first|apply rA3_|apply Kd.R_drewN|apply rD3_));exact HO0_3.out) hb);have n2_:=mk3_ (Kept.below (S:=(fun k_=>P0_2_ k_∨P0_3_ k_)) (by repeat (first|(with_reducible first|exact HK.out|apply Kept.alloc|apply Kept.drewN|apply Kept.drew)|exact HK.out)) hb);have n3_:=mk3_ (bT3_ (by repeat (first|(with_reducible first|exact HB.out|apply bA3_|apply bN3_|apply bD3_)|exact HB.out)) hb);have n4_:=mk3_ (hbox);have n5_:=mk3_ ((by rw [hg];exact (by first|exact HK.out.1|exact (show Kept w _ (fun k_=>P0_2_ k_∨P0_3_ k_) from by repeat (first|(with_reducible first|exact HK.out|apply Kept.alloc|apply Kept.drewN|apply Kept.drew)|exact HK.out)).1):w.heap.size≤gb141));have n6_:=mk3_ ((by rw [hg];exact (bZ3_ (by repeat (first|(with_reducible first|exact HB.out|apply bA3_|apply bN3_|apply bD3_)|exact HB.out))):w0.heap.size≤gb141));clear HO0_2;clear HO0_3;clear HK;clear HB;have HO0_2:=n0_;have HO0_3:=n1_;have HK:=n2_;have HB:=n3_;have BK141:=n4_;have GW141:=n5_;have GE141:=n6_;clear n0_ n1_ n2_ n3_ n4_ n5_ n6_;clear hb hbox hg;have hcz8_0:w7.cell? ⟨gb141,0,none⟩=some (.int .i64 a0_0):=(blk_cell BK141.out 0).trans rfl;have hcz8_1:w7.cell? ⟨gb141,1,none⟩=some (.int .i64 a0_1):=(blk_cell BK141.out 1).trans rfl;have hcz8_2:w7.cell? ⟨gb141,2,none⟩=some (.slice Ao5 l0_2.length co5):=(blk_cell BK141.out 2).trans rfl;have hcz8_3:w7.cell? ⟨gb141,3,none⟩=some (.slice Ao6 l0_3.length co6):=(blk_cell BK141.out 3).trans rfl;have hfz8_0:=fZ3_ BK141.out 0;have hfz8_1:=fZ3_ BK141.out 1;have hfz8_2:=fZ3_ BK141.out 2;have hfz8_3:=fZ3_ BK141.out 3)|((with_reducible refine gate_callee (f:=21) rfl ?_);refine goesL_ (some 8) rfl rfl Try.func21 (by kernel_rfl) rfl #[.slice Ao5 l0_2.length co5,.int .i64 a1] rfl (by (try simp only [List.map_toArray,List.map_cons,List.map_nil]);first|done|rfl|(simp only [List.length_drop,List.length_take];rfl)) ?_;(with_reducible refine (laws_markInt64S.calls k (fun k_=>some k_=(.slice Ao5 l0_2.length co5:Value).ownBlock) (.slice Ao5 l0_2.length co5) l0_2 a1 t142 t143 w0 _ ?side1 ?side2 A3.out).mono ?_);(case side1=>repeat (first|(with_reducible first|exact HB.out|apply bA3_|apply bN3_|apply bD3_|refine bS3_ ?_ GE141.out)|exact HB.out));(case side2=>exact Kd.R_tight rfl HO0_2.out);rintro e w9 ⟨rfl,hy0,hb,hkp⟩;refine ⟨_,rfl,?_⟩;have n0_:=mk3_ (Kd.R_reok rfl hy0 (fun k_ e_=>HO0_2.out.1 k_ e_));have n1_:=mk3_ (Kd.R_mono (ok':=fun k_=>((P0_2_ k_∨P0_3_ k_)∨w.heap.size≤k_)) (Kd.R_keptB ((Kd.R_apart' HO0_3.out (Kd.R_typed HO0_2.out) (by decide))) hkp (fun k_ hk_ hs_=>by first|exact (hk_.2) hs_|(simp [hk_] at hs_))) (fun k_ hk_=>hk_.1.1));have n2_:=mk3_ (blk_kept (by (with_reducible repeat (first|refine kN3_ ?_ _|refine kD3_ ?_|refine kA3_ ?_ _));exact BK141.out) hkp (fun hs_=>(fun e_=>(Kd.R_ne HO0_2.out BK141.out (by decide)) e_) hs_));have n3_:=mk3_ (Kept.then_ (S:=(fun k_=>P0_2_ k_∨P0_3_ k_)) (by repeat (first|(with_reducible first|exact HK.out|apply Kept.alloc|apply Kept.drewN|apply Kept.drew|refine Kept.setCell ?_ (.inr GW141.out) _)|exact HK.out)) hkp (fun k_ hs_=>(fun e_=>(HO0_2.out.1 k_ e_.symm)) hs_));have n4_:=mk3_ (hb);clear HO0_2;clear HO0_3;clear BK141;clear HK;clear HB;have HO0_2:=n0_;have HO0_3:=n1_;have BK141:=n2_;have HK:=n3_;have HB:=n4_;clear n0_ n1_ n2_ n3_ n4_;(try clear hb);(try clear hkp);(try clear hy0);have hcz10_0:w9.cell? ⟨gb141,0,none⟩=some (.int .i64 a0_0):=(blk_cell BK141.out 0).trans rfl;have hcz10_1:w9.cell? ⟨gb141,1,none⟩=some (.int .i64 a0_1):=(blk_cell BK141.out 1).trans rfl;have hcz10_2:w9.cell? ⟨gb141,2,none⟩=some (.slice Ao5 l0_2.length co5):=(blk_cell BK141.out 2).trans rfl;have hcz10_3:w9.cell? ⟨gb141,3,none⟩=some (.slice Ao6 l0_3.length co6):=(blk_cell BK141.out 3).trans rfl;have hfz10_0:=fZ3_ BK141.out 0;have hfz10_1:=fZ3_ BK141.out 1;have hfz10_2:=fZ3_ BK141.out 2;have hfz10_3:=fZ3_ BK141.out 3)|((with_reducible refine gate_callee (f:=148) rfl ?_);refine goesL_ (some 12) rfl rfl Try.func148 (by kernel_rfl) rfl #[.slice Ao6 l0_3.length co6,.int .i64 t142] rfl (by (try simp only [List.map_toArray,List.map_cons,List.map_nil]);first|done|rfl|(simp only [List.length_drop,List.length_take];rfl)) ?_;(with_reducible refine (laws_markBoolS.calls k (fun k_=>some k_=(.slice Ao6 l0_3.length co6:Value).ownBlock) (.slice Ao6 l0_3.length co6) l0_3 t142 t144 t145 w0 _ ?side1 ?side2 A4.out).mono ?_);(case side1=>repeat (first|(with_reducible first|exact HB.out|apply bA3_|apply bN3_|apply bD3_|refine bS3_ ?_ GE141.out)|exact HB.out));(case side2=>exact Kd.R_tight rfl HO0_3.out);rintro e w11 ⟨rfl,hy0,hb,hkp⟩;refine ⟨_,rfl,?_⟩;have n0_:=mk3_ (Kd.R_mono (ok':=fun k_=>((P0_2_ k_∨P0_3_ k_)∨w.heap.size≤k_)) (Kd.R_keptB ((Kd.R_apart' HO0_2.out (Kd.R_typed HO0_3.out) (by decide))) hkp (fun k_ hk_ hs_=>by first|exact (hk_.2) hs_|(simp [hk_] at hs_))) (fun k_ hk_=>hk_.1.1));have n1_:=mk3_ (Kd.R_reok rfl hy0 (fun k_ e_=>HO0_3.out.1 k_ e_));have n2_:=mk3_ (blk_kept (by (with_reducible repeat (first|refine kN3_ ?_ _|refine kD3_ ?_|refine kA3_ ?_ _));exact BK141.out) hkp (fun hs_=>(fun e_=>(Kd.R_ne HO0_3.out BK141.out (by decide)) e_) hs_));have n3_:=mk3_ (Kept.then_ (S:=(fun k_=>P0_2_ k_∨P0_3_ k_)) (by repeat (first|(with_reducible first|exact HK.out|apply Kept.alloc|apply Kept.drewN|apply Kept.drew|refine Kept.setCell ?_ (.inr GW141.out) _)|exact HK.out)) hkp (fun k_ hs_=>(fun e_=>(HO0_3.out.1 k_ e_.symm)) hs_));have n4_:=mk3_ (hb);clear HO0_2;clear HO0_3;clear BK141;clear HK;clear HB;have HO0_2:=n0_;have HO0_3:=n1_;have BK141:=n2_;have HK:=n3_;have HB:=n4_;clear n0_ n1_ n2_ n3_ n4_;(try clear hb);(try clear hkp);(try clear hy0)))
  go_ret
  exact ⟨by first|rfl|(simp [errW_none,errW_some] <;> rfl)|(simp [*,errW_none,errW_some] <;> rfl),by (with_reducible repeat (first|apply rA3_|apply Kd.R_drewN|apply rD3_));exact HO0_2.out,by (with_reducible repeat (first|apply rA3_|apply Kd.R_drewN|apply rD3_));exact HO0_3.out,by repeat (first|(with_reducible first|exact HB.out|apply bA3_|apply bN3_|apply bD3_|refine bS3_ ?_ GE141.out)|exact HB.out),by repeat (first|(with_reducible first|exact HK.out|apply Kept.alloc|apply Kept.drewN|apply Kept.drew|refine Kept.setCell ?_ (.inr GW141.out) _)|exact HK.out)⟩

def laws_markHeat.f (k:Nat) (l0_0:List Int) (a0_1:Int) (a1:Int):Option (Int × List Int):=(laws_markInt64S.f k l0_0 a1).bind fun bt147=>(some (bt147.1,bt147.2))
set_option maxHeartbeats 8000000 in
set_option maxRecDepth 100000 in
theorem laws_markHeat.calls (k:Nat) (P0_0_:Nat→Prop) (u9000_:Value) (l0_0:List Int) (a0_1:Int) (a1:Int) (r1:Int) (r2:List Int) (w0 w:World) (hB:Below w0.heap.size w0 w) (ho0_0:Kd.R (Kd.int .i64) 2 w w0.heap.size P0_0_ u9000_ l0_0) (h:laws_markHeat.f k l0_0 a0_1 a1=some (r1,r2)) :
    Calls Try.prog 72 #[.agg #[u9000_,.int .i64 a0_1],.int .i64 a1] w fun e w'=>e=.returned (.int .i64 r1)∧Kd.R (Kd.int .i64) 2 w' w0.heap.size (fun k_=>(P0_0_ k_∨w.heap.size≤k_)) u9000_ r2∧Below w0.heap.size w0 w'∧Kept w w' (fun k_=>P0_0_ k_):=by
  have hu42 := Try.underlying42
  have HO0_0:=mk3_ (show Kd.R (Kd.int .i64) 2 w w0.heap.size (fun k_=>(P0_0_ k_∨w.heap.size≤k_)) u9000_ l0_0 from Kd.R_mono ho0_0 (fun k_ hk=>(.inl hk)))
  have HK := Aside0.mk (Kept.refl w (fun k_ => P0_0_ k_))
  have HW0 := Aside0.mk hB.size
  have HB := Aside0.mk hB
  clear hB
  have H:((laws_markInt64S.f k l0_0 a1).bind fun bt147=>(some (bt147.1,bt147.2)))=some (r1,r2):=h
  clear h
  replace H := Option.bind_eq_some_iff.mp H
  obtain ⟨⟨t147, t148⟩, A30, H⟩ := H
  replace H : (some (t147, t148)) = some (r1, r2) := H
  have A3 := Aside0.mk A30
  clear A30
  simp only [Option.some.injEq, Prod.mk.injEq] at H
  obtain ⟨rfl, rfl⟩ := H
  obtain ⟨Ao4, co4, eo4⟩ := Kd.R_slice HO0_0.out
  subst eo4
  go_enter Try.func72, Try.ntmps72
  go_wp2_with (first|((with_reducible refine gate_dst (N:=2) rfl ?_);refine box_event ?hg (N:=2) ?hd (cs:=#[.slice Ao4 l0_0.length co4,.int .i64 a0_1]) (t:=42) ?hr ?_;(case hd=>rfl);(case hg=>rfl);(case hr=>first|(go_simp;done)|(go_simp;rfl));intro gb146 hg w5 hbox hb;have n0_:=mk3_ (Kd.R_below (by (with_reducible repeat (first|apply rA3_|apply Kd.R_drewN|apply rD3_));exact HO0_0.out) hb);have n1_:=mk3_ (Kept.below (S:=(fun k_=>P0_0_ k_)) (by repeat (first|(with_reducible first|exact HK.out|apply Kept.alloc|apply Kept.drewN|apply Kept.drew)|exact HK.out)) hb);have n2_:=mk3_ (bT3_ (by repeat (first|(with_reducible first|exact HB.out|apply bA3_|apply bN3_|apply bD3_)|exact HB.out)) hb);have n3_:=mk3_ (hbox);have n4_:=mk3_ ((by rw [hg];exact (by first|exact HK.out.1|exact (show Kept w _ (fun k_=>P0_0_ k_) from by repeat (first|(with_reducible first|exact HK.out|apply Kept.alloc|apply Kept.drewN|apply Kept.drew)|exact HK.out)).1):w.heap.size≤gb146));have n5_:=mk3_ ((by rw [hg];exact (bZ3_ (by repeat (first|(with_reducible first|exact HB.out|apply bA3_|apply bN3_|apply bD3_)|exact HB.out))):w0.heap.size≤gb146));clear HO0_0;clear HK;clear HB;have HO0_0:=n0_;have HK:=n1_;have HB:=n2_;have BK146:=n3_;have GW146:=n4_;have GE146:=n5_;clear n0_ n1_ n2_ n3_ n4_ n5_;clear hb hbox hg;have hcz6_0:w5.cell? ⟨gb146,0,none⟩=some (.slice Ao4 l0_0.length co4):=(blk_cell BK146.out 0).trans rfl;have hcz6_1:w5.cell? ⟨gb146,1,none⟩=some (.int .i64 a0_1):=(blk_cell BK146.out 1).trans rfl;have hfz6_0:=fZ3_ BK146.out 0;have hfz6_1:=fZ3_ BK146.out 1)|((with_reducible refine gate_callee (f:=21) rfl ?_);refine goesL_ (some 8) rfl rfl Try.func21 (by kernel_rfl) rfl #[.slice Ao4 l0_0.length co4,.int .i64 a1] rfl (by (try simp only [List.map_toArray,List.map_cons,List.map_nil]);first|done|rfl|(simp only [List.length_drop,List.length_take];rfl)) ?_;(with_reducible refine (laws_markInt64S.calls k (fun k_=>some k_=(.slice Ao4 l0_0.length co4:Value).ownBlock) (.slice Ao4 l0_0.length co4) l0_0 a1 t147 t148 w0 _ ?side1 ?side2 A3.out).mono ?_);(case side1=>repeat (first|(with_reducible first|exact HB.out|apply bA3_|apply bN3_|apply bD3_|refine bS3_ ?_ GE146.out)|exact HB.out));(case side2=>exact Kd.R_tight rfl HO0_0.out);rintro e w7 ⟨rfl,hy0,hb,hkp⟩;refine ⟨_,rfl,?_⟩;have n0_:=mk3_ (Kd.R_reok rfl hy0 (fun k_ e_=>HO0_0.out.1 k_ e_));have n1_:=mk3_ (blk_kept (by (with_reducible repeat (first|refine kN3_ ?_ _|refine kD3_ ?_|refine kA3_ ?_ _));exact BK146.out) hkp (fun hs_=>(fun e_=>(Kd.R_ne HO0_0.out BK146.out (by decide)) e_) hs_));have n2_:=mk3_ (Kept.then_ (S:=(fun k_=>P0_0_ k_)) (by repeat (first|(with_reducible first|exact HK.out|apply Kept.alloc|apply Kept.drewN|apply Kept.drew|refine Kept.setCell ?_ (.inr GW146.out) _)|exact HK.out)) hkp (fun k_ hs_=>(fun e_=>(HO0_0.out.1 k_ e_.symm)) hs_));have n3_:=mk3_ (hb);clear HO0_0;clear BK146;clear HK;clear HB;have HO0_0:=n0_;have BK146:=n1_;have HK:=n2_;have HB:=n3_;clear n0_ n1_ n2_ n3_;(try clear hb);(try clear hkp);(try clear hy0)))
  go_ret
  exact ⟨by first|rfl|(simp [errW_none,errW_some] <;> rfl)|(simp [*,errW_none,errW_some] <;> rfl),by (with_reducible repeat (first|apply rA3_|apply Kd.R_drewN|apply rD3_));exact HO0_0.out,by repeat (first|(with_reducible first|exact HB.out|apply bA3_|apply bN3_|apply bD3_|refine bS3_ ?_ GE146.out)|exact HB.out),by repeat (first|(with_reducible first|exact HK.out|apply Kept.alloc|apply Kept.drewN|apply Kept.drew|refine Kept.setCell ?_ (.inr GW146.out) _)|exact HK.out)⟩

-- NOT PRINTED: function 20 (laws_markFTL)

def laws_toGeometry.f (a0_0:Int) (a0_1:Int) (a0_2:Int):Option (Int × Int × Int):=some (a0_0,a0_1,a0_2)
set_option maxHeartbeats 8000000 in
set_option maxRecDepth 100000 in
theorem laws_toGeometry.calls (a0_0:Int) (a0_1:Int) (a0_2:Int) (r1:Int) (r2:Int) (r3:Int) (w:World) (h:laws_toGeometry.f a0_0 a0_1 a0_2=some (r1,r2,r3)) :
    Calls Try.prog 39 #[.agg #[.int .i64 a0_0,.int .i64 a0_1,.int .i64 a0_2]] w fun e w'=>e=.returned (.agg #[.int .i64 r1,.int .i64 r2,.int .i64 r3])∧Below w.heap.size w w':=by
  have hu23 := Try.underlying23
  have hu37 := Try.underlying37
  have HB := Aside0.mk (Below.refl w.heap.size w)
  have H : (some (a0_0, a0_1, a0_2)) = some (r1, r2, r3) := h
  clear h
  simp only [Option.some.injEq, Prod.mk.injEq] at H
  obtain ⟨rfl, rfl, rfl⟩ := H
  go_enter Try.func39, Try.ntmps39
  go_wp2_with (first|((with_reducible refine gate_dst (N:=1) rfl ?_);refine box_event ?hg (N:=1) ?hd (cs:=#[.int .i64 a0_0,.int .i64 a0_1,.int .i64 a0_2]) (t:=23) ?hr ?_;(case hd=>rfl);(case hg=>rfl);(case hr=>first|(go_simp;done)|(go_simp;rfl));intro gb150 hg w2 hbox hb;have n0_:=mk3_ (bT3_ (by repeat (first|(with_reducible first|exact HB.out|apply bA3_|apply bN3_|apply bD3_)|exact HB.out)) hb);have n1_:=mk3_ (hbox);have n2_:=mk3_ ((by rw [hg];exact (bZ3_ (by repeat (first|(with_reducible first|exact HB.out|apply bA3_|apply bN3_|apply bD3_)|exact HB.out))):w.heap.size≤gb150));have n3_:=mk3_ ((by rw [hg];exact (bZ3_ (by repeat (first|(with_reducible first|exact HB.out|apply bA3_|apply bN3_|apply bD3_)|exact HB.out))):w.heap.size≤gb150));clear HB;have HB:=n0_;have BK150:=n1_;have GW150:=n2_;have GE150:=n3_;clear n0_ n1_ n2_ n3_;clear hb hbox hg)|((with_reducible refine gate_dst (N:=2) rfl ?_);refine box_event ?hg (N:=2) ?hd (cs:=#[.int .i64 0,.int .i64 0,.int .i64 0]) (t:=37) ?hr ?_;(case hd=>rfl);(case hg=>rfl);(case hr=>first|(go_simp;done)|(go_simp;rfl));intro gb151 hg w3 hbox hb;have n0_:=mk3_ (blk_below (g:=gb150) (o:=.cells #[.int .i64 a0_0,.int .i64 a0_1,.int .i64 a0_2] 23 (0,0)) (by (with_reducible repeat (first|refine kN3_ ?_ _|refine kD3_ ?_|refine kA3_ ?_ _));exact BK150.out) hb);have n1_:=mk3_ (bT3_ (by repeat (first|(with_reducible first|exact HB.out|apply bA3_|apply bN3_|apply bD3_|refine bS3_ ?_ GE150.out)|exact HB.out)) hb);have n2_:=mk3_ (hbox);have n3_:=mk3_ ((by rw [hg];exact (bZ3_ (by repeat (first|(with_reducible first|exact HB.out|apply bA3_|apply bN3_|apply bD3_|refine bS3_ ?_ GE150.out)|exact HB.out))):w.heap.size≤gb151));have n4_:=mk3_ ((by rw [hg];exact (bZ3_ (by repeat (first|(with_reducible first|exact HB.out|apply bA3_|apply bN3_|apply bD3_|refine bS3_ ?_ GE150.out)|exact HB.out))):w.heap.size≤gb151));have n5_:=mk3_ ((by rw [hg];exact Nat.ne_of_lt (blk_lt (g:=gb150) (o:=.cells #[.int .i64 a0_0,.int .i64 a0_1,.int .i64 a0_2] 23 (0,0)) (by (with_reducible repeat (first|refine kN3_ ?_ _|refine kD3_ ?_|refine kA3_ ?_ _));exact BK150.out)):gb150≠gb151));have n6_:=mk3_ ((by rw [hg];exact Nat.ne_of_gt (blk_lt (g:=gb150) (o:=.cells #[.int .i64 a0_0,.int .i64 a0_1,.int .i64 a0_2] 23 (0,0)) (by (with_reducible repeat (first|refine kN3_ ?_ _|refine kD3_ ?_|refine kA3_ ?_ _));exact BK150.out)):gb151≠gb150));clear BK150;clear HB;have BK150:=n0_;have HB:=n1_;have BK151:=n2_;have GW151:=n3_;have GE151:=n4_;have NB150_151:=n5_;have NB151_150:=n6_;clear n0_ n1_ n2_ n3_ n4_ n5_ n6_;clear hb hbox hg)|((with_reducible refine gate_dst (N:=3) rfl ?_);refine box_event ?hg (N:=3) ?hd (cs:=#[.int .i64 0,.int .i64 0,.int .i64 0]) (t:=37) ?hr ?_;(case hd=>rfl);(case hg=>rfl);(case hr=>first|(go_simp;done)|(go_simp;rfl));intro gb152 hg w4 hbox hb;have n0_:=mk3_ (blk_below (g:=gb150) (o:=.cells #[.int .i64 a0_0,.int .i64 a0_1,.int .i64 a0_2] 23 (0,0)) (by (with_reducible repeat (first|refine kN3_ ?_ _|refine kD3_ ?_|refine kA3_ ?_ _));exact BK150.out) hb);have n1_:=mk3_ (blk_below (g:=gb151) (o:=.cells #[.int .i64 0,.int .i64 0,.int .i64 0] 37 (0,0)) (by (with_reducible repeat (first|refine kN3_ ?_ _|refine kD3_ ?_|refine kA3_ ?_ _));exact BK151.out) hb);have n2_:=mk3_ (bT3_ (by repeat (first|(with_reducible first|exact HB.out|apply bA3_|apply bN3_|apply bD3_|refine bS3_ ?_ GE150.out|refine bS3_ ?_ GE151.out)|exact HB.out)) hb);have n3_:=mk3_ (hbox);have n4_:=mk3_ ((by rw [hg];exact (bZ3_ (by repeat (first|(with_reducible first|exact HB.out|apply bA3_|apply bN3_|apply bD3_|refine bS3_ ?_ GE150.out|refine bS3_ ?_ GE151.out)|exact HB.out))):w.heap.size≤gb152));have n5_:=mk3_ ((by rw [hg];exact (bZ3_ (by repeat (first|(with_reducible first|exact HB.out|apply bA3_|apply bN3_|apply bD3_|refine bS3_ ?_ GE150.out|refine bS3_ ?_ GE151.out)|exact HB.out))):w.heap.size≤gb152));have n6_:=mk3_ ((by rw [hg];exact Nat.ne_of_lt (blk_lt (g:=gb150) (o:=.cells #[.int .i64 a0_0,.int .i64 a0_1,.int .i64 a0_2] 23 (0,0)) (by (with_reducible repeat (first|refine kN3_ ?_ _|refine kD3_ ?_|refine kA3_ ?_ _));exact BK150.out)):gb150≠gb152));have n7_:=mk3_ ((by rw [hg];exact Nat.ne_of_gt (blk_lt (g:=gb150) (o:=.cells #[.int .i64 a0_0,.int .i64 a0_1,.int .i64 a0_2] 23 (0,0)) (by (with_reducible repeat (first|refine kN3_ ?_ _|refine kD3_ ?_|refine kA3_ ?_ _));exact BK150.out)):gb152≠gb150));have n8_:=mk3_ ((by rw [hg];exact Nat.ne_of_lt (blk_lt (g:=gb151) (o:=.cells #[.int .i64 0,.int .i64 0,.int .i64 0] 37 (0,0)) (by (with_reducible repeat (first|refine kN3_ ?_ _|refine kD3_ ?_|refine kA3_ ?_ _));exact BK151.out)):gb151≠gb152));have n9_:=mk3_ ((by rw [hg];exact Nat.ne_of_gt (blk_lt (g:=gb151) (o:=.cells #[.int .i64 0,.int .i64 0,.int .i64 0] 37 (0,0)) (by (with_reducible repeat (first|refine kN3_ ?_ _|refine kD3_ ?_|refine kA3_ ?_ _));exact BK151.out)):gb152≠gb151));clear BK150;clear BK151;clear HB;have BK150:=n0_;have BK151:=n1_;have HB:=n2_;have BK152:=n3_;have GW152:=n4_;have GE152:=n5_;have NB150_152:=n6_;have NB152_150:=n7_;have NB151_152:=n8_;have NB152_151:=n9_;clear n0_ n1_ n2_ n3_ n4_ n5_ n6_ n7_ n8_ n9_;clear hb hbox hg;have hnb5:=NB150_151.out;have hnc5:=NB151_150.out;have hnb6:=NB150_152.out;have hnc6:=NB152_150.out;have hcz7_0:w4.cell? ⟨gb150,0,none⟩=some (.int .i64 a0_0):=(blk_cell BK150.out 0).trans rfl;have hcz7_1:w4.cell? ⟨gb150,1,none⟩=some (.int .i64 a0_1):=(blk_cell BK150.out 1).trans rfl;have hcz7_2:w4.cell? ⟨gb150,2,none⟩=some (.int .i64 a0_2):=(blk_cell BK150.out 2).trans rfl;have hfz7_0:=fZ3_ BK150.out 0;have hfz7_1:=fZ3_ BK150.out 1;have hfz7_2:=fZ3_ BK150.out 2;have hnb8:=NB152_151.out;have hnc8:=NB151_152.out;have hcz9_0:w4.cell? ⟨gb152,0,none⟩=some (.int .i64 0):=(blk_cell BK152.out 0).trans rfl;have hcz9_1:w4.cell? ⟨gb152,1,none⟩=some (.int .i64 0):=(blk_cell BK152.out 1).trans rfl;have hcz9_2:w4.cell? ⟨gb152,2,none⟩=some (.int .i64 0):=(blk_cell BK152.out 2).trans rfl;have hfz9_0:=fZ3_ BK152.out 0;have hfz9_1:=fZ3_ BK152.out 1;have hfz9_2:=fZ3_ BK152.out 2;have hcz10_0:w4.cell? ⟨gb151,0,none⟩=some (.int .i64 0):=(blk_cell BK151.out 0).trans rfl;have hcz10_1:w4.cell? ⟨gb151,1,none⟩=some (.int .i64 0):=(blk_cell BK151.out 1).trans rfl;have hcz10_2:w4.cell? ⟨gb151,2,none⟩=some (.int .i64 0):=(blk_cell BK151.out 2).trans rfl;have hfz10_0:=fZ3_ BK151.out 0;have hfz10_1:=fZ3_ BK151.out 1;have hfz10_2:=fZ3_ BK151.out 2))
  refine bodyPost_ret (results_cell_row rfl _ _ gb151 37 #[.int .i64 a0_0,.int .i64 a0_1,.int .i64 a0_2] (0,0) _ rfl (by (with_reducible repeat (first|refine kN3_ ?_ _|refine kD3_ ?_|refine kA3_ ?_ _));refine blk_put (cs:=#[.int .i64 a0_0,.int .i64 a0_1,.int .i64 0]) ?_ 2 _ rfl;(with_reducible repeat (first|refine kN3_ ?_ _|refine kD3_ ?_|refine kA3_ ?_ _));refine blk_put (cs:=#[.int .i64 a0_0,.int .i64 0,.int .i64 0]) ?_ 1 _ rfl;(with_reducible repeat (first|refine kN3_ ?_ _|refine kD3_ ?_|refine kA3_ ?_ _));refine blk_put (cs:=#[.int .i64 0,.int .i64 0,.int .i64 0]) ?_ 0 _ rfl;(with_reducible repeat (first|refine kN3_ ?_ _|refine kD3_ ?_|refine kA3_ ?_ _));refine blk_far ?_ NB151_152.out _;(with_reducible repeat (first|refine kN3_ ?_ _|refine kD3_ ?_|refine kA3_ ?_ _));refine blk_far ?_ NB151_152.out _;(with_reducible repeat (first|refine kN3_ ?_ _|refine kD3_ ?_|refine kA3_ ?_ _));refine blk_far ?_ NB151_152.out _;(with_reducible repeat (first|refine kN3_ ?_ _|refine kD3_ ?_|refine kA3_ ?_ _));exact BK151.out) Try.underlying37 rfl (by kernel_rfl)) rfl ?_
  exact ⟨by first|rfl|(simp [errW_none,errW_some] <;> rfl)|(simp [*,errW_none,errW_some] <;> rfl),by repeat (first|(with_reducible first|exact HB.out|apply bA3_|apply bN3_|apply bD3_|refine bS3_ ?_ GE150.out|refine bS3_ ?_ GE151.out|refine bS3_ ?_ GE152.out)|exact HB.out)⟩

def spec_l00In.f (a0:Int) (a1:Int) (a2:Int):Option (Bool):=if a0 ≥ a1 then (some (decide (a0≤a2))) else (some false)
set_option maxHeartbeats 8000000 in
set_option maxRecDepth 100000 in
theorem spec_l00In.calls (a0:Int) (a1:Int) (a2:Int) (r:Bool) (w:World) (h:spec_l00In.f a0 a1 a2=some r) :
    Calls Try.prog 74 #[.int .i64 a0,.int .i64 a1,.int .i64 a2] w fun e w'=>e=.returned (.bool r)∧Drawn0 w w':=by
  have H : (if a0 ≥ a1 then (some (decide (a0 ≤ a2))) else (some false)) = some r := h
  clear h
  by_cases c4 : a0 ≥ a1
  · rw [if_pos c4] at H
    have c4b0 : decide (a1 ≤ a0) = true := decide_eq_true c4
    clear c4
    obtain rfl := Option.some.inj H
    go_enter Try.func74, Try.ntmps74
    go_wp2
    go_ret
    exact ⟨by first|rfl|(simp;done)|(simp [*];done),by repeat (first|exact Drawn0.refl _|apply Drawn0.step)⟩
  · rw [if_neg c4] at H
    have c4b0 : decide (a1 ≤ a0) = false := decide_eq_false c4
    clear c4
    obtain rfl := Option.some.inj H
    go_enter Try.func74, Try.ntmps74
    go_wp2
    go_ret
    exact ⟨by first|rfl|(simp;done)|(simp [*];done),by repeat (first|exact Drawn0.refl _|apply Drawn0.step)⟩

def spec_ValidGeometry.f (a0_0:Int) (a0_1:Int) (a0_2:Int):Option (Bool):=(spec_l00In.f a0_0 2 3).bind fun t154=>(if t154=true then ((spec_l00In.f a0_1 4 12).bind fun t155=>(if t155=true then (if a0_2=8 then (some true) else (some (a0_2 == 16))) else (some false))) else (some false))
set_option maxHeartbeats 8000000 in
set_option maxRecDepth 100000 in
theorem spec_ValidGeometry.calls (a0_0:Int) (a0_1:Int) (a0_2:Int) (r:Bool) (w:World) (h:spec_ValidGeometry.f a0_0 a0_1 a0_2=some r) :
    Calls Try.prog 93 #[.agg #[.int .i64 a0_0,.int .i64 a0_1,.int .i64 a0_2]] w fun e w'=>e=.returned (.bool r)∧Below w.heap.size w w':=by
  have hu37 := Try.underlying37
  have HB := Aside0.mk (Below.refl w.heap.size w)
  have H:((spec_l00In.f a0_0 2 3).bind fun t154=>(if t154=true then ((spec_l00In.f a0_1 4 12).bind fun t155=>(if t155=true then (if a0_2=8 then (some true) else (some (a0_2 == 16))) else (some false))) else (some false)))=some r:=h
  clear h
  replace H := Option.bind_eq_some_iff.mp H
  obtain ⟨t154, A20, H⟩ := H
  replace H:(if t154=true then ((spec_l00In.f a0_1 4 12).bind fun t155=>(if t155=true then (if a0_2=8 then (some true) else (some (a0_2 == 16))) else (some false))) else (some false))=some r:=H
  have A2 := Aside0.mk A20
  clear A20
  by_cases c3 : t154 = true
  · subst c3
    have H1:((spec_l00In.f a0_1 4 12).bind fun t155=>(if t155=true then (if a0_2=8 then (some true) else (some (a0_2 == 16))) else (some false)))=some r:=by rw [if_pos rfl] at H;exact H
    clear H
    have H := H1
    clear H1
    replace H := Option.bind_eq_some_iff.mp H
    obtain ⟨t155, A40, H⟩ := H
    replace H:(if t155=true then (if a0_2=8 then (some true) else (some (a0_2 == 16))) else (some false))=some r:=H
    have A4 := Aside0.mk A40
    clear A40
    by_cases c5 : t155 = true
    · subst c5
      have H1:(if a0_2=8 then (some true) else (some (a0_2 == 16)))=some r:=by rw [if_pos rfl] at H;exact H
      clear H
      have H := H1
      clear H1
      by_cases c6 : a0_2 = 8
      · rw [if_pos c6] at H
        have c6b0 : (a0_2 == 8) = true := beq_iff_eq.mpr c6
        have c6b1 : (a0_2 != 8) = false := bne_eq_false_iff_eq.mpr c6
        clear c6
        obtain rfl := Option.some.inj H
        go_enter Try.func93, Try.ntmps93
        go_wp2_with (first|((with_reducible refine gate_dst (N:=1) rfl ?_);refine box_event ?hg (N:=1) ?hd (cs:=#[.int .i64 a0_0,.int .i64 a0_1,.int .i64 a0_2]) (t:=37) ?hr ?_;(case hd=>rfl);(case hg=>rfl);(case hr=>first|(go_simp;done)|(go_simp;rfl));intro gb153 hg w7 hbox hb;have n0_:=mk3_ (bT3_ (by repeat (first|(with_reducible first|exact HB.out|apply bA3_|apply bN3_|apply bD3_)|exact HB.out)) hb);have n1_:=mk3_ (hbox);have n2_:=mk3_ ((by rw [hg];exact (bZ3_ (by repeat (first|(with_reducible first|exact HB.out|apply bA3_|apply bN3_|apply bD3_)|exact HB.out))):w.heap.size≤gb153));have n3_:=mk3_ ((by rw [hg];exact (bZ3_ (by repeat (first|(with_reducible first|exact HB.out|apply bA3_|apply bN3_|apply bD3_)|exact HB.out))):w.heap.size≤gb153));clear HB;have HB:=n0_;have BK153:=n1_;have GW153:=n2_;have GE153:=n3_;clear n0_ n1_ n2_ n3_;clear hb hbox hg;have hcz8_0:w7.cell? ⟨gb153,0,none⟩=some (.int .i64 a0_0):=(blk_cell BK153.out 0).trans rfl;have hcz8_1:w7.cell? ⟨gb153,1,none⟩=some (.int .i64 a0_1):=(blk_cell BK153.out 1).trans rfl;have hcz8_2:w7.cell? ⟨gb153,2,none⟩=some (.int .i64 a0_2):=(blk_cell BK153.out 2).trans rfl;have hfz8_0:=fZ3_ BK153.out 0;have hfz8_1:=fZ3_ BK153.out 1;have hfz8_2:=fZ3_ BK153.out 2)|((with_reducible refine gate_callee (f:=74) rfl ?_);refine goesL_ (some 5) rfl rfl Try.func74 (by kernel_rfl) rfl #[.int .i64 a0_0,.int .i64 2,.int .i64 3] rfl (by (try simp only [List.map_toArray,List.map_cons,List.map_nil]);first|done|rfl|(simp only [List.length_drop,List.length_take];rfl)) ?_;(with_reducible refine (spec_l00In.calls a0_0 2 3 true _ A2.out).mono ?_);rintro e w' ⟨rfl,⟨nd,rfl⟩⟩;refine ⟨_,rfl,?_⟩)|(go_at_call 74;(with_reducible refine (spec_l00In.calls a0_1 4 12 true _ A4.out).mono ?_);rintro e w' ⟨rfl,⟨nd,rfl⟩⟩))
        go_ret
        exact ⟨by first|rfl|(simp [errW_none,errW_some] <;> rfl)|(simp [*,errW_none,errW_some] <;> rfl),by repeat (first|(with_reducible first|exact HB.out|apply bA3_|apply bN3_|apply bD3_|refine bS3_ ?_ GE153.out)|exact HB.out)⟩
      · rw [if_neg c6] at H
        have c6b0 : (a0_2 == 8) = false := beq_eq_false_iff_ne.mpr c6
        have c6b1 : (a0_2 != 8) = true := bne_iff_ne.mpr c6
        obtain rfl := Option.some.inj H
        go_enter Try.func93, Try.ntmps93
        go_wp2_with (first|((with_reducible refine gate_dst (N:=1) rfl ?_);refine box_event ?hg (N:=1) ?hd (cs:=#[.int .i64 a0_0,.int .i64 a0_1,.int .i64 a0_2]) (t:=37) ?hr ?_;(case hd=>rfl);(case hg=>rfl);(case hr=>first|(go_simp;done)|(go_simp;rfl));intro gb153 hg w9 hbox hb;have n0_:=mk3_ (bT3_ (by repeat (first|(with_reducible first|exact HB.out|apply bA3_|apply bN3_|apply bD3_)|exact HB.out)) hb);have n1_:=mk3_ (hbox);have n2_:=mk3_ ((by rw [hg];exact (bZ3_ (by repeat (first|(with_reducible first|exact HB.out|apply bA3_|apply bN3_|apply bD3_)|exact HB.out))):w.heap.size≤gb153));have n3_:=mk3_ ((by rw [hg];exact (bZ3_ (by repeat (first|(with_reducible first|exact HB.out|apply bA3_|apply bN3_|apply bD3_)|exact HB.out))):w.heap.size≤gb153));clear HB;have HB:=n0_;have BK153:=n1_;have GW153:=n2_;have GE153:=n3_;clear n0_ n1_ n2_ n3_;clear hb hbox hg;have hcz10_0:w9.cell? ⟨gb153,0,none⟩=some (.int .i64 a0_0):=(blk_cell BK153.out 0).trans rfl;have hcz10_1:w9.cell? ⟨gb153,1,none⟩=some (.int .i64 a0_1):=(blk_cell BK153.out 1).trans rfl;have hcz10_2:w9.cell? ⟨gb153,2,none⟩=some (.int .i64 a0_2):=(blk_cell BK153.out 2).trans rfl;have hfz10_0:=fZ3_ BK153.out 0;have hfz10_1:=fZ3_ BK153.out 1;have hfz10_2:=fZ3_ BK153.out 2)|((with_reducible refine gate_callee (f:=74) rfl ?_);refine goesL_ (some 5) rfl rfl Try.func74 (by kernel_rfl) rfl #[.int .i64 a0_0,.int .i64 2,.int .i64 3] rfl (by (try simp only [List.map_toArray,List.map_cons,List.map_nil]);first|done|rfl|(simp only [List.length_drop,List.length_take];rfl)) ?_;(with_reducible refine (spec_l00In.calls a0_0 2 3 true _ A2.out).mono ?_);rintro e w' ⟨rfl,⟨nd,rfl⟩⟩;refine ⟨_,rfl,?_⟩)|(go_at_call 74;(with_reducible refine (spec_l00In.calls a0_1 4 12 true _ A4.out).mono ?_);rintro e w' ⟨rfl,⟨nd,rfl⟩⟩))
        go_ret
        exact ⟨by first|rfl|(simp [errW_none,errW_some] <;> rfl)|(simp [*,errW_none,errW_some] <;> rfl),by repeat (first|(with_reducible first|exact HB.out|apply bA3_|apply bN3_|apply bD3_|refine bS3_ ?_ GE153.out)|exact HB.out)⟩
    · replace c5 := Bool.eq_false_iff.mpr c5
      subst c5
      have H1:(some false)=some r:=by rw [if_neg (show ¬ (false=true) by decide)] at H;exact H
      clear H
      have H := H1
      clear H1
      obtain rfl := Option.some.inj H
      go_enter Try.func93, Try.ntmps93
      go_wp2_with (first|((with_reducible refine gate_dst (N:=1) rfl ?_);refine box_event ?hg (N:=1) ?hd (cs:=#[.int .i64 a0_0,.int .i64 a0_1,.int .i64 a0_2]) (t:=37) ?hr ?_;(case hd=>rfl);(case hg=>rfl);(case hr=>first|(go_simp;done)|(go_simp;rfl));intro gb153 hg w11 hbox hb;have n0_:=mk3_ (bT3_ (by repeat (first|(with_reducible first|exact HB.out|apply bA3_|apply bN3_|apply bD3_)|exact HB.out)) hb);have n1_:=mk3_ (hbox);have n2_:=mk3_ ((by rw [hg];exact (bZ3_ (by repeat (first|(with_reducible first|exact HB.out|apply bA3_|apply bN3_|apply bD3_)|exact HB.out))):w.heap.size≤gb153));have n3_:=mk3_ ((by rw [hg];exact (bZ3_ (by repeat (first|(with_reducible first|exact HB.out|apply bA3_|apply bN3_|apply bD3_)|exact HB.out))):w.heap.size≤gb153));clear HB;have HB:=n0_;have BK153:=n1_;have GW153:=n2_;have GE153:=n3_;clear n0_ n1_ n2_ n3_;clear hb hbox hg;have hcz12_0:w11.cell? ⟨gb153,0,none⟩=some (.int .i64 a0_0):=(blk_cell BK153.out 0).trans rfl;have hcz12_1:w11.cell? ⟨gb153,1,none⟩=some (.int .i64 a0_1):=(blk_cell BK153.out 1).trans rfl;have hcz12_2:w11.cell? ⟨gb153,2,none⟩=some (.int .i64 a0_2):=(blk_cell BK153.out 2).trans rfl;have hfz12_0:=fZ3_ BK153.out 0;have hfz12_1:=fZ3_ BK153.out 1;have hfz12_2:=fZ3_ BK153.out 2)|((with_reducible refine gate_callee (f:=74) rfl ?_);refine goesL_ (some 5) rfl rfl Try.func74 (by kernel_rfl) rfl #[.int .i64 a0_0,.int .i64 2,.int .i64 3] rfl (by (try simp only [List.map_toArray,List.map_cons,List.map_nil]);first|done|rfl|(simp only [List.length_drop,List.length_take];rfl)) ?_;(with_reducible refine (spec_l00In.calls a0_0 2 3 true _ A2.out).mono ?_);rintro e w' ⟨rfl,⟨nd,rfl⟩⟩;refine ⟨_,rfl,?_⟩)|(go_at_call 74;(with_reducible refine (spec_l00In.calls a0_1 4 12 false _ A4.out).mono ?_);rintro e w' ⟨rfl,⟨nd,rfl⟩⟩))
      go_ret
      exact ⟨by first|rfl|(simp [errW_none,errW_some] <;> rfl)|(simp [*,errW_none,errW_some] <;> rfl),by repeat (first|(with_reducible first|exact HB.out|apply bA3_|apply bN3_|apply bD3_|refine bS3_ ?_ GE153.out)|exact HB.out)⟩
  · replace c3 := Bool.eq_false_iff.mpr c3
    subst c3
    have H1:(some false)=some r:=by rw [if_neg (show ¬ (false=true) by decide)] at H;exact H
    clear H
    have H := H1
    clear H1
    obtain rfl := Option.some.inj H
    go_enter Try.func93, Try.ntmps93
    go_wp2_with (first|((with_reducible refine gate_dst (N:=1) rfl ?_);refine box_event ?hg (N:=1) ?hd (cs:=#[.int .i64 a0_0,.int .i64 a0_1,.int .i64 a0_2]) (t:=37) ?hr ?_;(case hd=>rfl);(case hg=>rfl);(case hr=>first|(go_simp;done)|(go_simp;rfl));intro gb153 hg w13 hbox hb;have n0_:=mk3_ (bT3_ (by repeat (first|(with_reducible first|exact HB.out|apply bA3_|apply bN3_|apply bD3_)|exact HB.out)) hb);have n1_:=mk3_ (hbox);have n2_:=mk3_ ((by rw [hg];exact (bZ3_ (by repeat (first|(with_reducible first|exact HB.out|apply bA3_|apply bN3_|apply bD3_)|exact HB.out))):w.heap.size≤gb153));have n3_:=mk3_ ((by rw [hg];exact (bZ3_ (by repeat (first|(with_reducible first|exact HB.out|apply bA3_|apply bN3_|apply bD3_)|exact HB.out))):w.heap.size≤gb153));clear HB;have HB:=n0_;have BK153:=n1_;have GW153:=n2_;have GE153:=n3_;clear n0_ n1_ n2_ n3_;clear hb hbox hg;have hcz14_0:w13.cell? ⟨gb153,0,none⟩=some (.int .i64 a0_0):=(blk_cell BK153.out 0).trans rfl;have hcz14_1:w13.cell? ⟨gb153,1,none⟩=some (.int .i64 a0_1):=(blk_cell BK153.out 1).trans rfl;have hcz14_2:w13.cell? ⟨gb153,2,none⟩=some (.int .i64 a0_2):=(blk_cell BK153.out 2).trans rfl;have hfz14_0:=fZ3_ BK153.out 0;have hfz14_1:=fZ3_ BK153.out 1;have hfz14_2:=fZ3_ BK153.out 2)|((with_reducible refine gate_callee (f:=74) rfl ?_);refine goesL_ (some 5) rfl rfl Try.func74 (by kernel_rfl) rfl #[.int .i64 a0_0,.int .i64 2,.int .i64 3] rfl (by (try simp only [List.map_toArray,List.map_cons,List.map_nil]);first|done|rfl|(simp only [List.length_drop,List.length_take];rfl)) ?_;(with_reducible refine (spec_l00In.calls a0_0 2 3 false _ A2.out).mono ?_);rintro e w' ⟨rfl,⟨nd,rfl⟩⟩;refine ⟨_,rfl,?_⟩))
    go_ret
    exact ⟨by first|rfl|(simp [errW_none,errW_some] <;> rfl)|(simp [*,errW_none,errW_some] <;> rfl),by repeat (first|(with_reducible first|exact HB.out|apply bA3_|apply bN3_|apply bD3_|refine bS3_ ?_ GE153.out)|exact HB.out)⟩

def spec_l06New.l0:Nat→Int→Int→Int→Int→Int→Int→Int→List (S120)→Int→Int→Bool→Int→Option (Int × Int × Int × (List (S120)) × Int × Int × Bool × Int)
  | 0, _, _, _, _, _, _, _, _, _, _, _, _ => none
  | k+1,x4,x157000,x157001,x157002,x159000,x159001,x159002,x159003,x159004,x159005,x159006,x159007=>if x4 < (wrap64 (x157000 * x157001)) then (if 0≤x157002 then (if (x157002:Int).toNat≤17592186044416 then (if x159003.length < 2932031007402 then (spec_l06New.l0 k (wrap64 (x4+1)) x157000 x157001 x157002 x159000 x159001 x159002 (x159003 ++ [(⟨0,0,false,(List.replicate (x157002:Int).toNat (⟨#[]⟩:ByteArray))⟩:S120)]) x159004 x159005 x159006 x159007) else (none)) else (none)) else (none)) else (some (x159000,x159001,x159002,x159003,x159004,x159005,x159006,x159007))
def spec_l06New.f (k:Nat) (a0_0:Int) (a0_1:Int) (a0_2:Int):Option (Int × Int × Int × (List (S120)) × Int × Int × Bool × Int):=spec_l06New.l0 k 0 a0_0 a0_1 a0_2 a0_0 a0_1 a0_2 ([]:List (S120)) (-1) 0 false 0
def spec_l06New.T5:Bool × List (List Nat × List Nat):=(true,[([],[]),([0],[0]),([],[]),([2],[2]),([3,3],[3]),([4],[4]),([5],[5]),([1,6],[1,6]),([0,1,2,3,4,5,6,7],[]),([8,7,7,0,1,2,3,4,5,6,7],[7,8])])
def spec_l06New.B5 : List Nat := [0, 1, 0, 4, 12, 28, 60, 127, 255, 511]
theorem spec_l06New.tab5 : rtab .any (opsOf Try.f95 5) = spec_l06New.T5 := by kernel_rfl
theorem spec_l06New.bits5 : waitsOk spec_l06New.T5.2 spec_l06New.B5 = true := by kernel_rfl
set_option maxHeartbeats 8000000 in
set_option maxRecDepth 100000 in
theorem spec_l06New.calls (k:Nat) (a0_0:Int) (a0_1:Int) (a0_2:Int) (r1:Int) (r2:Int) (r3:Int) (r4:List (S120)) (r5:Int) (r6:Int) (r7:Bool) (r8:Int) (w:World) (h:spec_l06New.f k a0_0 a0_1 a0_2=some (r1,r2,r3,r4,r5,r6,r7,r8)) :
    Calls Try.prog 95 #[.agg #[.int .i64 a0_0,.int .i64 a0_1,.int .i64 a0_2]] w fun e w'=>∃ v3_:Value,e=.returned (.agg #[.int .i64 r1,.int .i64 r2,.int .i64 r3,v3_,.int .i64 r5,.int .i64 r6,.bool r7,.int .i64 r8])∧Kd.S k120 120 w' w.heap.size (fun _=>True) v3_ r4∧Below w.heap.size w w':=by
  have hu37 := Try.underlying37
  have hu40 := Try.underlying40
  have hu120 := Try.underlying120
  have HB := Aside0.mk (Below.refl w.heap.size w)
  have H:(spec_l06New.l0 k 0 a0_0 a0_1 a0_2 a0_0 a0_1 a0_2 ([]:List (S120)) (-1) 0 false 0)=some (r1,r2,r3,r4,r5,r6,r7,r8):=h
  clear h
  have H' := Aside0.mk H
  clear H
  go_enter Try.func95, Try.ntmps95
  go_wp2_with (first|((with_reducible refine gate_dst (N:=1) rfl ?_);refine box_event ?hg (N:=1) ?hd (cs:=#[.int .i64 a0_0,.int .i64 a0_1,.int .i64 a0_2]) (t:=37) ?hr ?_;(case hd=>rfl);(case hg=>rfl);(case hr=>first|(go_simp;done)|(go_simp;rfl));intro gb156 hg w2 hbox hb;have n0_:=mk3_ (bT3_ (by repeat (first|(with_reducible first|exact HB.out|apply bA3_|apply bN3_|apply bD3_)|exact HB.out)) hb);have n1_:=mk3_ (hbox);have n2_:=mk3_ ((by rw [hg];exact (bZ3_ (by repeat (first|(with_reducible first|exact HB.out|apply bA3_|apply bN3_|apply bD3_)|exact HB.out))):w.heap.size≤gb156));have n3_:=mk3_ ((by rw [hg];exact (bZ3_ (by repeat (first|(with_reducible first|exact HB.out|apply bA3_|apply bN3_|apply bD3_)|exact HB.out))):w.heap.size≤gb156));clear HB;have HB:=n0_;have BK156:=n1_;have GW156:=n2_;have GE156:=n3_;clear n0_ n1_ n2_ n3_;clear hb hbox hg)|((with_reducible refine gate_dst (N:=2) rfl ?_);refine box_event ?hg (N:=2) ?hd (cs:=#[.int .i64 0,.int .i64 0,.int .i64 0,.slice none 0 0,.int .i64 0,.int .i64 0,.bool false,.int .i64 0]) (t:=40) ?hr ?_;(case hd=>rfl);(case hg=>rfl);(case hr=>first|(go_simp;done)|(go_simp;rfl));intro gb157 hg w3 hbox hb;have n0_:=mk3_ (blk_below (g:=gb156) (o:=.cells #[.int .i64 a0_0,.int .i64 a0_1,.int .i64 a0_2] 37 (0,0)) (by (with_reducible repeat (first|refine kN3_ ?_ _|refine kD3_ ?_|refine kA3_ ?_ _));exact BK156.out) hb);have n1_:=mk3_ (bT3_ (by repeat (first|(with_reducible first|exact HB.out|apply bA3_|apply bN3_|apply bD3_|refine bS3_ ?_ GE156.out)|exact HB.out)) hb);have n2_:=mk3_ (hbox);have n3_:=mk3_ ((by rw [hg];exact (bZ3_ (by repeat (first|(with_reducible first|exact HB.out|apply bA3_|apply bN3_|apply bD3_|refine bS3_ ?_ GE156.out)|exact HB.out))):w.heap.size≤gb157));have n4_:=mk3_ ((by rw [hg];exact (bZ3_ (by repeat (first|(with_reducible first|exact HB.out|apply bA3_|apply bN3_|apply bD3_|refine bS3_ ?_ GE156.out)|exact HB.out))):w.heap.size≤gb157));have n5_:=mk3_ ((by rw [hg];exact Nat.ne_of_lt (blk_lt (g:=gb156) (o:=.cells #[.int .i64 a0_0,.int .i64 a0_1,.int .i64 a0_2] 37 (0,0)) (by (with_reducible repeat (first|refine kN3_ ?_ _|refine kD3_ ?_|refine kA3_ ?_ _));exact BK156.out)):gb156≠gb157));have n6_:=mk3_ ((by rw [hg];exact Nat.ne_of_gt (blk_lt (g:=gb156) (o:=.cells #[.int .i64 a0_0,.int .i64 a0_1,.int .i64 a0_2] 37 (0,0)) (by (with_reducible repeat (first|refine kN3_ ?_ _|refine kD3_ ?_|refine kA3_ ?_ _));exact BK156.out)):gb157≠gb156));clear BK156;clear HB;have BK156:=n0_;have HB:=n1_;have BK157:=n2_;have GW157:=n3_;have GE157:=n4_;have NB156_157:=n5_;have NB157_156:=n6_;clear n0_ n1_ n2_ n3_ n4_ n5_ n6_;clear hb hbox hg;have hnb4:=NB156_157.out;have hnc4:=NB157_156.out;have hcz5_0:w3.cell? ⟨gb156,0,none⟩=some (.int .i64 a0_0):=(blk_cell BK156.out 0).trans rfl;have hcz5_1:w3.cell? ⟨gb156,1,none⟩=some (.int .i64 a0_1):=(blk_cell BK156.out 1).trans rfl;have hcz5_2:w3.cell? ⟨gb156,2,none⟩=some (.int .i64 a0_2):=(blk_cell BK156.out 2).trans rfl;have hfz5_0:=fZ3_ BK156.out 0;have hfz5_1:=fZ3_ BK156.out 1;have hfz5_2:=fZ3_ BK156.out 2)|((with_reducible refine gate_dst (N:=3) rfl ?_);refine box_event ?hg (N:=3) ?hd (cs:=#[.int .i64 0,.int .i64 0,.int .i64 0,.slice none 0 0,.int .i64 0,.int .i64 0,.bool false,.int .i64 0]) (t:=40) ?hr ?_;(case hd=>rfl);(case hg=>rfl);(case hr=>first|(go_simp;done)|(go_simp;rfl));intro gb158 hg w6 hbox hb;have n0_:=mk3_ (blk_below (g:=gb156) (o:=.cells #[.int .i64 a0_0,.int .i64 a0_1,.int .i64 a0_2] 37 (0,0)) (by (with_reducible repeat (first|refine kN3_ ?_ _|refine kD3_ ?_|refine kA3_ ?_ _));exact BK156.out) hb);have n1_:=mk3_ (blk_below (g:=gb157) (o:=.cells #[.int .i64 0,.int .i64 0,.int .i64 0,.slice none 0 0,.int .i64 0,.int .i64 0,.bool false,.int .i64 0] 40 (0,0)) (by (with_reducible repeat (first|refine kN3_ ?_ _|refine kD3_ ?_|refine kA3_ ?_ _));exact BK157.out) hb);have n2_:=mk3_ (bT3_ (by repeat (first|(with_reducible first|exact HB.out|apply bA3_|apply bN3_|apply bD3_|refine bS3_ ?_ GE156.out|refine bS3_ ?_ GE157.out)|exact HB.out)) hb);have n3_:=mk3_ (hbox);have n4_:=mk3_ ((by rw [hg];exact (bZ3_ (by repeat (first|(with_reducible first|exact HB.out|apply bA3_|apply bN3_|apply bD3_|refine bS3_ ?_ GE156.out|refine bS3_ ?_ GE157.out)|exact HB.out))):w.heap.size≤gb158));have n5_:=mk3_ ((by rw [hg];exact (bZ3_ (by repeat (first|(with_reducible first|exact HB.out|apply bA3_|apply bN3_|apply bD3_|refine bS3_ ?_ GE156.out|refine bS3_ ?_ GE157.out)|exact HB.out))):w.heap.size≤gb158));have n6_:=mk3_ ((by rw [hg];exact Nat.ne_of_lt (blk_lt (g:=gb156) (o:=.cells #[.int .i64 a0_0,.int .i64 a0_1,.int .i64 a0_2] 37 (0,0)) (by (with_reducible repeat (first|refine kN3_ ?_ _|refine kD3_ ?_|refine kA3_ ?_ _));exact BK156.out)):gb156≠gb158));have n7_:=mk3_ ((by rw [hg];exact Nat.ne_of_gt (blk_lt (g:=gb156) (o:=.cells #[.int .i64 a0_0,.int .i64 a0_1,.int .i64 a0_2] 37 (0,0)) (by (with_reducible repeat (first|refine kN3_ ?_ _|refine kD3_ ?_|refine kA3_ ?_ _));exact BK156.out)):gb158≠gb156));have n8_:=mk3_ ((by rw [hg];exact Nat.ne_of_lt (blk_lt (g:=gb157) (o:=.cells #[.int .i64 0,.int .i64 0,.int .i64 0,.slice none 0 0,.int .i64 0,.int .i64 0,.bool false,.int .i64 0] 40 (0,0)) (by (with_reducible repeat (first|refine kN3_ ?_ _|refine kD3_ ?_|refine kA3_ ?_ _));exact BK157.out)):gb157≠gb158));have n9_:=mk3_ ((by rw [hg];exact Nat.ne_of_gt (blk_lt (g:=gb157) (o:=.cells #[.int .i64 0,.int .i64 0,.int .i64 0,.slice none 0 0,.int .i64 0,.int .i64 0,.bool false,.int .i64 0] 40 (0,0)) (by (with_reducible repeat (first|refine kN3_ ?_ _|refine kD3_ ?_|refine kA3_ ?_ _));exact BK157.out)):gb158≠gb157));clear BK156;clear BK157;clear HB;have BK156:=n0_;have BK157:=n1_;have HB:=n2_;have BK158:=n3_;have GW158:=n4_;have GE158:=n5_;have NB156_158:=n6_;have NB158_156:=n7_;have NB157_158:=n8_;have NB158_157:=n9_;clear n0_ n1_ n2_ n3_ n4_ n5_ n6_ n7_ n8_ n9_;clear hb hbox hg;have hnb7:=NB158_156.out;have hnc7:=NB156_158.out;have hnb8:=NB158_157.out;have hnc8:=NB157_158.out;have hcz9_0:w6.cell? ⟨gb158,0,none⟩=some (.int .i64 0):=(blk_cell BK158.out 0).trans rfl;have hcz9_1:w6.cell? ⟨gb158,1,none⟩=some (.int .i64 0):=(blk_cell BK158.out 1).trans rfl;have hcz9_2:w6.cell? ⟨gb158,2,none⟩=some (.int .i64 0):=(blk_cell BK158.out 2).trans rfl;have hcz9_3:w6.cell? ⟨gb158,3,none⟩=some (.slice none 0 0):=(blk_cell BK158.out 3).trans rfl;have hcz9_4:w6.cell? ⟨gb158,4,none⟩=some (.int .i64 0):=(blk_cell BK158.out 4).trans rfl;have hcz9_5:w6.cell? ⟨gb158,5,none⟩=some (.int .i64 0):=(blk_cell BK158.out 5).trans rfl;have hcz9_6:w6.cell? ⟨gb158,6,none⟩=some (.bool false):=(blk_cell BK158.out 6).trans rfl;have hcz9_7:w6.cell? ⟨gb158,7,none⟩=some (.int .i64 0):=(blk_cell BK158.out 7).trans rfl;have hfz9_0:=fZ3_ BK158.out 0;have hfz9_1:=fZ3_ BK158.out 1;have hfz9_2:=fZ3_ BK158.out 2;have hfz9_3:=fZ3_ BK158.out 3;have hfz9_4:=fZ3_ BK158.out 4;have hfz9_5:=fZ3_ BK158.out 5;have hfz9_6:=fZ3_ BK158.out 6;have hfz9_7:=fZ3_ BK158.out 7))
  go_loopg [4] k (fun kq v4 w'=>∃ (x4_1:Int) (x159003_1:List (S120)) (u159003:Value),v4=.int .i64 x4_1∧Aside0 (spec_l06New.l0 kq x4_1 a0_0 a0_1 a0_2 a0_0 a0_1 a0_2 x159003_1 (-1) 0 false 0=some (r1,r2,r3,r4,r5,r6,r7,r8))∧Aside0 (kq≤k)∧Aside0 (Kd.S k120 120 w' w.heap.size (fun _=>True) u159003 x159003_1)∧Aside0 (w'.heap[gb156]?=some (.cells #[.int .i64 a0_0,.int .i64 a0_1,.int .i64 a0_2] 37 (0,0)))∧Aside0 (w'.heap[gb157]?=some (.cells #[.int .i64 0,.int .i64 0,.int .i64 0,(.slice none 0 0),.int .i64 0,.int .i64 0,.bool false,.int .i64 0] 40 (0,0)))∧Aside0 (w'.heap[gb158]?=some (.cells #[.int .i64 a0_0,.int .i64 a0_1,.int .i64 a0_2,u159003,.int .i64 (-1),.int .i64 0,.bool false,.int .i64 0] 40 (0,0)))∧Aside0 (Below w.heap.size w w'))
  case atStart=>exact ⟨(0),(([]:List (S120))),(.slice none 0 0),(by first|rfl|(simp;done)|(simp [*];done)),H',⟨Nat.le_refl _⟩,⟨by first|exact Kd.S_nil _ _ _ _ _|exact Kd.N_nil _ _ _ _ _|exact Kd.V_nil _ _ _ _ _|exact Kd.Q_nil _ _ _ _ _|exact Kd.R_nil _ _ _ _ _⟩,⟨by (with_reducible repeat (first|refine kN3_ ?_ _|refine kD3_ ?_|refine kA3_ ?_ _));refine blk_far ?_ NB156_158.out _;(with_reducible repeat (first|refine kN3_ ?_ _|refine kD3_ ?_|refine kA3_ ?_ _));refine blk_far ?_ NB156_158.out _;(with_reducible repeat (first|refine kN3_ ?_ _|refine kD3_ ?_|refine kA3_ ?_ _));refine blk_far ?_ NB156_158.out _;(with_reducible repeat (first|refine kN3_ ?_ _|refine kD3_ ?_|refine kA3_ ?_ _));refine blk_far ?_ NB156_158.out _;(with_reducible repeat (first|refine kN3_ ?_ _|refine kD3_ ?_|refine kA3_ ?_ _));refine blk_far ?_ NB156_158.out _;(with_reducible repeat (first|refine kN3_ ?_ _|refine kD3_ ?_|refine kA3_ ?_ _));refine blk_far ?_ NB156_158.out _;(with_reducible repeat (first|refine kN3_ ?_ _|refine kD3_ ?_|refine kA3_ ?_ _));refine blk_far ?_ NB156_158.out _;(with_reducible repeat (first|refine kN3_ ?_ _|refine kD3_ ?_|refine kA3_ ?_ _));refine blk_far ?_ NB156_158.out _;(with_reducible repeat (first|refine kN3_ ?_ _|refine kD3_ ?_|refine kA3_ ?_ _));exact BK156.out⟩,⟨by (with_reducible repeat (first|refine kN3_ ?_ _|refine kD3_ ?_|refine kA3_ ?_ _));refine blk_far ?_ NB157_158.out _;(with_reducible repeat (first|refine kN3_ ?_ _|refine kD3_ ?_|refine kA3_ ?_ _));refine blk_far ?_ NB157_158.out _;(with_reducible repeat (first|refine kN3_ ?_ _|refine kD3_ ?_|refine kA3_ ?_ _));refine blk_far ?_ NB157_158.out _;(with_reducible repeat (first|refine kN3_ ?_ _|refine kD3_ ?_|refine kA3_ ?_ _));refine blk_far ?_ NB157_158.out _;(with_reducible repeat (first|refine kN3_ ?_ _|refine kD3_ ?_|refine kA3_ ?_ _));refine blk_far ?_ NB157_158.out _;(with_reducible repeat (first|refine kN3_ ?_ _|refine kD3_ ?_|refine kA3_ ?_ _));refine blk_far ?_ NB157_158.out _;(with_reducible repeat (first|refine kN3_ ?_ _|refine kD3_ ?_|refine kA3_ ?_ _));refine blk_far ?_ NB157_158.out _;(with_reducible repeat (first|refine kN3_ ?_ _|refine kD3_ ?_|refine kA3_ ?_ _));refine blk_far ?_ NB157_158.out _;(with_reducible repeat (first|refine kN3_ ?_ _|refine kD3_ ?_|refine kA3_ ?_ _));exact BK157.out⟩,⟨by (with_reducible repeat (first|refine kN3_ ?_ _|refine kD3_ ?_|refine kA3_ ?_ _));refine blk_put (cs:=#[.int .i64 a0_0,.int .i64 a0_1,.int .i64 a0_2,.slice none 0 0,.int .i64 (-1),.int .i64 0,.bool false,.int .i64 0]) ?_ 7 _ rfl;(with_reducible repeat (first|refine kN3_ ?_ _|refine kD3_ ?_|refine kA3_ ?_ _));refine blk_put (cs:=#[.int .i64 a0_0,.int .i64 a0_1,.int .i64 a0_2,.slice none 0 0,.int .i64 (-1),.int .i64 0,.bool false,.int .i64 0]) ?_ 6 _ rfl;(with_reducible repeat (first|refine kN3_ ?_ _|refine kD3_ ?_|refine kA3_ ?_ _));refine blk_put (cs:=#[.int .i64 a0_0,.int .i64 a0_1,.int .i64 a0_2,.slice none 0 0,.int .i64 (-1),.int .i64 0,.bool false,.int .i64 0]) ?_ 5 _ rfl;(with_reducible repeat (first|refine kN3_ ?_ _|refine kD3_ ?_|refine kA3_ ?_ _));refine blk_put (cs:=#[.int .i64 a0_0,.int .i64 a0_1,.int .i64 a0_2,.slice none 0 0,.int .i64 0,.int .i64 0,.bool false,.int .i64 0]) ?_ 4 _ rfl;(with_reducible repeat (first|refine kN3_ ?_ _|refine kD3_ ?_|refine kA3_ ?_ _));refine blk_put (cs:=#[.int .i64 a0_0,.int .i64 a0_1,.int .i64 a0_2,.slice none 0 0,.int .i64 0,.int .i64 0,.bool false,.int .i64 0]) ?_ 3 _ rfl;(with_reducible repeat (first|refine kN3_ ?_ _|refine kD3_ ?_|refine kA3_ ?_ _));refine blk_put (cs:=#[.int .i64 a0_0,.int .i64 a0_1,.int .i64 0,.slice none 0 0,.int .i64 0,.int .i64 0,.bool false,.int .i64 0]) ?_ 2 _ rfl;(with_reducible repeat (first|refine kN3_ ?_ _|refine kD3_ ?_|refine kA3_ ?_ _));refine blk_put (cs:=#[.int .i64 a0_0,.int .i64 0,.int .i64 0,.slice none 0 0,.int .i64 0,.int .i64 0,.bool false,.int .i64 0]) ?_ 1 _ rfl;(with_reducible repeat (first|refine kN3_ ?_ _|refine kD3_ ?_|refine kA3_ ?_ _));refine blk_put (cs:=#[.int .i64 0,.int .i64 0,.int .i64 0,.slice none 0 0,.int .i64 0,.int .i64 0,.bool false,.int .i64 0]) ?_ 0 _ rfl;(with_reducible repeat (first|refine kN3_ ?_ _|refine kD3_ ?_|refine kA3_ ?_ _));exact BK158.out⟩,⟨by repeat (first|(with_reducible first|exact HB.out|apply bA3_|apply bN3_|apply bD3_|refine bS3_ ?_ GE156.out|refine bS3_ ?_ GE157.out|refine bS3_ ?_ GE158.out)|exact HB.out)⟩⟩
  case round =>
    clear H'
    try clear p2
    try clear c4
    try clear c7
    try clear c8
    try clear c9
    try clear hcz5_0
    try clear hcz5_1
    try clear hcz5_2
    try clear hcz9_0
    try clear hcz9_1
    try clear hcz9_2
    try clear hcz9_3
    try clear hcz9_4
    try clear hcz9_5
    try clear hcz9_6
    try clear hcz9_7
    try clear hfz5_0
    try clear hfz5_1
    try clear hfz5_2
    try clear hfz9_0
    try clear hfz9_1
    try clear hfz9_2
    try clear hfz9_3
    try clear hfz9_4
    try clear hfz9_5
    try clear hfz9_6
    try clear hfz9_7
    obtain ⟨x4_1, x159003_1, u159003, rfl, HA, HK1, HO_159003, BK156, BK157, BK158, HB⟩ := hrel
    cases gk with
    | zero => exact absurd HA.out (by simp [spec_l06New.l0])
    | succ k1 =>
      have H := HA.out
      clear HA
      simp only [spec_l06New.l0] at H
      by_cases c10 : x4_1 < (wrap64 (a0_0 * a0_1))
      · rw [if_pos c10] at H
        have c10b0 : decide (x4_1 < (wrap64 (a0_0 * a0_1))) = true := decide_eq_true c10
        clear c10
        by_cases c11 : 0 ≤ a0_2
        · rw [if_pos c11] at H
          have c11b0 := eq_true c11
          have c11b1 : decide (0 ≤ a0_2) = true := decide_eq_true c11
          clear c11
          by_cases c12 : (a0_2 : Int).toNat ≤ 17592186044416
          · rw [if_pos c12] at H
            have c12b0 := eq_true c12
            have c12b1 : decide ((a0_2 : Int).toNat ≤ 17592186044416) = true := decide_eq_true c12
            clear c12
            obtain ⟨y159,hy159⟩:∃ y_:List ByteArray,y_=(List.replicate (a0_2:Int).toNat (⟨#[]⟩:ByteArray)):=⟨_,rfl⟩
            replace H:(if x159003_1.length < 2932031007402 then (spec_l06New.l0 k1 (wrap64 (x4_1+1)) a0_0 a0_1 a0_2 a0_0 a0_1 a0_2 (x159003_1 ++ [(⟨0,0,false,y159⟩:S120)]) (-1) 0 false 0) else (none))=some (r1,r2,r3,r4,r5,r6,r7,r8):=by first|(rw [hy159];with_reducible exact H)|(have H2_:=(Option.bind_some _ _).symm.trans H;rw [hy159];with_reducible exact H2_)|(have H2_:=(Option.bind_some _ _).symm.trans H;with_reducible exact H2_)|with_reducible exact H|(rw [hy159];exact H)|exact H
            have Ny159 := Aside0.mk hy159
            clear hy159
            by_cases c13 : x159003_1.length < 2932031007402
            · rw [if_pos c13] at H
              have LMc13 := Aside0.mk c13
              clear c13
              obtain ⟨y162,hy162⟩:∃ y_:List (S120),y_=(x159003_1 ++ [(⟨0,0,false,y159⟩:S120)]):=⟨_,rfl⟩
              replace H:(spec_l06New.l0 k1 (wrap64 (x4_1+1)) a0_0 a0_1 a0_2 a0_0 a0_1 a0_2 y162 (-1) 0 false 0)=some (r1,r2,r3,r4,r5,r6,r7,r8):=by first|(rw [hy162];with_reducible exact H)|(have H2_:=(Option.bind_some _ _).symm.trans H;rw [hy162];with_reducible exact H2_)|(have H2_:=(Option.bind_some _ _).symm.trans H;with_reducible exact H2_)|with_reducible exact H|(rw [hy162];exact H)|exact H
              have Ny162 := Aside0.mk hy162
              clear hy162
              have H' := Aside0.mk H
              clear H
              have hnb14 := NB156_157.out
              have hnc14 := NB157_156.out
              have hnb15 := NB156_158.out
              have hnc15 := NB158_156.out
              have hcz16_0:wr.cell? ⟨gb156,0,none⟩=some (.int .i64 a0_0):=(blk_cell BK156.out 0).trans rfl
              have hcz16_1:wr.cell? ⟨gb156,1,none⟩=some (.int .i64 a0_1):=(blk_cell BK156.out 1).trans rfl
              have hcz16_2:wr.cell? ⟨gb156,2,none⟩=some (.int .i64 a0_2):=(blk_cell BK156.out 2).trans rfl
              have hfz16_0 := blk_frozen BK156.out 0
              have hfz16_1 := blk_frozen BK156.out 1
              have hfz16_2 := blk_frozen BK156.out 2
              try go_wp2
              have n0_ := Aside0.mk (Kd.S_drew HO_159003.out)
              have n1_ := Aside0.mk (blk_drew BK156.out)
              have n2_ := Aside0.mk (blk_drew BK157.out)
              have n3_ := Aside0.mk (blk_drew BK158.out)
              have n4_ := Aside0.mk (below_drew1 HB.out)
              clear HO_159003
              clear BK156
              clear BK157
              clear BK158
              clear HB
              have HO_159003 := n0_
              have BK156 := n1_
              have BK157 := n2_
              have BK158 := n3_
              have HB := n4_
              clear n0_ n1_ n2_ n3_ n4_
              refine start_ (n:=10) (S:=fun w'=>w'.cell? ⟨gb158,0,none⟩=some (.int .i64 a0_0)∧w'.cell? ⟨gb158,1,none⟩=some (.int .i64 a0_1)∧w'.cell? ⟨gb158,2,none⟩=some (.int .i64 a0_2)∧w'.cell? ⟨gb158,3,none⟩=some (u159003)∧w'.cell? ⟨gb158,4,none⟩=some (.int .i64 (-1))∧w'.cell? ⟨gb158,5,none⟩=some (.int .i64 0)∧w'.cell? ⟨gb158,6,none⟩=some (.bool false)∧w'.cell? ⟨gb158,7,none⟩=some (.int .i64 0)∧w'.cell? ⟨gb156,0,none⟩=some (.int .i64 a0_0)∧w'.cell? ⟨gb156,1,none⟩=some (.int .i64 a0_1)∧w'.cell? ⟨gb156,2,none⟩=some (.int .i64 a0_2)) (ds:=[9]) #[false,false,false,false,false,false,false,false,false,false] (by kernel_rfl) rfl rfl ⟨(blk_cell BK158.out 0).trans rfl,(blk_cell BK158.out 1).trans rfl,(blk_cell BK158.out 2).trans rfl,(blk_cell BK158.out 3).trans rfl,(blk_cell BK158.out 4).trans rfl,(blk_cell BK158.out 5).trans rfl,(blk_cell BK158.out 6).trans rfl,(blk_cell BK158.out 7).trans rfl,(blk_cell BK156.out 0).trans rfl,(blk_cell BK156.out 1).trans rfl,(blk_cell BK156.out 2).trans rfl⟩ (fun hHeld=>?_);refine with_tabW spec_l06New.tab5 spec_l06New.bits5 (fun HT_ HW_=>?_)
              generalize wr.drew = w17 at HO_159003 BK156 BK157 BK158 HB hHeld ⊢
              refine pure_ (i:=0) (N:=some 16) (v:=?_) (a':=?_) #[true,false,false,false,false,false,false,false,false,false] rfl rfl (any_of HT_.out (by kernel_rfl)) (fun _ _ _ h=>h) (Or.inl ⟨by rfl,?_⟩) ?_ ?_
              rotate_left
              · intro w'
                go_simp
                with_reducible rfl
              rotate_left
              · simp only [Act.put,List.setIfInBounds_toArray,List.set_cons_zero,List.set_cons_succ,i64_w,i32_w]
                rfl
              refine pure_ (i:=2) (N:=some 18) (v:=?_) (a':=?_) #[true,false,true,false,false,false,false,false,false,false] rfl rfl (any_of HT_.out (by kernel_rfl)) (fun _ _ _ h=>h) (Or.inl ⟨by rfl,?_⟩) ?_ ?_
              rotate_left
              · intro w'
                go_simp
                with_reducible rfl
              rotate_left
              · simp only [Act.put,List.setIfInBounds_toArray,List.set_cons_zero,List.set_cons_succ,i64_w,i32_w]
                rfl
              refine take_ (i:=1) (N:=some 17) (v:=?_) (a':=?_) #[true,true,true,false,false,false,false,false,false,false] rfl rfl (take_ofW HT_.out HW_.out (by kernel_rfl)) (fun _ _ _ h=>h) (Or.inl ⟨by rfl,?_⟩) hHeld ?_ ?_
              rotate_left
              · rintro w' ⟨s0, s1, s2, s3, s4, s5, s6, s7, s8, s9, s10⟩
                go_simp
                with_reducible rfl
              rotate_left
              · simp only [Act.put,List.setIfInBounds_toArray,List.set_cons_zero,List.set_cons_succ,i64_w,i32_w]
                rfl
              refine take_ (i:=3) (N:=some 19) (v:=?_) (a':=?_) #[true,true,true,true,false,false,false,false,false,false] rfl rfl (take_ofW HT_.out HW_.out (by kernel_rfl)) (fun _ _ _ h=>h) (Or.inl ⟨by rfl,?_⟩) hHeld ?_ ?_
              rotate_left
              · rintro w' ⟨s0, s1, s2, s3, s4, s5, s6, s7, s8, s9, s10⟩
                go_simp
                with_reducible rfl
              rotate_left
              · simp only [Act.put,List.setIfInBounds_toArray,List.set_cons_zero,List.set_cons_succ,i64_w,i32_w]
                rfl
              refine one_ (i:=4) (N:=some 20) #[true,true,true,true,true,false,false,false,false,false] rfl rfl (one_of HT_.out (by kernel_rfl)) (by decide) (fun K hK=>?_)
              refine Kd.R_make_step Kd.string _ 9 (by rfl) (N:=20) rfl 51 _ _ rfl a0_2 rfl rfl Try.underlying51 (.string ⟨#[]⟩) 16 info9 rfl (by decide) (by omega) (⟨#[]⟩:ByteArray) (ok:=fun _=>True) (okp:=fun _=>True) rfl (fun _ hk=>hk) trivial (of_decide_eq_true (by first|(with_reducible assumption)|assumption)) (Nat.le_trans (Nat.mul_le_mul_right _ (of_decide_eq_true (by first|(with_reducible assumption)|assumption):a0_2.toNat≤17592186044416)) (by omega)) (Below.refl _ _) (Nat.le_refl _) ?_
              intro v160 w18 ho19 hb hg_ hnew_
              clear hg_ hnew_
              (first|rw [← Ny159.out] at ho19|(simp only [Int.reduceToNat] at ho19;rw [← Ny159.out] at ho19))
              have n0_:=mk3_ (Kd.S_elder' (by (with_reducible repeat (first|apply sA3_|apply Kd.S_drewN|apply Kd.S_drew));exact HO_159003.out) (Kd.R_base ho19) hb)
              have n1_:=mk3_ (Kd.R_lower ho19 (bZ3_ (by repeat (first|(with_reducible first|exact HB.out|apply bA3_|apply bN3_|apply bD3_|refine bS3_ ?_ GE156.out|refine bS3_ ?_ GE157.out|refine bS3_ ?_ GE158.out)|exact HB.out))))
              have n2_:=mk3_ (blk_below (g:=gb156) (o:=.cells #[.int .i64 a0_0,.int .i64 a0_1,.int .i64 a0_2] 37 (0,0)) (by (with_reducible repeat (first|refine kN3_ ?_ _|refine kD3_ ?_|refine kA3_ ?_ _));exact BK156.out) hb)
              have n3_:=mk3_ (blk_below (g:=gb157) (o:=.cells #[.int .i64 0,.int .i64 0,.int .i64 0,.slice none 0 0,.int .i64 0,.int .i64 0,.bool false,.int .i64 0] 40 (0,0)) (by (with_reducible repeat (first|refine kN3_ ?_ _|refine kD3_ ?_|refine kA3_ ?_ _));exact BK157.out) hb)
              have n4_:=mk3_ (blk_below (g:=gb158) (o:=.cells #[.int .i64 a0_0,.int .i64 a0_1,.int .i64 a0_2,u159003,.int .i64 (-1),.int .i64 0,.bool false,.int .i64 0] 40 (0,0)) (by (with_reducible repeat (first|refine kN3_ ?_ _|refine kD3_ ?_|refine kA3_ ?_ _));exact BK158.out) hb)
              have n5_:=mk3_ (bT3_ (by repeat (first|(with_reducible first|exact HB.out|apply bA3_|apply bN3_|apply bD3_|refine bS3_ ?_ GE156.out|refine bS3_ ?_ GE157.out|refine bS3_ ?_ GE158.out)|exact HB.out)) hb)
              clear HO_159003
              clear BK156
              clear BK157
              clear BK158
              clear HB
              have HO_159003 := n0_
              have HO161 := n1_
              have BK156 := n2_
              have BK157 := n3_
              have BK158 := n4_
              have HB := n5_
              clear n0_ n1_ n2_ n3_ n4_ n5_
              clear hb ho19
              obtain ⟨Ao20, co20, eo20⟩ := Kd.R_slice HO161.out
              (first|subst eo20|(injection eo20 with f1_ f2_ f3_;have f4_:=f1_.symm;have f5_:=f3_.symm;clear f1_ f2_ f3_;subst f4_;subst f5_))
              refine hK.out _ _ ⟨(blk_cell BK158.out 0).trans rfl,(blk_cell BK158.out 1).trans rfl,(blk_cell BK158.out 2).trans rfl,(blk_cell BK158.out 3).trans rfl,(blk_cell BK158.out 4).trans rfl,(blk_cell BK158.out 5).trans rfl,(blk_cell BK158.out 6).trans rfl,(blk_cell BK158.out 7).trans rfl,(blk_cell BK156.out 0).trans rfl,(blk_cell BK156.out 1).trans rfl,(blk_cell BK156.out 2).trans rfl⟩ (fun hHeld=>?_)
              clear hK K
              refine norm_ (a' := ?_) ?_ ?_
              rotate_left
              · show Act.put _ (some 20) _ = _
                simp only [Act.put,List.setIfInBounds_toArray,List.set_cons_zero,List.set_cons_succ,i64_w,i32_w]
                rfl
              refine pure_ (i:=5) (N:=some 21) (v:=?_) (a':=?_) #[true,true,true,true,true,true,false,false,false,false] rfl rfl (any_of HT_.out (by kernel_rfl)) (fun _ _ _ h=>h) (Or.inl ⟨by rfl,?_⟩) ?_ ?_
              rotate_left
              · intro w'
                go_simp
                with_reducible rfl
              rotate_left
              · simp only [Act.put,List.setIfInBounds_toArray,List.set_cons_zero,List.set_cons_succ,i64_w,i32_w]
                rfl
              refine one_ (i:=6) (N:=some 22) #[true,true,true,true,true,true,true,false,false,false] rfl rfl (one_of HT_.out (by kernel_rfl)) (by decide) (fun K hK=>?_)
              refine value_ (w1 := ?_) (v := ?_) (by rfl) rfl ?_ ?_
              rotate_left 2
              · go_simp
                constructor
                · rfl
                · rfl
              refine hK.out _ _ ⟨(blk_cell (kA3_ BK158.out _) 0).trans rfl,(blk_cell (kA3_ BK158.out _) 1).trans rfl,(blk_cell (kA3_ BK158.out _) 2).trans rfl,(blk_cell (kA3_ BK158.out _) 3).trans rfl,(blk_cell (kA3_ BK158.out _) 4).trans rfl,(blk_cell (kA3_ BK158.out _) 5).trans rfl,(blk_cell (kA3_ BK158.out _) 6).trans rfl,(blk_cell (kA3_ BK158.out _) 7).trans rfl,(blk_cell (kA3_ BK156.out _) 0).trans rfl,(blk_cell (kA3_ BK156.out _) 1).trans rfl,(blk_cell (kA3_ BK156.out _) 2).trans rfl⟩ (fun hHeld=>?_)
              clear hK K
              refine norm_ (a' := ?_) ?_ ?_
              rotate_left
              · show Act.put _ (some 22) _ = _
                simp only [Act.put,List.setIfInBounds_toArray,List.set_cons_zero,List.set_cons_succ,i64_w,i32_w]
                rfl
              refine one_ (i:=7) (N:=some 23) #[true,true,true,true,true,true,true,true,false,false] rfl rfl (one_of HT_.out (by kernel_rfl)) (by decide) (fun K hK=>?_)
              refine Kd.S_append_step k120 (w0:=w) w.heap.size (by rfl) (.tmp 17) (.tmp 22) 38 120 (.agg #[(.int .i64 0),(.int .i64 0),(.bool false),(.slice none 0 0)]) 48 rfl Try.underlying38 info120 rfl (by decide) (by omega) u159003 x159003_1 (⟨0,0,false,y159⟩:S120) [.int .i64 0,.int .i64 0,.bool false,.slice Ao20 y159.length co20] (fun _=>True) (fun k_=>some k_=(.slice Ao20 y159.length co20:Value).ownBlock) rfl rfl ?aP (fun k_ hk_=>((Kd.R_mono (ok':=fun k_=>((fun _=>True)) k_∧some k_≠(u159003:Value).ownBlock) (Kd.R_apart' (HO161.out) (Kd.S_typed HO_159003.out) (by decide)) (fun k_ hk=>⟨trivial,hk.2⟩))).1 k_ hk_.symm) ?aF ?aO ?aB ?aS ?aL ?_
              (case aP=>exact k120_mkM _ _ _ (⟨0,0,false,y159⟩:S120) (Kd.R_mono (Kd.R_tight rfl (Kd.R_mono (ok':=fun k_=>((fun _=>True)) k_∧some k_≠(u159003:Value).ownBlock) (Kd.R_apart' (HO161.out) (Kd.S_typed HO_159003.out) (by decide)) (fun k_ hk=>⟨trivial,hk.2⟩))) (fun _ h_=>h_)))
              (case aB=>exact (by repeat (first|(with_reducible first|exact HB.out|apply bA3_|apply bN3_|apply bD3_|refine bS3_ ?_ GE156.out|refine bS3_ ?_ GE157.out|refine bS3_ ?_ GE158.out)|exact HB.out)))
              (case aF => exact (fun _ _ => trivial))
              (case aO=>exact (by (with_reducible repeat (first|apply sA3_|apply Kd.S_drewN|apply Kd.S_drew));exact Kd.S_mono HO_159003.out (fun k_ hk=>⟨trivial,fun e_=>hk.2 e_⟩)))
              (case aS=>exact (bZ3_ (by repeat (first|(with_reducible first|exact HB.out|apply bA3_|apply bN3_|apply bD3_|refine bS3_ ?_ GE156.out|refine bS3_ ?_ GE157.out|refine bS3_ ?_ GE158.out)|exact HB.out))))
              (case aL => have := LMc13.out; omega)
              intro v163 w21 ho hb hg hat
              rw [← Ny162.out] at ho
              have n0_:=mk3_ (blk_grown (g:=gb156) (o:=.cells #[.int .i64 a0_0,.int .i64 a0_1,.int .i64 a0_2] 37 (0,0)) (by (with_reducible repeat (first|refine kN3_ ?_ _|refine kD3_ ?_|refine kA3_ ?_ _));exact BK156.out) hg (Kd.S_ne HO_159003.out BK156.out (by decide)))
              have n1_:=mk3_ (blk_grown (g:=gb157) (o:=.cells #[.int .i64 0,.int .i64 0,.int .i64 0,.slice none 0 0,.int .i64 0,.int .i64 0,.bool false,.int .i64 0] 40 (0,0)) (by (with_reducible repeat (first|refine kN3_ ?_ _|refine kD3_ ?_|refine kA3_ ?_ _));exact BK157.out) hg (Kd.S_ne HO_159003.out BK157.out (by decide)))
              have n2_:=mk3_ (blk_grown (g:=gb158) (o:=.cells #[.int .i64 a0_0,.int .i64 a0_1,.int .i64 a0_2,u159003,.int .i64 (-1),.int .i64 0,.bool false,.int .i64 0] 40 (0,0)) (by (with_reducible repeat (first|refine kN3_ ?_ _|refine kD3_ ?_|refine kA3_ ?_ _));exact BK158.out) hg (Kd.S_ne HO_159003.out BK158.out (by decide)))
              have n3_ := Aside0.mk (hb)
              have n4_ := Aside0.mk (ho)
              clear BK156
              clear BK157
              clear BK158
              clear HB
              clear HO_159003
              clear HO161
              have BK156 := n0_
              have BK157 := n1_
              have BK158 := n2_
              have HB := n3_
              have HO164 := n4_
              clear n0_ n1_ n2_ n3_ n4_
              clear ho hb hg hat
              obtain ⟨Ao22, co22, eo22⟩ := Kd.S_slice HO164.out
              (first|subst eo22|(injection eo22 with f1_ f2_ f3_;have f4_:=f1_.symm;have f5_:=f3_.symm;clear f1_ f2_ f3_;subst f4_;subst f5_))
              refine hK.out _ _ ⟨(blk_cell BK158.out 0).trans rfl,(blk_cell BK158.out 1).trans rfl,(blk_cell BK158.out 2).trans rfl,(blk_cell BK158.out 3).trans rfl,(blk_cell BK158.out 4).trans rfl,(blk_cell BK158.out 5).trans rfl,(blk_cell BK158.out 6).trans rfl,(blk_cell BK158.out 7).trans rfl,(blk_cell BK156.out 0).trans rfl,(blk_cell BK156.out 1).trans rfl,(blk_cell BK156.out 2).trans rfl⟩ (fun hHeld=>?_)
              clear hK K
              refine norm_ (a' := ?_) ?_ ?_
              rotate_left
              · show Act.put _ (some 23) _ = _
                simp only [Act.put,List.setIfInBounds_toArray,List.set_cons_zero,List.set_cons_succ,i64_w,i32_w]
                rfl
              refine pure_ (i:=8) (N:=some 24) (v:=?_) (a':=?_) #[true,true,true,true,true,true,true,true,true,false] rfl rfl (any_of HT_.out (by kernel_rfl)) (fun _ _ _ h=>h) (Or.inl ⟨by rfl,?_⟩) ?_ ?_
              rotate_left
              · intro w'
                go_simp
                with_reducible rfl
              rotate_left
              · simp only [Act.put,List.setIfInBounds_toArray,List.set_cons_zero,List.set_cons_succ,i64_w,i32_w]
                rfl
              refine last_ (i:=9) (N:=none) #[true,true,true,true,true,true,true,true,true,true] rfl rfl (one_of HT_.out (by kernel_rfl)) (by decide) (fun K hK=>?_)
              have hs23:w21.cell? ⟨gb158,3,none⟩=some (u159003):=(blk_cell BK158.out 3).trans rfl
              have hfs23 := blk_frozen BK158.out 3
              have hns23_0 := NB156_158.out
              have hns23_1 := NB157_158.out
              have hms23_0 := NB158_156.out
              have hms23_1 := NB158_157.out
              refine skip_ (w1 := ?_) (by rfl) rfl ?_ ?_
              rotate_left
              · go_simp
                rfl
              refine hK.out _ _ ?_
              clear hK K
              refine done_ (done_of HT_.out (by kernel_rfl)) ?_
              try go_wp2
              go_roundg k1
              case measure => have := HK1.out; omega
              case rel=>exact ⟨(wrap64 (x4_1+1)),(y162),(.slice Ao22 y162.length co22),(by first|rfl|(simp;done)|(simp [*];done)),H',⟨by have:=HK1.out;omega⟩,⟨by (with_reducible repeat (first|apply sA3_|apply Kd.S_drewN|apply Kd.S_drew));exact Kd.S_mono (Kd.S_far (p:=⟨gb158,3,none⟩) (Kd.S_types HO164.out BK158.out (by decide)) (fun _ hk=>hk.2) (.slice Ao22 y162.length co22)) (fun _ hk=>trivial)⟩,⟨by (with_reducible repeat (first|refine kN3_ ?_ _|refine kD3_ ?_|refine kA3_ ?_ _));refine blk_far ?_ NB156_158.out _;(with_reducible repeat (first|refine kN3_ ?_ _|refine kD3_ ?_|refine kA3_ ?_ _));exact BK156.out⟩,⟨by (with_reducible repeat (first|refine kN3_ ?_ _|refine kD3_ ?_|refine kA3_ ?_ _));refine blk_far ?_ NB157_158.out _;(with_reducible repeat (first|refine kN3_ ?_ _|refine kD3_ ?_|refine kA3_ ?_ _));exact BK157.out⟩,⟨by (with_reducible repeat (first|refine kN3_ ?_ _|refine kD3_ ?_|refine kA3_ ?_ _));refine blk_put (cs:=#[.int .i64 a0_0,.int .i64 a0_1,.int .i64 a0_2,u159003,.int .i64 (-1),.int .i64 0,.bool false,.int .i64 0]) ?_ 3 _ rfl;(with_reducible repeat (first|refine kN3_ ?_ _|refine kD3_ ?_|refine kA3_ ?_ _));exact BK158.out⟩,⟨by repeat (first|(with_reducible first|exact HB.out|apply bA3_|apply bN3_|apply bD3_|refine bS3_ ?_ GE156.out|refine bS3_ ?_ GE157.out|refine bS3_ ?_ GE158.out)|exact HB.out)⟩⟩
            · rw [if_neg c13] at H
              exact absurd H (by simp)
          · rw [if_neg c12] at H
            exact absurd H (by simp)
        · rw [if_neg c11] at H
          exact absurd H (by simp)
      · rw [if_neg c10] at H
        have c10b0 : decide (x4_1 < (wrap64 (a0_0 * a0_1))) = false := decide_eq_false c10
        clear c10
        simp only [Option.some.injEq, Prod.mk.injEq] at H
        obtain ⟨rfl, rfl, rfl, rfl, rfl, rfl, rfl, rfl⟩ := H
        have hnb24 := NB156_157.out
        have hnc24 := NB157_156.out
        have hnb25 := NB156_158.out
        have hnc25 := NB158_156.out
        have hcz26_0:wr.cell? ⟨gb156,0,none⟩=some (.int .i64 a0_0):=(blk_cell BK156.out 0).trans rfl
        have hcz26_1:wr.cell? ⟨gb156,1,none⟩=some (.int .i64 a0_1):=(blk_cell BK156.out 1).trans rfl
        have hcz26_2:wr.cell? ⟨gb156,2,none⟩=some (.int .i64 a0_2):=(blk_cell BK156.out 2).trans rfl
        have hfz26_0 := blk_frozen BK156.out 0
        have hfz26_1 := blk_frozen BK156.out 1
        have hfz26_2 := blk_frozen BK156.out 2
        have hnb27 := NB158_157.out
        have hnc27 := NB157_158.out
        have hcz28_0:wr.cell? ⟨gb158,0,none⟩=some (.int .i64 a0_0):=(blk_cell BK158.out 0).trans rfl
        have hcz28_1:wr.cell? ⟨gb158,1,none⟩=some (.int .i64 a0_1):=(blk_cell BK158.out 1).trans rfl
        have hcz28_2:wr.cell? ⟨gb158,2,none⟩=some (.int .i64 a0_2):=(blk_cell BK158.out 2).trans rfl
        have hcz28_3:wr.cell? ⟨gb158,3,none⟩=some (u159003):=(blk_cell BK158.out 3).trans rfl
        have hcz28_4:wr.cell? ⟨gb158,4,none⟩=some (.int .i64 (-1)):=(blk_cell BK158.out 4).trans rfl
        have hcz28_5:wr.cell? ⟨gb158,5,none⟩=some (.int .i64 0):=(blk_cell BK158.out 5).trans rfl
        have hcz28_6:wr.cell? ⟨gb158,6,none⟩=some (.bool false):=(blk_cell BK158.out 6).trans rfl
        have hcz28_7:wr.cell? ⟨gb158,7,none⟩=some (.int .i64 0):=(blk_cell BK158.out 7).trans rfl
        have hfz28_0 := blk_frozen BK158.out 0
        have hfz28_1 := blk_frozen BK158.out 1
        have hfz28_2 := blk_frozen BK158.out 2
        have hfz28_3 := blk_frozen BK158.out 3
        have hfz28_4 := blk_frozen BK158.out 4
        have hfz28_5 := blk_frozen BK158.out 5
        have hfz28_6 := blk_frozen BK158.out 6
        have hfz28_7 := blk_frozen BK158.out 7
        have hcz29_0:wr.cell? ⟨gb157,0,none⟩=some (.int .i64 0):=(blk_cell BK157.out 0).trans rfl
        have hcz29_1:wr.cell? ⟨gb157,1,none⟩=some (.int .i64 0):=(blk_cell BK157.out 1).trans rfl
        have hcz29_2:wr.cell? ⟨gb157,2,none⟩=some (.int .i64 0):=(blk_cell BK157.out 2).trans rfl
        have hcz29_3:wr.cell? ⟨gb157,3,none⟩=some (.slice none 0 0):=(blk_cell BK157.out 3).trans rfl
        have hcz29_4:wr.cell? ⟨gb157,4,none⟩=some (.int .i64 0):=(blk_cell BK157.out 4).trans rfl
        have hcz29_5:wr.cell? ⟨gb157,5,none⟩=some (.int .i64 0):=(blk_cell BK157.out 5).trans rfl
        have hcz29_6:wr.cell? ⟨gb157,6,none⟩=some (.bool false):=(blk_cell BK157.out 6).trans rfl
        have hcz29_7:wr.cell? ⟨gb157,7,none⟩=some (.int .i64 0):=(blk_cell BK157.out 7).trans rfl
        have hfz29_0 := blk_frozen BK157.out 0
        have hfz29_1 := blk_frozen BK157.out 1
        have hfz29_2 := blk_frozen BK157.out 2
        have hfz29_3 := blk_frozen BK157.out 3
        have hfz29_4 := blk_frozen BK157.out 4
        have hfz29_5 := blk_frozen BK157.out 5
        have hfz29_6 := blk_frozen BK157.out 6
        have hfz29_7 := blk_frozen BK157.out 7
        obtain ⟨Ao30, co30, eo30⟩ := Kd.S_slice HO_159003.out
        subst eo30
        go_wp2
        refine bodyPost_ret (results_cell_row rfl _ _ gb157 40 #[.int .i64 a0_0,.int .i64 a0_1,.int .i64 a0_2,.slice Ao30 x159003_1.length co30,.int .i64 (-1),.int .i64 0,.bool false,.int .i64 0] (0,0) _ rfl (by (with_reducible repeat (first|refine kN3_ ?_ _|refine kD3_ ?_|refine kA3_ ?_ _));refine blk_put (cs:=#[.int .i64 a0_0,.int .i64 a0_1,.int .i64 a0_2,.slice Ao30 x159003_1.length co30,.int .i64 (-1),.int .i64 0,.bool false,.int .i64 0]) ?_ 7 _ rfl;(with_reducible repeat (first|refine kN3_ ?_ _|refine kD3_ ?_|refine kA3_ ?_ _));refine blk_put (cs:=#[.int .i64 a0_0,.int .i64 a0_1,.int .i64 a0_2,.slice Ao30 x159003_1.length co30,.int .i64 (-1),.int .i64 0,.bool false,.int .i64 0]) ?_ 6 _ rfl;(with_reducible repeat (first|refine kN3_ ?_ _|refine kD3_ ?_|refine kA3_ ?_ _));refine blk_put (cs:=#[.int .i64 a0_0,.int .i64 a0_1,.int .i64 a0_2,.slice Ao30 x159003_1.length co30,.int .i64 (-1),.int .i64 0,.bool false,.int .i64 0]) ?_ 5 _ rfl;(with_reducible repeat (first|refine kN3_ ?_ _|refine kD3_ ?_|refine kA3_ ?_ _));refine blk_put (cs:=#[.int .i64 a0_0,.int .i64 a0_1,.int .i64 a0_2,.slice Ao30 x159003_1.length co30,.int .i64 0,.int .i64 0,.bool false,.int .i64 0]) ?_ 4 _ rfl;(with_reducible repeat (first|refine kN3_ ?_ _|refine kD3_ ?_|refine kA3_ ?_ _));refine blk_put (cs:=#[.int .i64 a0_0,.int .i64 a0_1,.int .i64 a0_2,.slice none 0 0,.int .i64 0,.int .i64 0,.bool false,.int .i64 0]) ?_ 3 _ rfl;(with_reducible repeat (first|refine kN3_ ?_ _|refine kD3_ ?_|refine kA3_ ?_ _));refine blk_put (cs:=#[.int .i64 a0_0,.int .i64 a0_1,.int .i64 0,.slice none 0 0,.int .i64 0,.int .i64 0,.bool false,.int .i64 0]) ?_ 2 _ rfl;(with_reducible repeat (first|refine kN3_ ?_ _|refine kD3_ ?_|refine kA3_ ?_ _));refine blk_put (cs:=#[.int .i64 a0_0,.int .i64 0,.int .i64 0,.slice none 0 0,.int .i64 0,.int .i64 0,.bool false,.int .i64 0]) ?_ 1 _ rfl;(with_reducible repeat (first|refine kN3_ ?_ _|refine kD3_ ?_|refine kA3_ ?_ _));refine blk_put (cs:=#[.int .i64 0,.int .i64 0,.int .i64 0,.slice none 0 0,.int .i64 0,.int .i64 0,.bool false,.int .i64 0]) ?_ 0 _ rfl;(with_reducible repeat (first|refine kN3_ ?_ _|refine kD3_ ?_|refine kA3_ ?_ _));exact BK157.out) Try.underlying40 rfl (by kernel_rfl)) rfl ?_
        exact ⟨_,by first|rfl|(simp [errW_none,errW_some] <;> rfl)|(simp [*,errW_none,errW_some] <;> rfl),by (with_reducible repeat (first|apply sA3_|apply Kd.S_drewN|apply Kd.S_drew));exact Kd.S_mono (Kd.S_far (p:=⟨gb157,7,none⟩) (Kd.S_far (p:=⟨gb157,6,none⟩) (Kd.S_far (p:=⟨gb157,5,none⟩) (Kd.S_far (p:=⟨gb157,4,none⟩) (Kd.S_far (p:=⟨gb157,3,none⟩) (Kd.S_far (p:=⟨gb157,2,none⟩) (Kd.S_far (p:=⟨gb157,1,none⟩) (Kd.S_far (p:=⟨gb157,0,none⟩) (Kd.S_types HO_159003.out BK157.out (by decide)) (fun _ hk=>hk.2) (.int .i64 a0_0)) (fun _ hk=>hk.2) (.int .i64 a0_1)) (fun _ hk=>hk.2) (.int .i64 a0_2)) (fun _ hk=>hk.2) (.slice Ao30 x159003_1.length co30)) (fun _ hk=>hk.2) (.int .i64 (-1))) (fun _ hk=>hk.2) (.int .i64 0)) (fun _ hk=>hk.2) (.bool false)) (fun _ hk=>hk.2) (.int .i64 0)) (fun _ hk=>trivial),by repeat (first|(with_reducible first|exact HB.out|apply bA3_|apply bN3_|apply bD3_|refine bS3_ ?_ GE156.out|refine bS3_ ?_ GE157.out|refine bS3_ ?_ GE158.out)|exact HB.out)⟩

end Go.Proofs.Ytaecdlhomihejaa.Q
