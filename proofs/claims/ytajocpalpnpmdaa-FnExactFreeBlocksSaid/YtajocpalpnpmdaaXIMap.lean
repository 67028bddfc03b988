/- The contract of the program's ValidMap. Conditions: those before each theorem. -/
import Derived.Test.YtajocpalpnpmdaaMapOk
import Derived.Test.YtajocpalpnpmdaaQ5
namespace Go.Proofs.Ytajocpalpnpmdaa.Q
open Go.RowKit Go.Proofs.YtajocpalpnpmdaaW.PrintWords Go.Proofs.YtajocpalpnpmdaaW.PrintMore Go.Proofs.YtajocpalpnpmdaaW.PrintLast
abbrev mkXIMap_ := @Aside0.mk
abbrev bTXIMap_ := @below_step
abbrev lSXIMap_ := @List.setIfInBounds_toArray
abbrev lZXIMap_ := @List.set_cons_zero
abbrev lCXIMap_ := @List.set_cons_succ
set_option linter.unusedVariables false
set_option linter.unusedSimpArgs false
theorem inI_calls (a b c:Int) (W:World):Calls Try.prog 29 #[.int .i64 a,.int .i64 b,.int .i64 c] W fun e w'=>e=.returned (.bool (decide (b≤a∧a≤c)))∧Below W.heap.size W w' :=
 (impl_within.calls a b c _ W (within_eq a b c)).mono fun e w' ⟨he,hd⟩=>⟨he,by obtain ⟨nn,rfl⟩:=hd.out;exact pw_below_drewN (Below.refl _ _) nn⟩
theorem sizeI_calls (a b:Int) (W:World):Calls Try.prog 55 #[.int .i64 a,.int .i64 b] W fun e w'=>e=.returned (.bool (decide (1≤a∧a≤640) && decide (1≤b∧b≤640 / a)))∧Below W.heap.size W w' :=
 (impl_sizeOk.calls a b _ W rfl).mono fun e w' ⟨he,hd⟩=>⟨he,by obtain ⟨nn,rfl⟩:=hd.out;exact pw_below_drewN (Below.refl _ _) nn⟩
set_option maxHeartbeats 16000000 in
set_option maxRecDepth 100000 in
theorem iMap_calls (a b:Int) (A10:Option Addr) (c10:Nat) (M:List Int) (A11:Option Addr) (c11:Nat) (T:List Bool) (w:World)
  (hr10:Kd.C (Kd.int .i64) w A10 M.length M) (hc10:M.length≤c10) (hr11:Kd.C Kd.bool w A11 T.length T) (hc11:T.length≤c11) :
  Calls Try.prog 26 #[.agg #[.int .i64 a,.int .i64 b,.slice A10 M.length c10,.slice A11 T.length c11]] w fun e w'=>e=.returned (.bool (mapB a b M T))∧Below w.heap.size w w':=by
 have hbig := hr10.2.1
 have HR10 := Aside0.mk hr10
 have HR11 := Aside0.mk hr11
 have HC10 := Aside0.mk hc10
 have HC11 := Aside0.mk hc11
 have HW := Aside0.mk (inI_calls (M.length : Int) 1 48)
 have HZ := Aside0.mk (sizeI_calls a b)
 unfold mapB
 rw [← sizeOk_eq]
 clear hr10 hr11
 cases cs:(decide (1≤a∧a≤640) && decide (1≤b∧b≤640 / a)) with
 | false =>
  rw [cs] at HZ
  rw [Bool.and_false, Bool.false_and]
  clear cs hbig
  go_enter Try.func26, Try.ntmps26
  go_wp2_with (first|((with_reducible refine gate_dst (N:=1) rfl ?_);(try (refine gate_guard (by rfl) ?_;dsimp only));refine box_event ?hg (N:=1) ?hd (cs:=#[.int .i64 a,.int .i64 b,.slice A10 M.length c10,.slice A11 T.length c11]) (t:=41) ?hr ?_;(case hd=>rfl);(case hg=>rfl);(case hr=>first|(go_simp;done)|(go_simp;rfl));intro gb hg W1 hbox hb;have HT:Aside0 (∀ W,Below W1.heap.size W1 W→Below w.heap.size w W):=⟨fun W h=>hb.trans (h.mono hb.size)⟩;have LG:=blk_lt hbox;have HSS:Aside0 (∀ w',Below W1.heap.size W1 w'→(w'.cell? ⟨gb,0,none⟩=some (.int .i64 a)∧w'.cell? ⟨gb,1,none⟩=some (.int .i64 b)∧w'.cell? ⟨gb,2,none⟩=some (.slice A10 M.length c10)∧w'.cell? ⟨gb,3,none⟩=some (.slice A11 T.length c11))):=⟨fun w' h=>⟨(h.cell LG).trans ((blk_cell hbox 0).trans rfl),(h.cell LG).trans ((blk_cell hbox 1).trans rfl),(h.cell LG).trans ((blk_cell hbox 2).trans rfl),(h.cell LG).trans ((blk_cell hbox 3).trans rfl)⟩⟩;clear LG;obtain ⟨z0,z1,z2,z3⟩:=HSS.out _ (Below.refl _ _);have HB:=mkXIMap_ (Below.refl W1.heap.size W1);clear hb hbox hg;(try simp only [Act.put,lSXIMap_,lZXIMap_,lCXIMap_]))|(go_at_call 55;with_reducible refine Calls.mono (HZ.out _) ?_;rintro e W2 ⟨rfl,hb⟩;have n0_:=mkXIMap_ (bTXIMap_ HB.out hb);clear HB hb;have HB:=n0_;clear n0_;clear z0 z1 z2 z3;obtain ⟨z0,z1,z2,z3⟩:=HSS.out _ HB.out)|(go_at_call 29;with_reducible refine Calls.mono (HW.out _) ?_;rintro e W3 ⟨rfl,hb⟩;have n0_:=mkXIMap_ (bTXIMap_ HB.out hb);clear HB hb;have HB:=n0_;clear n0_;clear z0 z1 z2 z3;obtain ⟨z0,z1,z2,z3⟩:=HSS.out _ HB.out))
  go_ret
  exact ⟨rfl, HT.out _ HB.out⟩
 | true =>
  rw [cs] at HZ
  rw [Bool.and_true]
  clear cs
  cases cn:decide (1≤(M.length:Int)∧(M.length:Int)≤48) with
  | false =>
   rw [cn] at HW
   rw [Bool.false_and]
   clear cn hbig
   go_enter Try.func26, Try.ntmps26
   go_wp2_with (first|((with_reducible refine gate_dst (N:=1) rfl ?_);(try (refine gate_guard (by rfl) ?_;dsimp only));refine box_event ?hg (N:=1) ?hd (cs:=#[.int .i64 a,.int .i64 b,.slice A10 M.length c10,.slice A11 T.length c11]) (t:=41) ?hr ?_;(case hd=>rfl);(case hg=>rfl);(case hr=>first|(go_simp;done)|(go_simp;rfl));intro gb hg W1 hbox hb;have HT:Aside0 (∀ W,Below W1.heap.size W1 W→Below w.heap.size w W):=⟨fun W h=>hb.trans (h.mono hb.size)⟩;have LG:=blk_lt hbox;have HSS:Aside0 (∀ w',Below W1.heap.size W1 w'→(w'.cell? ⟨gb,0,none⟩=some (.int .i64 a)∧w'.cell? ⟨gb,1,none⟩=some (.int .i64 b)∧w'.cell? ⟨gb,2,none⟩=some (.slice A10 M.length c10)∧w'.cell? ⟨gb,3,none⟩=some (.slice A11 T.length c11))):=⟨fun w' h=>⟨(h.cell LG).trans ((blk_cell hbox 0).trans rfl),(h.cell LG).trans ((blk_cell hbox 1).trans rfl),(h.cell LG).trans ((blk_cell hbox 2).trans rfl),(h.cell LG).trans ((blk_cell hbox 3).trans rfl)⟩⟩;clear LG;obtain ⟨z0,z1,z2,z3⟩:=HSS.out _ (Below.refl _ _);have HB:=mkXIMap_ (Below.refl W1.heap.size W1);clear hb hbox hg;(try simp only [Act.put,lSXIMap_,lZXIMap_,lCXIMap_]))|(go_at_call 55;with_reducible refine Calls.mono (HZ.out _) ?_;rintro e W2 ⟨rfl,hb⟩;have n0_:=mkXIMap_ (bTXIMap_ HB.out hb);clear HB hb;have HB:=n0_;clear n0_;clear z0 z1 z2 z3;obtain ⟨z0,z1,z2,z3⟩:=HSS.out _ HB.out)|(go_at_call 29;with_reducible refine Calls.mono (HW.out _) ?_;rintro e W3 ⟨rfl,hb⟩;have n0_:=mkXIMap_ (bTXIMap_ HB.out hb);clear HB hb;have HB:=n0_;clear n0_;clear z0 z1 z2 z3;obtain ⟨z0,z1,z2,z3⟩:=HSS.out _ HB.out))
   go_ret
   exact ⟨rfl, HT.out _ HB.out⟩
  | true =>
   rw [cn] at HW
   rw [Bool.true_and]
   clear cn
   by_cases ct : T.length = M.length
   rotate_left
   ·have q1:((T.length:Int) == (M.length:Int))=false:=beq_eq_false_iff_ne.2 (by omega)
    have q2:((T.length:Int) != (M.length:Int))=true:=bne_iff_ne.2 (by omega)
    have q3:(T.length == M.length)=false:=beq_eq_false_iff_ne.2 ct
    rw [decide_eq_false ct, Bool.false_and]
    clear hbig ct
    go_enter Try.func26, Try.ntmps26
    go_wp2_with (first|((with_reducible refine gate_dst (N:=1) rfl ?_);(try (refine gate_guard (by rfl) ?_;dsimp only));refine box_event ?hg (N:=1) ?hd (cs:=#[.int .i64 a,.int .i64 b,.slice A10 M.length c10,.slice A11 T.length c11]) (t:=41) ?hr ?_;(case hd=>rfl);(case hg=>rfl);(case hr=>first|(go_simp;done)|(go_simp;rfl));intro gb hg W1 hbox hb;have HT:Aside0 (∀ W,Below W1.heap.size W1 W→Below w.heap.size w W):=⟨fun W h=>hb.trans (h.mono hb.size)⟩;have LG:=blk_lt hbox;have HSS:Aside0 (∀ w',Below W1.heap.size W1 w'→(w'.cell? ⟨gb,0,none⟩=some (.int .i64 a)∧w'.cell? ⟨gb,1,none⟩=some (.int .i64 b)∧w'.cell? ⟨gb,2,none⟩=some (.slice A10 M.length c10)∧w'.cell? ⟨gb,3,none⟩=some (.slice A11 T.length c11))):=⟨fun w' h=>⟨(h.cell LG).trans ((blk_cell hbox 0).trans rfl),(h.cell LG).trans ((blk_cell hbox 1).trans rfl),(h.cell LG).trans ((blk_cell hbox 2).trans rfl),(h.cell LG).trans ((blk_cell hbox 3).trans rfl)⟩⟩;clear LG;obtain ⟨z0,z1,z2,z3⟩:=HSS.out _ (Below.refl _ _);have HB:=mkXIMap_ (Below.refl W1.heap.size W1);clear hb hbox hg;(try simp only [Act.put,lSXIMap_,lZXIMap_,lCXIMap_]))|(go_at_call 55;with_reducible refine Calls.mono (HZ.out _) ?_;rintro e W2 ⟨rfl,hb⟩;have n0_:=mkXIMap_ (bTXIMap_ HB.out hb);clear HB hb;have HB:=n0_;clear n0_;clear z0 z1 z2 z3;obtain ⟨z0,z1,z2,z3⟩:=HSS.out _ HB.out)|(go_at_call 29;with_reducible refine Calls.mono (HW.out _) ?_;rintro e W3 ⟨rfl,hb⟩;have n0_:=mkXIMap_ (bTXIMap_ HB.out hb);clear HB hb;have HB:=n0_;clear n0_;clear z0 z1 z2 z3;obtain ⟨z0,z1,z2,z3⟩:=HSS.out _ HB.out))
    go_ret
    exact ⟨rfl, HT.out _ HB.out⟩
   ·have q1:((T.length:Int) == (M.length:Int))=true:=beq_iff_eq.2 (by omega)
    have q2:((T.length:Int) != (M.length:Int))=false:=bne_eq_false_iff_eq.2 (by omega)
    have q3 : (T.length == M.length) = true := beq_iff_eq.2 ct
    rw [decide_eq_true ct, Bool.true_and]
    have CT := Aside0.mk ct
    clear ct
    go_enter Try.func26, Try.ntmps26
    go_wp2_with (first|((with_reducible refine gate_dst (N:=1) rfl ?_);(try (refine gate_guard (by rfl) ?_;dsimp only));refine box_event ?hg (N:=1) ?hd (cs:=#[.int .i64 a,.int .i64 b,.slice A10 M.length c10,.slice A11 T.length c11]) (t:=41) ?hr ?_;(case hd=>rfl);(case hg=>rfl);(case hr=>first|(go_simp;done)|(go_simp;rfl));intro gb hg W1 hbox hb;have HT:Aside0 (∀ W,Below W1.heap.size W1 W→Below w.heap.size w W):=⟨fun W h=>hb.trans (h.mono hb.size)⟩;have LG:=blk_lt hbox;have HSS:Aside0 (∀ w',Below W1.heap.size W1 w'→(w'.cell? ⟨gb,0,none⟩=some (.int .i64 a)∧w'.cell? ⟨gb,1,none⟩=some (.int .i64 b)∧w'.cell? ⟨gb,2,none⟩=some (.slice A10 M.length c10)∧w'.cell? ⟨gb,3,none⟩=some (.slice A11 T.length c11))):=⟨fun w' h=>⟨(h.cell LG).trans ((blk_cell hbox 0).trans rfl),(h.cell LG).trans ((blk_cell hbox 1).trans rfl),(h.cell LG).trans ((blk_cell hbox 2).trans rfl),(h.cell LG).trans ((blk_cell hbox 3).trans rfl)⟩⟩;clear LG;obtain ⟨z0,z1,z2,z3⟩:=HSS.out _ (Below.refl _ _);have HB:=mkXIMap_ (Below.refl W1.heap.size W1);clear hb hbox hg;(try simp only [Act.put,lSXIMap_,lZXIMap_,lCXIMap_]))|(go_at_call 55;with_reducible refine Calls.mono (HZ.out _) ?_;rintro e W2 ⟨rfl,hb⟩;have n0_:=mkXIMap_ (bTXIMap_ HB.out hb);clear HB hb;have HB:=n0_;clear n0_;clear z0 z1 z2 z3;obtain ⟨z0,z1,z2,z3⟩:=HSS.out _ HB.out)|(go_at_call 29;with_reducible refine Calls.mono (HW.out _) ?_;rintro e W3 ⟨rfl,hb⟩;have n0_:=mkXIMap_ (bTXIMap_ HB.out hb);clear HB hb;have HB:=n0_;clear n0_;clear z0 z1 z2 z3;obtain ⟨z0,z1,z2,z3⟩:=HSS.out _ HB.out))
    clear q1 q2 q3 z0 z1 z2 z3
    go_loopg [3,4,30] M.length (fun gg _ _ s30 wr=>∃ kk:Nat,kk≤M.length∧M.length - kk≤gg∧s30=.int .i64 kk∧Aside0 (Below W1.heap.size W1 wr)∧Aside0 (∀ j,j < kk→mapAt (wrap64 (wrap64 (a * b) - 1)) M T j=true))
    case atStart=>exact ⟨0,Nat.zero_le _,by omega,rfl,HB,⟨fun j hj=>absurd hj (Nat.not_lt_zero _)⟩⟩
    case round =>
     clear HB
     obtain ⟨kk, hkk, hg, rfl, HB, HA⟩ := hrel
     by_cases hlt : kk < M.length
     ·have hlti : (kk : Int) < (M.length : Int) := by omega
      have hltb:decide ((kk:Int) < (M.length:Int))=true:=decide_eq_true hlti
      have hle : (kk : Int) ≤ (M.length : Int) := by omega
      have hltt:(kk:Int) < (T.length:Int):=by have:=CT.out;omega
      have hlec:(kk:Int)≤(c10:Int):=by have:=HC10.out;omega
      have hk0 : (0 : Int) ≤ (kk : Int) := by omega
      obtain ⟨ad,e1,hcell0⟩:=Kd.at_int HR10.out (kk:Int) (by omega) (by omega)
      obtain ⟨adt,e2,hcellt0⟩:=Kd.at_bool HR11.out (kk:Int) (by omega) (by omega)
      subst e1
      subst e2
      have HMA:Aside0 (mapAt (wrap64 (wrap64 (a * b) - 1)) M T kk=(decide (-1≤rd M kk∧rd M kk≤wrap64 (wrap64 (a * b) - 1)) && (!(decide (rd M kk < 0) && rdOf false T kk) && (List.range kk).all fun j=>!(decide (0≤rd M kk) && rd M j == rd M kk)))):=⟨rfl⟩
      rw [Int.toNat_natCast] at hcell0 hcellt0
      have HP:Aside0 (∀ W,Below w.heap.size w W→Calls Try.prog 56 #[.agg #[.int .i64 a,.int .i64 b,.slice (some ad) M.length c10,.slice (some adt) T.length c11]] W fun e w'=>e=.returned (.int .i64 (wrap64 (a * b)))∧Below W.heap.size W w'):=⟨fun W hb=>impl_PageMap_physical.calls a b (some ad) c10 M (some adt) c11 T _ W (Kd.C_below HR10.out hb) HC10.out (Kd.C_below HR11.out hb) HC11.out rfl⟩
      have HY:=mkXIMap_ (inI_calls (rd M kk) (-1) (wrap64 (wrap64 (a * b) - 1)))
      have HCo:Aside0 (∀ W,Below w.heap.size w W→Calls Try.prog 57 #[.slice (some ad) kk c10,.int .i64 (rd M kk)] W fun e w'=>e=.returned (.bool (!((List.range kk).all fun j=>!(rd M j == rd M kk))))∧Below W.heap.size W w'):=⟨fun W hb=>by
       obtain ⟨k,hk⟩:=contains_ev (M.take kk) (rd M kk) (by rw [List.length_take];omega)
       have hh:=slices_Contains_int64_int64.calls k (some ad) c10 (M.take kk) (rd M kk) _ W (Kd.C_take (Kd.C_below HR10.out hb) hkk) (by rw [List.length_take];have:=HC10.out;omega) (hk k (Nat.le_refl _))
       rw [take_any M kk hkk,List.length_take,Nat.min_eq_left hkk] at hh
       exact hh.mono fun e w' ⟨he,hd⟩=>⟨he,by obtain ⟨nn,rfl⟩:=hd.out;exact pw_below_drewN (Below.refl _ _) nn⟩⟩
      have hcell:=((HT.out _ HB.out).cell (World.block_lt_of_cell? w _ hcell0)).trans hcell0
      have hcellt:=((HT.out _ HB.out).cell (World.block_lt_of_cell? w _ hcellt0)).trans hcellt0
      have HEL:Aside0 (∀ W,Below w.heap.size w W→W.cell? (adt.add kk)=some (.bool (rdOf false T kk))):=⟨fun W hb=>(hb.cell (World.block_lt_of_cell? w _ hcellt0)).trans hcellt0⟩
      clear hcell0 hcellt0
      generalize rd M kk = y at hcell HMA HY HCo
      generalize rdOf false T kk = t at hcellt HMA HEL
      obtain ⟨z0, z1, z2, z3⟩ := HSS.out _ HB.out
      cases ci:decide (-1≤y∧y≤wrap64 (wrap64 (a * b) - 1)) with
      | false =>
       rw [ci] at HY HMA
       clear ci
       have HF:=mkXIMap_ (not_all_range (p:=mapAt (wrap64 (wrap64 (a * b) - 1)) M T) hlt (HMA.out.trans (Bool.false_and _)))
       clear HMA
       go_wp2_with (first|(go_at_call 56;with_reducible refine Calls.mono (HP.out _ (HT.out _ HB.out)) ?_;rintro e W4 ⟨rfl,hb⟩;have n0_:=mkXIMap_ (bTXIMap_ HB.out hb);clear HB hb;have HB:=n0_;clear n0_;clear z0 z1 z2 z3 hcellt;obtain ⟨z0,z1,z2,z3⟩:=HSS.out _ HB.out;have hcellt:=HEL.out _ (HT.out _ HB.out))|(go_at_call 29;with_reducible refine Calls.mono (HY.out _) ?_;rintro e W5 ⟨rfl,hb⟩;have n0_:=mkXIMap_ (bTXIMap_ HB.out hb);clear HB hb;have HB:=n0_;clear n0_;clear z0 z1 z2 z3 hcellt;obtain ⟨z0,z1,z2,z3⟩:=HSS.out _ HB.out;have hcellt:=HEL.out _ (HT.out _ HB.out))|(go_at_call 57;with_reducible refine Calls.mono (HCo.out _ (HT.out _ HB.out)) ?_;rintro e W6 ⟨rfl,hb⟩;have n0_:=mkXIMap_ (bTXIMap_ HB.out hb);clear HB hb;have HB:=n0_;clear n0_;clear z0 z1 z2 z3 hcellt;obtain ⟨z0,z1,z2,z3⟩:=HSS.out _ HB.out;have hcellt:=HEL.out _ (HT.out _ HB.out)))
       go_ret
       exact ⟨by rw [HF.out]; rfl, HT.out _ HB.out⟩
      | true =>
       rw [ci] at HY HMA
       clear ci
       by_cases cn : y < 0
       ·have cn1 : decide (y < 0) = true := decide_eq_true cn
        have cn2:decide (0≤y)=false:=decide_eq_false (by omega)
        rw [cn1, cn2] at HMA
        clear cn
        cases t with
        | true =>
         have HF:=mkXIMap_ (not_all_range (p:=mapAt (wrap64 (wrap64 (a * b) - 1)) M T) hlt (HMA.out.trans rfl))
         clear HMA
         go_wp2_with (first|(go_at_call 56;with_reducible refine Calls.mono (HP.out _ (HT.out _ HB.out)) ?_;rintro e W4 ⟨rfl,hb⟩;have n0_:=mkXIMap_ (bTXIMap_ HB.out hb);clear HB hb;have HB:=n0_;clear n0_;clear z0 z1 z2 z3 hcellt;obtain ⟨z0,z1,z2,z3⟩:=HSS.out _ HB.out;have hcellt:=HEL.out _ (HT.out _ HB.out))|(go_at_call 29;with_reducible refine Calls.mono (HY.out _) ?_;rintro e W5 ⟨rfl,hb⟩;have n0_:=mkXIMap_ (bTXIMap_ HB.out hb);clear HB hb;have HB:=n0_;clear n0_;clear z0 z1 z2 z3 hcellt;obtain ⟨z0,z1,z2,z3⟩:=HSS.out _ HB.out;have hcellt:=HEL.out _ (HT.out _ HB.out))|(go_at_call 57;with_reducible refine Calls.mono (HCo.out _ (HT.out _ HB.out)) ?_;rintro e W6 ⟨rfl,hb⟩;have n0_:=mkXIMap_ (bTXIMap_ HB.out hb);clear HB hb;have HB:=n0_;clear n0_;clear z0 z1 z2 z3 hcellt;obtain ⟨z0,z1,z2,z3⟩:=HSS.out _ HB.out;have hcellt:=HEL.out _ (HT.out _ HB.out)))
         go_ret
         exact ⟨by rw [HF.out]; rfl, HT.out _ HB.out⟩
        | false =>
         have HMT:Aside0 (mapAt (wrap64 (wrap64 (a * b) - 1)) M T kk=true):=⟨HMA.out.trans (by simp)⟩
         clear HMA
         go_wp2_with (first|(go_at_call 56;with_reducible refine Calls.mono (HP.out _ (HT.out _ HB.out)) ?_;rintro e W4 ⟨rfl,hb⟩;have n0_:=mkXIMap_ (bTXIMap_ HB.out hb);clear HB hb;have HB:=n0_;clear n0_;clear z0 z1 z2 z3 hcellt;obtain ⟨z0,z1,z2,z3⟩:=HSS.out _ HB.out;have hcellt:=HEL.out _ (HT.out _ HB.out))|(go_at_call 29;with_reducible refine Calls.mono (HY.out _) ?_;rintro e W5 ⟨rfl,hb⟩;have n0_:=mkXIMap_ (bTXIMap_ HB.out hb);clear HB hb;have HB:=n0_;clear n0_;clear z0 z1 z2 z3 hcellt;obtain ⟨z0,z1,z2,z3⟩:=HSS.out _ HB.out;have hcellt:=HEL.out _ (HT.out _ HB.out))|(go_at_call 57;with_reducible refine Calls.mono (HCo.out _ (HT.out _ HB.out)) ?_;rintro e W6 ⟨rfl,hb⟩;have n0_:=mkXIMap_ (bTXIMap_ HB.out hb);clear HB hb;have HB:=n0_;clear n0_;clear z0 z1 z2 z3 hcellt;obtain ⟨z0,z1,z2,z3⟩:=HSS.out _ HB.out;have hcellt:=HEL.out _ (HT.out _ HB.out)))
         go_roundg (M.length - (kk + 1))
         case measure => omega
         case rel =>
          refine ⟨kk+1,by omega,by omega,by go_num,HB,⟨fun j hj=>?_⟩⟩
          by_cases e : j = kk
          ·subst e
           exact HMT.out
          ·exact HA.out j (by omega)
       ·have cn1:decide (y < 0)=false:=decide_eq_false cn
        have cn2:decide (0≤y)=true:=decide_eq_true (by omega)
        rw [cn1, cn2] at HMA
        clear cn
        simp only [Bool.false_and,Bool.not_false,Bool.true_and] at HMA
        cases ca:(List.range kk).all (fun j=>!(rd M j == y)) with
        | false =>
         rw [ca] at HMA HCo
         clear ca
         have HF:=mkXIMap_ (not_all_range (p:=mapAt (wrap64 (wrap64 (a * b) - 1)) M T) hlt (HMA.out.trans rfl))
         clear HMA
         go_wp2_with (first|(go_at_call 56;with_reducible refine Calls.mono (HP.out _ (HT.out _ HB.out)) ?_;rintro e W4 ⟨rfl,hb⟩;have n0_:=mkXIMap_ (bTXIMap_ HB.out hb);clear HB hb;have HB:=n0_;clear n0_;clear z0 z1 z2 z3 hcellt;obtain ⟨z0,z1,z2,z3⟩:=HSS.out _ HB.out;have hcellt:=HEL.out _ (HT.out _ HB.out))|(go_at_call 29;with_reducible refine Calls.mono (HY.out _) ?_;rintro e W5 ⟨rfl,hb⟩;have n0_:=mkXIMap_ (bTXIMap_ HB.out hb);clear HB hb;have HB:=n0_;clear n0_;clear z0 z1 z2 z3 hcellt;obtain ⟨z0,z1,z2,z3⟩:=HSS.out _ HB.out;have hcellt:=HEL.out _ (HT.out _ HB.out))|(go_at_call 57;with_reducible refine Calls.mono (HCo.out _ (HT.out _ HB.out)) ?_;rintro e W6 ⟨rfl,hb⟩;have n0_:=mkXIMap_ (bTXIMap_ HB.out hb);clear HB hb;have HB:=n0_;clear n0_;clear z0 z1 z2 z3 hcellt;obtain ⟨z0,z1,z2,z3⟩:=HSS.out _ HB.out;have hcellt:=HEL.out _ (HT.out _ HB.out)))
         go_ret
         exact ⟨by rw [HF.out]; rfl, HT.out _ HB.out⟩
        | true =>
         rw [ca] at HMA HCo
         clear ca
         have HMT:Aside0 (mapAt (wrap64 (wrap64 (a * b) - 1)) M T kk=true):=⟨HMA.out.trans rfl⟩
         clear HMA
         go_wp2_with (first|(go_at_call 56;with_reducible refine Calls.mono (HP.out _ (HT.out _ HB.out)) ?_;rintro e W4 ⟨rfl,hb⟩;have n0_:=mkXIMap_ (bTXIMap_ HB.out hb);clear HB hb;have HB:=n0_;clear n0_;clear z0 z1 z2 z3 hcellt;obtain ⟨z0,z1,z2,z3⟩:=HSS.out _ HB.out;have hcellt:=HEL.out _ (HT.out _ HB.out))|(go_at_call 29;with_reducible refine Calls.mono (HY.out _) ?_;rintro e W5 ⟨rfl,hb⟩;have n0_:=mkXIMap_ (bTXIMap_ HB.out hb);clear HB hb;have HB:=n0_;clear n0_;clear z0 z1 z2 z3 hcellt;obtain ⟨z0,z1,z2,z3⟩:=HSS.out _ HB.out;have hcellt:=HEL.out _ (HT.out _ HB.out))|(go_at_call 57;with_reducible refine Calls.mono (HCo.out _ (HT.out _ HB.out)) ?_;rintro e W6 ⟨rfl,hb⟩;have n0_:=mkXIMap_ (bTXIMap_ HB.out hb);clear HB hb;have HB:=n0_;clear n0_;clear z0 z1 z2 z3 hcellt;obtain ⟨z0,z1,z2,z3⟩:=HSS.out _ HB.out;have hcellt:=HEL.out _ (HT.out _ HB.out)))
         go_roundg (M.length - (kk + 1))
         case measure => omega
         case rel =>
          refine ⟨kk+1,by omega,by omega,by go_num,HB,⟨fun j hj=>?_⟩⟩
          by_cases e : j = kk
          ·subst e
           exact HMT.out
          ·exact HA.out j (by omega)
     ·have hlti : ¬ (kk : Int) < (M.length : Int) := by omega
      have hltb:decide ((kk:Int) < (M.length:Int))=false:=decide_eq_false hlti
      obtain rfl : kk = M.length := by omega
      have HF := Aside0.mk (all_range HA.out)
      go_wp2
      go_ret
      exact ⟨by rw [HF.out]; rfl, HT.out _ HB.out⟩
def impl_ValidMap.f (a0_0 a0_1:Int) (l0_2:List Int) (l0_3:List Bool):Option Bool:=some (mapB a0_0 a0_1 l0_2 l0_3)
end Go.Proofs.Ytajocpalpnpmdaa.Q
