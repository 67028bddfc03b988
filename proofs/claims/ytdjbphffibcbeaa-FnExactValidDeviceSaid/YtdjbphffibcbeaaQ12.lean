/- The program's functions as Lean functions,and for each the proof that the machine's call comes to what its function says. Conditions: those that stand before each theorem. -/
import Derived.Test.YtdjbphffibcbeaaQ0
import Derived.Test.YtdjbphffibcbeaaQ11
namespace Go.Proofs.Ytdjbphffibcbeaa.Q
open Go.RowKit Go.Proofs.YtdjbphffibcbeaaW.PrintWords Go.Proofs.YtdjbphffibcbeaaW.PrintLast Go.Proofs.YtdjbphffibcbeaaW.PrintMore
abbrev kN12_ := @blk_drewN
abbrev kD12_ := @blk_drew
abbrev rN12_ := @Kd.R_drewN
abbrev bA12_ := @below_alloc
abbrev bN12_ := @pw_below_drewN
abbrev bD12_ := @below_drew1
abbrev bS12_ := @below_set
abbrev mk12_ := @Aside0.mk
abbrev fZ12_ := @blk_frozen
abbrev sB12_ := @Kd.S_below
abbrev bT12_ := @below_step
abbrev bZ12_ := @below_size
set_option linter.unusedVariables false
set_option linter.unusedSimpArgs false

def laws_eqZoneS.l0 : Nat → List (S50) → List (S50) → Int → Option (Bool)
 | 0, _, _, _ => none
 | k+1,x0,x1,x5=>if x5 < (x0.length:Int) then (if 0≤x5 then (if x5 < (x1.length:Int) then ((laws_eqZone.f k ((rd_T50 x0 x5).f0) ((rd_T50 x0 x5).f1) ((rd_T50 x0 x5).f2) ((rd_T50 x0 x5).f3) ((rd_T50 x0 x5).f4) ((rd_T50 x0 x5).f5) ((rd_T50 x1 x5).f0) ((rd_T50 x1 x5).f1) ((rd_T50 x1 x5).f2) ((rd_T50 x1 x5).f3) ((rd_T50 x1 x5).f4) ((rd_T50 x1 x5).f5)).bind fun t298=>(if t298=true then (laws_eqZoneS.l0 k x0 x1 (wrap64 (x5+1))) else (some false))) else (none)) else (none)) else (some true)
def laws_eqZoneS.f (k:Nat) (l0:List (S50)) (l1:List (S50)):Option (Bool):=if (l0.length:Int)=(l1.length:Int) then (laws_eqZoneS.l0 k l0 l1 0) else (some false)
def laws_eqZoneS.T6:Bool × List (List Nat × List Nat):=(true,[([],[]),([],[]),([0,1],[0,1]),([2],[2]),([],[]),([],[]),([4,5],[4,5]),([6],[6]),([3,7],[3,7]),([8],[8])])
def laws_eqZoneS.B6 : List Nat := [0, 0, 3, 7, 0, 0, 48, 112, 255, 511]
theorem laws_eqZoneS.tab6 : rtab .any (opsOf Try.f28 6) = laws_eqZoneS.T6 := by kernel_rfl
theorem laws_eqZoneS.bits6 : waitsOk laws_eqZoneS.T6.2 laws_eqZoneS.B6 = true := by kernel_rfl
set_option maxHeartbeats 8000000 in
set_option maxRecDepth 100000 in
theorem laws_eqZoneS.calls (k:Nat) (A0:Option Addr) (c0:Nat) (l0:List (S50)) (A1:Option Addr) (c1:Nat) (l1:List (S50)) (r:Bool) (w:World) (hr0:Kd.C k50 w A0 l0.length l0) (hc0:l0.length≤c0) (hr1:Kd.C k50 w A1 l1.length l1) (hc1:l1.length≤c1) (h:laws_eqZoneS.f k l0 l1=some r) :
  Calls Try.prog 28 #[.slice A0 l0.length c0,.slice A1 l1.length c1] w fun e w'=>e=.returned (.bool r)∧Below w.heap.size w w':=by
 have hu50 := Try.underlying50
 have HR0 := Aside0.mk hr0
 have HC0 := Aside0.mk hc0
 clear hr0 hc0
 have HR1 := Aside0.mk hr1
 have HC1 := Aside0.mk hc1
 clear hr1 hc1
 have HB := Aside0.mk (Below.refl w.heap.size w)
 have H:(if (l0.length:Int)=(l1.length:Int) then (laws_eqZoneS.l0 k l0 l1 0) else (some false))=some r:=h
 clear h
 by_cases c3 : (l0.length : Int) = (l1.length : Int)
 ·rw [if_pos c3] at H
  have c3b0 : ((l0.length : Int) == (l1.length : Int)) = true := beq_iff_eq.mpr c3
  have c3b1 : ((l0.length : Int) != (l1.length : Int)) = false := bne_eq_false_iff_eq.mpr c3
  have c3b2:(l0.length == l1.length)=true:=by first|simpa using c3|(simp at c3 ⊢;omega)
  clear c3
  have H' := Aside0.mk H
  clear H
  go_enter Try.func28, Try.ntmps28
  go_wp2
  go_loopg [5] k (fun kq v5 w'=>∃ (x5_1:Int),v5=.int .i64 x5_1∧Aside0 (laws_eqZoneS.l0 kq l0 l1 x5_1=some r)∧Aside0 (kq≤k)∧Aside0 (Below w.heap.size w w'))
  case atStart=>exact ⟨(0),(by first|rfl|(simp;done)|(simp [*];done)),H',⟨Nat.le_refl _⟩,⟨by repeat (first|(with_reducible first|exact HB.out|apply bA12_|apply bN12_|apply bD12_)|exact HB.out)⟩⟩
  case round =>
   clear H'
   try clear c1
   try clear c2
   try clear p2
   try clear c3
   try clear c3b0
   try clear c3b1
   try clear c3b2
   obtain ⟨x5_1, rfl, HA, HK1, HB⟩ := hrel
   cases gk with
   | zero => exact absurd HA.out (by simp [laws_eqZoneS.l0])
   | succ k1 =>
    have H := HA.out
    clear HA
    simp only [laws_eqZoneS.l0] at H
    by_cases c4 : x5_1 < (l0.length : Int)
    ·rw [if_pos c4] at H
     have c4b0 : decide (x5_1 < (l0.length : Int)) = true := decide_eq_true c4
     clear c4
     by_cases c5 : 0 ≤ x5_1
     ·rw [if_pos c5] at H
      have c5b0 : decide (0 ≤ x5_1) = true := decide_eq_true c5
      clear c5
      by_cases c6 : x5_1 < (l1.length : Int)
      ·rw [if_pos c6] at H
       have c6b0 : decide (x5_1 < (l1.length : Int)) = true := decide_eq_true c6
       clear c6
       replace H := Option.bind_eq_some_iff.mp H
       obtain ⟨t298, A70, H⟩ := H
       replace H:(if t298=true then (laws_eqZoneS.l0 k1 l0 l1 (wrap64 (x5_1+1))) else (some false))=some r:=H
       have A7 := Aside0.mk A70
       clear A70
       by_cases c8 : t298 = true
       ·subst c8
        have H1:(laws_eqZoneS.l0 k1 l0 l1 (wrap64 (x5_1+1)))=some r:=by rw [if_pos rfl] at H;exact H
        clear H
        have H := H1
        clear H1
        have H' := Aside0.mk H
        clear H
        try go_wp2
        have n0_ := Aside0.mk (below_drew1 HB.out)
        clear HB
        have HB := n0_
        clear n0_
        have p296:0≤(x5_1:Int):=of_decide_eq_true (by first|(with_reducible assumption)|assumption)
        have q296:x5_1 < (l0.length:Int):=of_decide_eq_true (by first|(with_reducible assumption)|assumption)
        obtain ⟨ad296,A296_1,c296_1,A296_4,c296_4,A296_5,c296_5,e296,hx296_0,hx296_1,hx296_2,hx296_3,hx296_4,hx296_5,hl296_1,hi296_1,hl296_4,hi296_4,hl296_5,hi296_5⟩:=at_T50 HR0.out x5_1 p296 q296
        have hw296_5 := hx296_5
        have hw296_4 := hx296_4
        have hw296_3 := hx296_3
        have hw296_2 := hx296_2
        have hw296_1 := hx296_1
        have hw296_0 := hx296_0
        cases e296
        replace hx296_0:=(HB.out.cell (World.block_lt_of_cell? w _ hx296_0)).trans hx296_0
        replace hx296_1:=(HB.out.cell (World.block_lt_of_cell? w _ hx296_1)).trans hx296_1
        replace hx296_2:=(HB.out.cell (World.block_lt_of_cell? w _ hx296_2)).trans hx296_2
        replace hx296_3:=(HB.out.cell (World.block_lt_of_cell? w _ hx296_3)).trans hx296_3
        replace hx296_4:=(HB.out.cell (World.block_lt_of_cell? w _ hx296_4)).trans hx296_4
        replace hx296_5:=(HB.out.cell (World.block_lt_of_cell? w _ hx296_5)).trans hx296_5
        have HR296_1 := Aside0.mk hi296_1
        have HC296_1 := Aside0.mk hl296_1
        clear hi296_1 hl296_1
        have HR296_4 := Aside0.mk hi296_4
        have HC296_4 := Aside0.mk hl296_4
        clear hi296_4 hl296_4
        have HR296_5 := Aside0.mk hi296_5
        have HC296_5 := Aside0.mk hl296_5
        clear hi296_5 hl296_5
        replace p296 := eq_true p296
        replace q296 := eq_true q296
        have p297:0≤(x5_1:Int):=of_decide_eq_true (by first|(with_reducible assumption)|assumption)
        have q297:x5_1 < (l1.length:Int):=of_decide_eq_true (by first|(with_reducible assumption)|assumption)
        obtain ⟨ad297,A297_1,c297_1,A297_4,c297_4,A297_5,c297_5,e297,hx297_0,hx297_1,hx297_2,hx297_3,hx297_4,hx297_5,hl297_1,hi297_1,hl297_4,hi297_4,hl297_5,hi297_5⟩:=at_T50 HR1.out x5_1 p297 q297
        have hw297_5 := hx297_5
        have hw297_4 := hx297_4
        have hw297_3 := hx297_3
        have hw297_2 := hx297_2
        have hw297_1 := hx297_1
        have hw297_0 := hx297_0
        cases e297
        replace hx297_0:=(HB.out.cell (World.block_lt_of_cell? w _ hx297_0)).trans hx297_0
        replace hx297_1:=(HB.out.cell (World.block_lt_of_cell? w _ hx297_1)).trans hx297_1
        replace hx297_2:=(HB.out.cell (World.block_lt_of_cell? w _ hx297_2)).trans hx297_2
        replace hx297_3:=(HB.out.cell (World.block_lt_of_cell? w _ hx297_3)).trans hx297_3
        replace hx297_4:=(HB.out.cell (World.block_lt_of_cell? w _ hx297_4)).trans hx297_4
        replace hx297_5:=(HB.out.cell (World.block_lt_of_cell? w _ hx297_5)).trans hx297_5
        have HR297_1 := Aside0.mk hi297_1
        have HC297_1 := Aside0.mk hl297_1
        clear hi297_1 hl297_1
        have HR297_4 := Aside0.mk hi297_4
        have HC297_4 := Aside0.mk hl297_4
        clear hi297_4 hl297_4
        have HR297_5 := Aside0.mk hi297_5
        have HC297_5 := Aside0.mk hl297_5
        clear hi297_5 hl297_5
        replace p297 := eq_true p297
        replace q297 := eq_true q297
        refine start_ (n:=10) (S:=fun w'=>w'.cell? (ad296.add ((x5_1).toNat * 6))=some (.int .i64 ((rd_T50 l0 x5_1).f0))∧w'.cell? ⟨(ad296.add ((x5_1).toNat * 6)).block,(ad296.add ((x5_1).toNat * 6)).off+1,none⟩=some (.slice A296_1 ((rd_T50 l0 x5_1).f1).length c296_1)∧w'.cell? ⟨(ad296.add ((x5_1).toNat * 6)).block,(ad296.add ((x5_1).toNat * 6)).off+2,none⟩=some (.int .i64 ((rd_T50 l0 x5_1).f2))∧w'.cell? ⟨(ad296.add ((x5_1).toNat * 6)).block,(ad296.add ((x5_1).toNat * 6)).off+3,none⟩=some (.int .i64 ((rd_T50 l0 x5_1).f3))∧w'.cell? ⟨(ad296.add ((x5_1).toNat * 6)).block,(ad296.add ((x5_1).toNat * 6)).off+4,none⟩=some (.slice A296_4 ((rd_T50 l0 x5_1).f4).length c296_4)∧w'.cell? ⟨(ad296.add ((x5_1).toNat * 6)).block,(ad296.add ((x5_1).toNat * 6)).off+5,none⟩=some (.slice A296_5 ((rd_T50 l0 x5_1).f5).length c296_5)∧w'.cell? (ad297.add ((x5_1).toNat * 6))=some (.int .i64 ((rd_T50 l1 x5_1).f0))∧w'.cell? ⟨(ad297.add ((x5_1).toNat * 6)).block,(ad297.add ((x5_1).toNat * 6)).off+1,none⟩=some (.slice A297_1 ((rd_T50 l1 x5_1).f1).length c297_1)∧w'.cell? ⟨(ad297.add ((x5_1).toNat * 6)).block,(ad297.add ((x5_1).toNat * 6)).off+2,none⟩=some (.int .i64 ((rd_T50 l1 x5_1).f2))∧w'.cell? ⟨(ad297.add ((x5_1).toNat * 6)).block,(ad297.add ((x5_1).toNat * 6)).off+3,none⟩=some (.int .i64 ((rd_T50 l1 x5_1).f3))∧w'.cell? ⟨(ad297.add ((x5_1).toNat * 6)).block,(ad297.add ((x5_1).toNat * 6)).off+4,none⟩=some (.slice A297_4 ((rd_T50 l1 x5_1).f4).length c297_4)∧w'.cell? ⟨(ad297.add ((x5_1).toNat * 6)).block,(ad297.add ((x5_1).toNat * 6)).off+5,none⟩=some (.slice A297_5 ((rd_T50 l1 x5_1).f5).length c297_5)) (ds:=[]) #[false,false,false,false,false,false,false,false,false,false] (by kernel_rfl) rfl rfl ⟨((HB.out.cell (World.block_lt_of_cell? w _ hw296_0)).trans hw296_0),((HB.out.cell (World.block_lt_of_cell? w _ hw296_1)).trans hw296_1),((HB.out.cell (World.block_lt_of_cell? w _ hw296_2)).trans hw296_2),((HB.out.cell (World.block_lt_of_cell? w _ hw296_3)).trans hw296_3),((HB.out.cell (World.block_lt_of_cell? w _ hw296_4)).trans hw296_4),((HB.out.cell (World.block_lt_of_cell? w _ hw296_5)).trans hw296_5),((HB.out.cell (World.block_lt_of_cell? w _ hw297_0)).trans hw297_0),((HB.out.cell (World.block_lt_of_cell? w _ hw297_1)).trans hw297_1),((HB.out.cell (World.block_lt_of_cell? w _ hw297_2)).trans hw297_2),((HB.out.cell (World.block_lt_of_cell? w _ hw297_3)).trans hw297_3),((HB.out.cell (World.block_lt_of_cell? w _ hw297_4)).trans hw297_4),((HB.out.cell (World.block_lt_of_cell? w _ hw297_5)).trans hw297_5)⟩ (fun hHeld=>?_);refine with_tabW laws_eqZoneS.tab6 laws_eqZoneS.bits6 (fun HT_ HW_=>?_)
        generalize wr.drew=w9 at HB HR296_1 HR296_4 HR296_5 HR297_1 HR297_4 HR297_5 hx296_0 hx296_1 hx296_2 hx296_3 hx296_4 hx296_5 hx297_0 hx297_1 hx297_2 hx297_3 hx297_4 hx297_5 hHeld ⊢
        refine pure_ (i:=0) (N:=some 17) (v:=?_) (a':=?_) #[true,false,false,false,false,false,false,false,false,false] rfl rfl (any_of HT_.out (by kernel_rfl)) (fun _ _ _ h=>h) (Or.inl ⟨by rfl,?_⟩) ?_ ?_
        rotate_left
        ·intro w'
         go_simp
         with_reducible rfl
        rotate_left
        ·simp only [Act.put,List.setIfInBounds_toArray,List.set_cons_zero,List.set_cons_succ,i64_w,i32_w]
         rfl
        refine pure_ (i:=1) (N:=some 18) (v:=?_) (a':=?_) #[true,true,false,false,false,false,false,false,false,false] rfl rfl (any_of HT_.out (by kernel_rfl)) (fun _ _ _ h=>h) (Or.inl ⟨by rfl,?_⟩) ?_ ?_
        rotate_left
        ·intro w'
         go_simp
         with_reducible rfl
        rotate_left
        ·simp only [Act.put,List.setIfInBounds_toArray,List.set_cons_zero,List.set_cons_succ,i64_w,i32_w]
         rfl
        refine pure_ (i:=2) (N:=some 19) (v:=?_) (a':=?_) #[true,true,true,false,false,false,false,false,false,false] rfl rfl (any_of HT_.out (by kernel_rfl)) (fun _ _ _ h=>h) (Or.inl ⟨by rfl,?_⟩) ?_ ?_
        rotate_left
        ·intro w'
         go_simp
         with_reducible rfl
        rotate_left
        ·simp only [Act.put,List.setIfInBounds_toArray,List.set_cons_zero,List.set_cons_succ,i64_w,i32_w]
         rfl
        refine pure_ (i:=4) (N:=some 21) (v:=?_) (a':=?_) #[true,true,true,false,true,false,false,false,false,false] rfl rfl (any_of HT_.out (by kernel_rfl)) (fun _ _ _ h=>h) (Or.inl ⟨by rfl,?_⟩) ?_ ?_
        rotate_left
        ·intro w'
         go_simp
         with_reducible rfl
        rotate_left
        ·simp only [Act.put,List.setIfInBounds_toArray,List.set_cons_zero,List.set_cons_succ,i64_w,i32_w]
         rfl
        refine pure_ (i:=5) (N:=some 22) (v:=?_) (a':=?_) #[true,true,true,false,true,true,false,false,false,false] rfl rfl (any_of HT_.out (by kernel_rfl)) (fun _ _ _ h=>h) (Or.inl ⟨by rfl,?_⟩) ?_ ?_
        rotate_left
        ·intro w'
         go_simp
         with_reducible rfl
        rotate_left
        ·simp only [Act.put,List.setIfInBounds_toArray,List.set_cons_zero,List.set_cons_succ,i64_w,i32_w]
         rfl
        refine pure_ (i:=6) (N:=some 23) (v:=?_) (a':=?_) #[true,true,true,false,true,true,true,false,false,false] rfl rfl (any_of HT_.out (by kernel_rfl)) (fun _ _ _ h=>h) (Or.inl ⟨by rfl,?_⟩) ?_ ?_
        rotate_left
        ·intro w'
         go_simp
         with_reducible rfl
        rotate_left
        ·simp only [Act.put,List.setIfInBounds_toArray,List.set_cons_zero,List.set_cons_succ,i64_w,i32_w]
         rfl
        refine take_ (i:=3) (N:=some 20) (v:=?_) (a':=?_) #[true,true,true,true,true,true,true,false,false,false] rfl rfl (take_ofW HT_.out HW_.out (by kernel_rfl)) (fun _ _ _ h=>h) (Or.inl ⟨by rfl,?_⟩) hHeld ?_ ?_
        rotate_left
        ·rintro w' ⟨s0, s1, s2, s3, s4, s5, s6, s7, s8, s9, s10, s11⟩
         go_simp
         with_reducible rfl
        rotate_left
        ·simp only [Act.put,List.setIfInBounds_toArray,List.set_cons_zero,List.set_cons_succ,i64_w,i32_w]
         rfl
        refine take_ (i:=7) (N:=some 24) (v:=?_) (a':=?_) #[true,true,true,true,true,true,true,true,false,false] rfl rfl (take_ofW HT_.out HW_.out (by kernel_rfl)) (fun _ _ _ h=>h) (Or.inl ⟨by rfl,?_⟩) hHeld ?_ ?_
        rotate_left
        ·rintro w' ⟨s0, s1, s2, s3, s4, s5, s6, s7, s8, s9, s10, s11⟩
         go_simp
         with_reducible rfl
        rotate_left
        ·simp only [Act.put,List.setIfInBounds_toArray,List.set_cons_zero,List.set_cons_succ,i64_w,i32_w]
         rfl
        refine one_ (i:=8) (N:=some 25) #[true,true,true,true,true,true,true,true,true,false] rfl rfl (one_of HT_.out (by kernel_rfl)) (by decide) (fun K hK=>?_)
        refine goes_ Try.func52 (by kernel_rfl) rfl #[.agg #[.int .i64 ((rd_T50 l0 x5_1).f0),.slice A296_1 ((rd_T50 l0 x5_1).f1).length c296_1,.int .i64 ((rd_T50 l0 x5_1).f2),.int .i64 ((rd_T50 l0 x5_1).f3),.slice A296_4 ((rd_T50 l0 x5_1).f4).length c296_4,.slice A296_5 ((rd_T50 l0 x5_1).f5).length c296_5],.agg #[.int .i64 ((rd_T50 l1 x5_1).f0),.slice A297_1 ((rd_T50 l1 x5_1).f1).length c297_1,.int .i64 ((rd_T50 l1 x5_1).f2),.int .i64 ((rd_T50 l1 x5_1).f3),.slice A297_4 ((rd_T50 l1 x5_1).f4).length c297_4,.slice A297_5 ((rd_T50 l1 x5_1).f5).length c297_5]] (by rfl) rfl rfl (by (try simp only [List.map_toArray,List.map_cons,List.map_nil]);first|done|rfl|(simp only [List.length_drop,List.length_take];rfl)) ?_
        with_reducible refine (laws_eqZone.calls k1 ((rd_T50 l0 x5_1).f0) _ _ ((rd_T50 l0 x5_1).f1) ((rd_T50 l0 x5_1).f2) ((rd_T50 l0 x5_1).f3) _ _ ((rd_T50 l0 x5_1).f4) _ _ ((rd_T50 l0 x5_1).f5) ((rd_T50 l1 x5_1).f0) _ _ ((rd_T50 l1 x5_1).f1) ((rd_T50 l1 x5_1).f2) ((rd_T50 l1 x5_1).f3) _ _ ((rd_T50 l1 x5_1).f4) _ _ ((rd_T50 l1 x5_1).f5) true _ ?side1 ?side2 ?side3 ?side4 ?side5 ?side6 ?side7 ?side8 ?side9 ?side10 ?side11 ?side12 A7.out).mono ?_
        (case side1=>repeat (first|exact (Kd.C_below HR296_1.out HB.out)|(with_reducible refine Kd.C_alloc ?_ _)|(with_reducible refine Kd.C_drewN ?_ _)|(with_reducible refine Kd.C_drew ?_)))
        (case side2 => exact HC296_1.out)
        (case side3=>repeat (first|exact (Kd.C_below HR296_4.out HB.out)|(with_reducible refine Kd.C_alloc ?_ _)|(with_reducible refine Kd.C_drewN ?_ _)|(with_reducible refine Kd.C_drew ?_)))
        (case side4 => exact HC296_4.out)
        (case side5=>repeat (first|exact (Kd.C_below HR296_5.out HB.out)|(with_reducible refine Kd.C_alloc ?_ _)|(with_reducible refine Kd.C_drewN ?_ _)|(with_reducible refine Kd.C_drew ?_)))
        (case side6 => exact HC296_5.out)
        (case side7=>repeat (first|exact (Kd.C_below HR297_1.out HB.out)|(with_reducible refine Kd.C_alloc ?_ _)|(with_reducible refine Kd.C_drewN ?_ _)|(with_reducible refine Kd.C_drew ?_)))
        (case side8 => exact HC297_1.out)
        (case side9=>repeat (first|exact (Kd.C_below HR297_4.out HB.out)|(with_reducible refine Kd.C_alloc ?_ _)|(with_reducible refine Kd.C_drewN ?_ _)|(with_reducible refine Kd.C_drew ?_)))
        (case side10 => exact HC297_4.out)
        (case side11=>repeat (first|exact (Kd.C_below HR297_5.out HB.out)|(with_reducible refine Kd.C_alloc ?_ _)|(with_reducible refine Kd.C_drewN ?_ _)|(with_reducible refine Kd.C_drew ?_)))
        (case side12 => exact HC297_5.out)
        rintro e w10 ⟨rfl, hb⟩
        refine ⟨_, rfl, ?_⟩
        have n0_:=mk12_ (bT12_ (by repeat (first|(with_reducible first|exact HB.out|apply bA12_|apply bN12_|apply bD12_)|exact HB.out)) hb)
        clear HB
        have HB := n0_
        clear n0_
        (try clear hb)
        (try clear hb2)
        (try clear hk)
        (try clear hi)
        refine hK.out _ _ ⟨((HB.out.cell (World.block_lt_of_cell? w _ hw296_0)).trans hw296_0),((HB.out.cell (World.block_lt_of_cell? w _ hw296_1)).trans hw296_1),((HB.out.cell (World.block_lt_of_cell? w _ hw296_2)).trans hw296_2),((HB.out.cell (World.block_lt_of_cell? w _ hw296_3)).trans hw296_3),((HB.out.cell (World.block_lt_of_cell? w _ hw296_4)).trans hw296_4),((HB.out.cell (World.block_lt_of_cell? w _ hw296_5)).trans hw296_5),((HB.out.cell (World.block_lt_of_cell? w _ hw297_0)).trans hw297_0),((HB.out.cell (World.block_lt_of_cell? w _ hw297_1)).trans hw297_1),((HB.out.cell (World.block_lt_of_cell? w _ hw297_2)).trans hw297_2),((HB.out.cell (World.block_lt_of_cell? w _ hw297_3)).trans hw297_3),((HB.out.cell (World.block_lt_of_cell? w _ hw297_4)).trans hw297_4),((HB.out.cell (World.block_lt_of_cell? w _ hw297_5)).trans hw297_5)⟩ (fun hHeld=>?_)
        clear hK K
        refine norm_ (a' := ?_) ?_ ?_
        rotate_left
        ·show Act.put _ (some 25) _ = _
         simp only [Act.put,List.setIfInBounds_toArray,List.set_cons_zero,List.set_cons_succ,i64_w,i32_w]
         rfl
        refine pure_ (i:=9) (N:=some 26) (v:=?_) (a':=?_) #[true,true,true,true,true,true,true,true,true,true] rfl rfl (any_of HT_.out (by kernel_rfl)) (fun _ _ _ h=>h) (Or.inl ⟨by rfl,?_⟩) ?_ ?_
        rotate_left
        ·intro w'
         go_simp
         with_reducible rfl
        rotate_left
        ·simp only [Act.put,List.setIfInBounds_toArray,List.set_cons_zero,List.set_cons_succ,i64_w,i32_w]
         rfl
        refine done_ (done_of HT_.out (by kernel_rfl)) ?_
        try go_wp2
        go_roundg k1
        case measure => have := HK1.out; omega
        case rel=>exact ⟨(wrap64 (x5_1+1)),(by first|rfl|(simp;done)|(simp [*];done)),H',⟨by have:=HK1.out;omega⟩,⟨by repeat (first|(with_reducible first|exact HB.out|apply bA12_|apply bN12_|apply bD12_)|exact HB.out)⟩⟩
       ·replace c8 := Bool.eq_false_iff.mpr c8
        subst c8
        have H1:(some false)=some r:=by rw [if_neg (show ¬ (false=true) by decide)] at H;exact H
        clear H
        have H := H1
        clear H1
        obtain rfl := Option.some.inj H
        try go_wp2
        have n0_ := Aside0.mk (below_drew1 HB.out)
        clear HB
        have HB := n0_
        clear n0_
        have p296:0≤(x5_1:Int):=of_decide_eq_true (by first|(with_reducible assumption)|assumption)
        have q296:x5_1 < (l0.length:Int):=of_decide_eq_true (by first|(with_reducible assumption)|assumption)
        obtain ⟨ad296,A296_1,c296_1,A296_4,c296_4,A296_5,c296_5,e296,hx296_0,hx296_1,hx296_2,hx296_3,hx296_4,hx296_5,hl296_1,hi296_1,hl296_4,hi296_4,hl296_5,hi296_5⟩:=at_T50 HR0.out x5_1 p296 q296
        have hw296_5 := hx296_5
        have hw296_4 := hx296_4
        have hw296_3 := hx296_3
        have hw296_2 := hx296_2
        have hw296_1 := hx296_1
        have hw296_0 := hx296_0
        cases e296
        replace hx296_0:=(HB.out.cell (World.block_lt_of_cell? w _ hx296_0)).trans hx296_0
        replace hx296_1:=(HB.out.cell (World.block_lt_of_cell? w _ hx296_1)).trans hx296_1
        replace hx296_2:=(HB.out.cell (World.block_lt_of_cell? w _ hx296_2)).trans hx296_2
        replace hx296_3:=(HB.out.cell (World.block_lt_of_cell? w _ hx296_3)).trans hx296_3
        replace hx296_4:=(HB.out.cell (World.block_lt_of_cell? w _ hx296_4)).trans hx296_4
        replace hx296_5:=(HB.out.cell (World.block_lt_of_cell? w _ hx296_5)).trans hx296_5
        have HR296_1 := Aside0.mk hi296_1
        have HC296_1 := Aside0.mk hl296_1
        clear hi296_1 hl296_1
        have HR296_4 := Aside0.mk hi296_4
        have HC296_4 := Aside0.mk hl296_4
        clear hi296_4 hl296_4
        have HR296_5 := Aside0.mk hi296_5
        have HC296_5 := Aside0.mk hl296_5
        clear hi296_5 hl296_5
        replace p296 := eq_true p296
        replace q296 := eq_true q296
        have p297:0≤(x5_1:Int):=of_decide_eq_true (by first|(with_reducible assumption)|assumption)
        have q297:x5_1 < (l1.length:Int):=of_decide_eq_true (by first|(with_reducible assumption)|assumption)
        obtain ⟨ad297,A297_1,c297_1,A297_4,c297_4,A297_5,c297_5,e297,hx297_0,hx297_1,hx297_2,hx297_3,hx297_4,hx297_5,hl297_1,hi297_1,hl297_4,hi297_4,hl297_5,hi297_5⟩:=at_T50 HR1.out x5_1 p297 q297
        have hw297_5 := hx297_5
        have hw297_4 := hx297_4
        have hw297_3 := hx297_3
        have hw297_2 := hx297_2
        have hw297_1 := hx297_1
        have hw297_0 := hx297_0
        cases e297
        replace hx297_0:=(HB.out.cell (World.block_lt_of_cell? w _ hx297_0)).trans hx297_0
        replace hx297_1:=(HB.out.cell (World.block_lt_of_cell? w _ hx297_1)).trans hx297_1
        replace hx297_2:=(HB.out.cell (World.block_lt_of_cell? w _ hx297_2)).trans hx297_2
        replace hx297_3:=(HB.out.cell (World.block_lt_of_cell? w _ hx297_3)).trans hx297_3
        replace hx297_4:=(HB.out.cell (World.block_lt_of_cell? w _ hx297_4)).trans hx297_4
        replace hx297_5:=(HB.out.cell (World.block_lt_of_cell? w _ hx297_5)).trans hx297_5
        have HR297_1 := Aside0.mk hi297_1
        have HC297_1 := Aside0.mk hl297_1
        clear hi297_1 hl297_1
        have HR297_4 := Aside0.mk hi297_4
        have HC297_4 := Aside0.mk hl297_4
        clear hi297_4 hl297_4
        have HR297_5 := Aside0.mk hi297_5
        have HC297_5 := Aside0.mk hl297_5
        clear hi297_5 hl297_5
        replace p297 := eq_true p297
        replace q297 := eq_true q297
        refine start_ (n:=10) (S:=fun w'=>w'.cell? (ad296.add ((x5_1).toNat * 6))=some (.int .i64 ((rd_T50 l0 x5_1).f0))∧w'.cell? ⟨(ad296.add ((x5_1).toNat * 6)).block,(ad296.add ((x5_1).toNat * 6)).off+1,none⟩=some (.slice A296_1 ((rd_T50 l0 x5_1).f1).length c296_1)∧w'.cell? ⟨(ad296.add ((x5_1).toNat * 6)).block,(ad296.add ((x5_1).toNat * 6)).off+2,none⟩=some (.int .i64 ((rd_T50 l0 x5_1).f2))∧w'.cell? ⟨(ad296.add ((x5_1).toNat * 6)).block,(ad296.add ((x5_1).toNat * 6)).off+3,none⟩=some (.int .i64 ((rd_T50 l0 x5_1).f3))∧w'.cell? ⟨(ad296.add ((x5_1).toNat * 6)).block,(ad296.add ((x5_1).toNat * 6)).off+4,none⟩=some (.slice A296_4 ((rd_T50 l0 x5_1).f4).length c296_4)∧w'.cell? ⟨(ad296.add ((x5_1).toNat * 6)).block,(ad296.add ((x5_1).toNat * 6)).off+5,none⟩=some (.slice A296_5 ((rd_T50 l0 x5_1).f5).length c296_5)∧w'.cell? (ad297.add ((x5_1).toNat * 6))=some (.int .i64 ((rd_T50 l1 x5_1).f0))∧w'.cell? ⟨(ad297.add ((x5_1).toNat * 6)).block,(ad297.add ((x5_1).toNat * 6)).off+1,none⟩=some (.slice A297_1 ((rd_T50 l1 x5_1).f1).length c297_1)∧w'.cell? ⟨(ad297.add ((x5_1).toNat * 6)).block,(ad297.add ((x5_1).toNat * 6)).off+2,none⟩=some (.int .i64 ((rd_T50 l1 x5_1).f2))∧w'.cell? ⟨(ad297.add ((x5_1).toNat * 6)).block,(ad297.add ((x5_1).toNat * 6)).off+3,none⟩=some (.int .i64 ((rd_T50 l1 x5_1).f3))∧w'.cell? ⟨(ad297.add ((x5_1).toNat * 6)).block,(ad297.add ((x5_1).toNat * 6)).off+4,none⟩=some (.slice A297_4 ((rd_T50 l1 x5_1).f4).length c297_4)∧w'.cell? ⟨(ad297.add ((x5_1).toNat * 6)).block,(ad297.add ((x5_1).toNat * 6)).off+5,none⟩=some (.slice A297_5 ((rd_T50 l1 x5_1).f5).length c297_5)) (ds:=[]) #[false,false,false,false,false,false,false,false,false,false] (by kernel_rfl) rfl rfl ⟨((HB.out.cell (World.block_lt_of_cell? w _ hw296_0)).trans hw296_0),((HB.out.cell (World.block_lt_of_cell? w _ hw296_1)).trans hw296_1),((HB.out.cell (World.block_lt_of_cell? w _ hw296_2)).trans hw296_2),((HB.out.cell (World.block_lt_of_cell? w _ hw296_3)).trans hw296_3),((HB.out.cell (World.block_lt_of_cell? w _ hw296_4)).trans hw296_4),((HB.out.cell (World.block_lt_of_cell? w _ hw296_5)).trans hw296_5),((HB.out.cell (World.block_lt_of_cell? w _ hw297_0)).trans hw297_0),((HB.out.cell (World.block_lt_of_cell? w _ hw297_1)).trans hw297_1),((HB.out.cell (World.block_lt_of_cell? w _ hw297_2)).trans hw297_2),((HB.out.cell (World.block_lt_of_cell? w _ hw297_3)).trans hw297_3),((HB.out.cell (World.block_lt_of_cell? w _ hw297_4)).trans hw297_4),((HB.out.cell (World.block_lt_of_cell? w _ hw297_5)).trans hw297_5)⟩ (fun hHeld=>?_);refine with_tabW laws_eqZoneS.tab6 laws_eqZoneS.bits6 (fun HT_ HW_=>?_)
        generalize wr.drew=w11 at HB HR296_1 HR296_4 HR296_5 HR297_1 HR297_4 HR297_5 hx296_0 hx296_1 hx296_2 hx296_3 hx296_4 hx296_5 hx297_0 hx297_1 hx297_2 hx297_3 hx297_4 hx297_5 hHeld ⊢
        refine pure_ (i:=0) (N:=some 17) (v:=?_) (a':=?_) #[true,false,false,false,false,false,false,false,false,false] rfl rfl (any_of HT_.out (by kernel_rfl)) (fun _ _ _ h=>h) (Or.inl ⟨by rfl,?_⟩) ?_ ?_
        rotate_left
        ·intro w'
         go_simp
         with_reducible rfl
        rotate_left
        ·simp only [Act.put,List.setIfInBounds_toArray,List.set_cons_zero,List.set_cons_succ,i64_w,i32_w]
         rfl
        refine pure_ (i:=1) (N:=some 18) (v:=?_) (a':=?_) #[true,true,false,false,false,false,false,false,false,false] rfl rfl (any_of HT_.out (by kernel_rfl)) (fun _ _ _ h=>h) (Or.inl ⟨by rfl,?_⟩) ?_ ?_
        rotate_left
        ·intro w'
         go_simp
         with_reducible rfl
        rotate_left
        ·simp only [Act.put,List.setIfInBounds_toArray,List.set_cons_zero,List.set_cons_succ,i64_w,i32_w]
         rfl
        refine pure_ (i:=2) (N:=some 19) (v:=?_) (a':=?_) #[true,true,true,false,false,false,false,false,false,false] rfl rfl (any_of HT_.out (by kernel_rfl)) (fun _ _ _ h=>h) (Or.inl ⟨by rfl,?_⟩) ?_ ?_
        rotate_left
        ·intro w'
         go_simp
         with_reducible rfl
        rotate_left
        ·simp only [Act.put,List.setIfInBounds_toArray,List.set_cons_zero,List.set_cons_succ,i64_w,i32_w]
         rfl
        refine pure_ (i:=4) (N:=some 21) (v:=?_) (a':=?_) #[true,true,true,false,true,false,false,false,false,false] rfl rfl (any_of HT_.out (by kernel_rfl)) (fun _ _ _ h=>h) (Or.inl ⟨by rfl,?_⟩) ?_ ?_
        rotate_left
        ·intro w'
         go_simp
         with_reducible rfl
        rotate_left
        ·simp only [Act.put,List.setIfInBounds_toArray,List.set_cons_zero,List.set_cons_succ,i64_w,i32_w]
         rfl
        refine pure_ (i:=5) (N:=some 22) (v:=?_) (a':=?_) #[true,true,true,false,true,true,false,false,false,false] rfl rfl (any_of HT_.out (by kernel_rfl)) (fun _ _ _ h=>h) (Or.inl ⟨by rfl,?_⟩) ?_ ?_
        rotate_left
        ·intro w'
         go_simp
         with_reducible rfl
        rotate_left
        ·simp only [Act.put,List.setIfInBounds_toArray,List.set_cons_zero,List.set_cons_succ,i64_w,i32_w]
         rfl
        refine pure_ (i:=6) (N:=some 23) (v:=?_) (a':=?_) #[true,true,true,false,true,true,true,false,false,false] rfl rfl (any_of HT_.out (by kernel_rfl)) (fun _ _ _ h=>h) (Or.inl ⟨by rfl,?_⟩) ?_ ?_
        rotate_left
        ·intro w'
         go_simp
         with_reducible rfl
        rotate_left
        ·simp only [Act.put,List.setIfInBounds_toArray,List.set_cons_zero,List.set_cons_succ,i64_w,i32_w]
         rfl
        refine take_ (i:=3) (N:=some 20) (v:=?_) (a':=?_) #[true,true,true,true,true,true,true,false,false,false] rfl rfl (take_ofW HT_.out HW_.out (by kernel_rfl)) (fun _ _ _ h=>h) (Or.inl ⟨by rfl,?_⟩) hHeld ?_ ?_
        rotate_left
        ·rintro w' ⟨s0, s1, s2, s3, s4, s5, s6, s7, s8, s9, s10, s11⟩
         go_simp
         with_reducible rfl
        rotate_left
        ·simp only [Act.put,List.setIfInBounds_toArray,List.set_cons_zero,List.set_cons_succ,i64_w,i32_w]
         rfl
        refine take_ (i:=7) (N:=some 24) (v:=?_) (a':=?_) #[true,true,true,true,true,true,true,true,false,false] rfl rfl (take_ofW HT_.out HW_.out (by kernel_rfl)) (fun _ _ _ h=>h) (Or.inl ⟨by rfl,?_⟩) hHeld ?_ ?_
        rotate_left
        ·rintro w' ⟨s0, s1, s2, s3, s4, s5, s6, s7, s8, s9, s10, s11⟩
         go_simp
         with_reducible rfl
        rotate_left
        ·simp only [Act.put,List.setIfInBounds_toArray,List.set_cons_zero,List.set_cons_succ,i64_w,i32_w]
         rfl
        refine one_ (i:=8) (N:=some 25) #[true,true,true,true,true,true,true,true,true,false] rfl rfl (one_of HT_.out (by kernel_rfl)) (by decide) (fun K hK=>?_)
        refine goes_ Try.func52 (by kernel_rfl) rfl #[.agg #[.int .i64 ((rd_T50 l0 x5_1).f0),.slice A296_1 ((rd_T50 l0 x5_1).f1).length c296_1,.int .i64 ((rd_T50 l0 x5_1).f2),.int .i64 ((rd_T50 l0 x5_1).f3),.slice A296_4 ((rd_T50 l0 x5_1).f4).length c296_4,.slice A296_5 ((rd_T50 l0 x5_1).f5).length c296_5],.agg #[.int .i64 ((rd_T50 l1 x5_1).f0),.slice A297_1 ((rd_T50 l1 x5_1).f1).length c297_1,.int .i64 ((rd_T50 l1 x5_1).f2),.int .i64 ((rd_T50 l1 x5_1).f3),.slice A297_4 ((rd_T50 l1 x5_1).f4).length c297_4,.slice A297_5 ((rd_T50 l1 x5_1).f5).length c297_5]] (by rfl) rfl rfl (by (try simp only [List.map_toArray,List.map_cons,List.map_nil]);first|done|rfl|(simp only [List.length_drop,List.length_take];rfl)) ?_
        with_reducible refine (laws_eqZone.calls k1 ((rd_T50 l0 x5_1).f0) _ _ ((rd_T50 l0 x5_1).f1) ((rd_T50 l0 x5_1).f2) ((rd_T50 l0 x5_1).f3) _ _ ((rd_T50 l0 x5_1).f4) _ _ ((rd_T50 l0 x5_1).f5) ((rd_T50 l1 x5_1).f0) _ _ ((rd_T50 l1 x5_1).f1) ((rd_T50 l1 x5_1).f2) ((rd_T50 l1 x5_1).f3) _ _ ((rd_T50 l1 x5_1).f4) _ _ ((rd_T50 l1 x5_1).f5) false _ ?side1 ?side2 ?side3 ?side4 ?side5 ?side6 ?side7 ?side8 ?side9 ?side10 ?side11 ?side12 A7.out).mono ?_
        (case side1=>repeat (first|exact (Kd.C_below HR296_1.out HB.out)|(with_reducible refine Kd.C_alloc ?_ _)|(with_reducible refine Kd.C_drewN ?_ _)|(with_reducible refine Kd.C_drew ?_)))
        (case side2 => exact HC296_1.out)
        (case side3=>repeat (first|exact (Kd.C_below HR296_4.out HB.out)|(with_reducible refine Kd.C_alloc ?_ _)|(with_reducible refine Kd.C_drewN ?_ _)|(with_reducible refine Kd.C_drew ?_)))
        (case side4 => exact HC296_4.out)
        (case side5=>repeat (first|exact (Kd.C_below HR296_5.out HB.out)|(with_reducible refine Kd.C_alloc ?_ _)|(with_reducible refine Kd.C_drewN ?_ _)|(with_reducible refine Kd.C_drew ?_)))
        (case side6 => exact HC296_5.out)
        (case side7=>repeat (first|exact (Kd.C_below HR297_1.out HB.out)|(with_reducible refine Kd.C_alloc ?_ _)|(with_reducible refine Kd.C_drewN ?_ _)|(with_reducible refine Kd.C_drew ?_)))
        (case side8 => exact HC297_1.out)
        (case side9=>repeat (first|exact (Kd.C_below HR297_4.out HB.out)|(with_reducible refine Kd.C_alloc ?_ _)|(with_reducible refine Kd.C_drewN ?_ _)|(with_reducible refine Kd.C_drew ?_)))
        (case side10 => exact HC297_4.out)
        (case side11=>repeat (first|exact (Kd.C_below HR297_5.out HB.out)|(with_reducible refine Kd.C_alloc ?_ _)|(with_reducible refine Kd.C_drewN ?_ _)|(with_reducible refine Kd.C_drew ?_)))
        (case side12 => exact HC297_5.out)
        rintro e w12 ⟨rfl, hb⟩
        refine ⟨_, rfl, ?_⟩
        have n0_:=mk12_ (bT12_ (by repeat (first|(with_reducible first|exact HB.out|apply bA12_|apply bN12_|apply bD12_)|exact HB.out)) hb)
        clear HB
        have HB := n0_
        clear n0_
        (try clear hb)
        (try clear hb2)
        (try clear hk)
        (try clear hi)
        refine hK.out _ _ ⟨((HB.out.cell (World.block_lt_of_cell? w _ hw296_0)).trans hw296_0),((HB.out.cell (World.block_lt_of_cell? w _ hw296_1)).trans hw296_1),((HB.out.cell (World.block_lt_of_cell? w _ hw296_2)).trans hw296_2),((HB.out.cell (World.block_lt_of_cell? w _ hw296_3)).trans hw296_3),((HB.out.cell (World.block_lt_of_cell? w _ hw296_4)).trans hw296_4),((HB.out.cell (World.block_lt_of_cell? w _ hw296_5)).trans hw296_5),((HB.out.cell (World.block_lt_of_cell? w _ hw297_0)).trans hw297_0),((HB.out.cell (World.block_lt_of_cell? w _ hw297_1)).trans hw297_1),((HB.out.cell (World.block_lt_of_cell? w _ hw297_2)).trans hw297_2),((HB.out.cell (World.block_lt_of_cell? w _ hw297_3)).trans hw297_3),((HB.out.cell (World.block_lt_of_cell? w _ hw297_4)).trans hw297_4),((HB.out.cell (World.block_lt_of_cell? w _ hw297_5)).trans hw297_5)⟩ (fun hHeld=>?_)
        clear hK K
        refine norm_ (a' := ?_) ?_ ?_
        rotate_left
        ·show Act.put _ (some 25) _ = _
         simp only [Act.put,List.setIfInBounds_toArray,List.set_cons_zero,List.set_cons_succ,i64_w,i32_w]
         rfl
        refine pure_ (i:=9) (N:=some 26) (v:=?_) (a':=?_) #[true,true,true,true,true,true,true,true,true,true] rfl rfl (any_of HT_.out (by kernel_rfl)) (fun _ _ _ h=>h) (Or.inl ⟨by rfl,?_⟩) ?_ ?_
        rotate_left
        ·intro w'
         go_simp
         with_reducible rfl
        rotate_left
        ·simp only [Act.put,List.setIfInBounds_toArray,List.set_cons_zero,List.set_cons_succ,i64_w,i32_w]
         rfl
        refine done_ (done_of HT_.out (by kernel_rfl)) ?_
        try go_wp2
        go_ret
        exact ⟨by first|rfl|(simp [errW_none,errW_some] <;> rfl)|(simp [*,errW_none,errW_some] <;> rfl),by repeat (first|(with_reducible first|exact HB.out|apply bA12_|apply bN12_|apply bD12_)|exact HB.out)⟩
      ·rw [if_neg c6] at H
       exact absurd H (by simp)
     ·rw [if_neg c5] at H
      exact absurd H (by simp)
    ·rw [if_neg c4] at H
     have c4b0 : decide (x5_1 < (l0.length : Int)) = false := decide_eq_false c4
     clear c4
     obtain rfl := Option.some.inj H
     go_wp2
     go_ret
     exact ⟨by first|rfl|(simp [errW_none,errW_some] <;> rfl)|(simp [*,errW_none,errW_some] <;> rfl),by repeat (first|(with_reducible first|exact HB.out|apply bA12_|apply bN12_|apply bD12_)|exact HB.out)⟩
 ·rw [if_neg c3] at H
  have c3b0 : ((l0.length : Int) == (l1.length : Int)) = false := beq_eq_false_iff_ne.mpr c3
  have c3b1 : ((l0.length : Int) != (l1.length : Int)) = true := bne_iff_ne.mpr c3
  have c3b2:(l0.length == l1.length)=false:=by first|simpa using c3|(simp at c3 ⊢;omega)
  obtain rfl := Option.some.inj H
  go_enter Try.func28, Try.ntmps28
  go_wp2
  go_ret
  exact ⟨by first|rfl|(simp [errW_none,errW_some] <;> rfl)|(simp [*,errW_none,errW_some] <;> rfl),by repeat (first|(with_reducible first|exact HB.out|apply bA12_|apply bN12_|apply bD12_)|exact HB.out)⟩

def laws_eqDevice.f (k:Nat) (a0_0:Int) (a0_1:Int) (a0_2:Int) (l0_3:List (S68)) (a0_4:Int) (a0_5:Int) (a0_6:Bool) (a0_7:Int) (l0_8:List (S50)) (a1_0:Int) (a1_1:Int) (a1_2:Int) (l1_3:List (S68)) (a1_4:Int) (a1_5:Int) (a1_6:Bool) (a1_7:Int) (l1_8:List (S50)):Option (Bool):=(laws_eqFlash.f k a0_0 a0_1 a0_2 l0_3 a0_4 a0_5 a0_6 a0_7 a1_0 a1_1 a1_2 l1_3 a1_4 a1_5 a1_6 a1_7).bind fun t301=>(if t301=true then ((laws_eqZoneS.f k l0_8 l1_8).bind fun t302=>(if t302=true then (some true) else (some false))) else (some false))
set_option maxHeartbeats 8000000 in
set_option maxRecDepth 100000 in
theorem laws_eqDevice.calls (k:Nat) (a0_0:Int) (a0_1:Int) (a0_2:Int) (A0_3:Option Addr) (c0_3:Nat) (l0_3:List (S68)) (a0_4:Int) (a0_5:Int) (a0_6:Bool) (a0_7:Int) (A0_8:Option Addr) (c0_8:Nat) (l0_8:List (S50)) (a1_0:Int) (a1_1:Int) (a1_2:Int) (A1_3:Option Addr) (c1_3:Nat) (l1_3:List (S68)) (a1_4:Int) (a1_5:Int) (a1_6:Bool) (a1_7:Int) (A1_8:Option Addr) (c1_8:Nat) (l1_8:List (S50)) (r:Bool) (w:World) (hr0_3:Kd.C k68 w A0_3 l0_3.length l0_3) (hc0_3:l0_3.length≤c0_3) (hr0_8:Kd.C k50 w A0_8 l0_8.length l0_8) (hc0_8:l0_8.length≤c0_8) (hr1_3:Kd.C k68 w A1_3 l1_3.length l1_3) (hc1_3:l1_3.length≤c1_3) (hr1_8:Kd.C k50 w A1_8 l1_8.length l1_8) (hc1_8:l1_8.length≤c1_8) (h:laws_eqDevice.f k a0_0 a0_1 a0_2 l0_3 a0_4 a0_5 a0_6 a0_7 l0_8 a1_0 a1_1 a1_2 l1_3 a1_4 a1_5 a1_6 a1_7 l1_8=some r) :
  Calls Try.prog 9 #[.agg #[.int .i64 a0_0,.int .i64 a0_1,.int .i64 a0_2,.slice A0_3 l0_3.length c0_3,.int .i64 a0_4,.int .i64 a0_5,.bool a0_6,.int .i64 a0_7,.slice A0_8 l0_8.length c0_8],.agg #[.int .i64 a1_0,.int .i64 a1_1,.int .i64 a1_2,.slice A1_3 l1_3.length c1_3,.int .i64 a1_4,.int .i64 a1_5,.bool a1_6,.int .i64 a1_7,.slice A1_8 l1_8.length c1_8]] w fun e w'=>e=.returned (.bool r)∧Below w.heap.size w w':=by
 have hu38 := Try.underlying38
 have hu35 := Try.underlying35
 have HR0_3 := Aside0.mk hr0_3
 have HC0_3 := Aside0.mk hc0_3
 clear hr0_3 hc0_3
 have HR0_8 := Aside0.mk hr0_8
 have HC0_8 := Aside0.mk hc0_8
 clear hr0_8 hc0_8
 have HR1_3 := Aside0.mk hr1_3
 have HC1_3 := Aside0.mk hc1_3
 clear hr1_3 hc1_3
 have HR1_8 := Aside0.mk hr1_8
 have HC1_8 := Aside0.mk hc1_8
 clear hr1_8 hc1_8
 have HB := Aside0.mk (Below.refl w.heap.size w)
 have H:((laws_eqFlash.f k a0_0 a0_1 a0_2 l0_3 a0_4 a0_5 a0_6 a0_7 a1_0 a1_1 a1_2 l1_3 a1_4 a1_5 a1_6 a1_7).bind fun t301=>(if t301=true then ((laws_eqZoneS.f k l0_8 l1_8).bind fun t302=>(if t302=true then (some true) else (some false))) else (some false)))=some r:=h
 clear h
 replace H := Option.bind_eq_some_iff.mp H
 obtain ⟨t301, A30, H⟩ := H
 replace H:(if t301=true then ((laws_eqZoneS.f k l0_8 l1_8).bind fun t302=>(if t302=true then (some true) else (some false))) else (some false))=some r:=H
 have A3 := Aside0.mk A30
 clear A30
 by_cases c4 : t301 = true
 ·subst c4
  have H1:((laws_eqZoneS.f k l0_8 l1_8).bind fun t302=>(if t302=true then (some true) else (some false)))=some r:=by rw [if_pos rfl] at H;exact H
  clear H
  have H := H1
  clear H1
  replace H := Option.bind_eq_some_iff.mp H
  obtain ⟨t302, A50, H⟩ := H
  replace H : (if t302 = true then (some true) else (some false)) = some r := H
  have A5 := Aside0.mk A50
  clear A50
  by_cases c6 : t302 = true
  ·subst c6
   have H1 : (some true) = some r := by rw [if_pos rfl] at H; exact H
   clear H
   have H := H1
   clear H1
   obtain rfl := Option.some.inj H
   go_enter Try.func9, Try.ntmps9
   go_wp2_with (first|((with_reducible refine gate_dst (N:=2) rfl ?_);refine box_event ?hg (N:=2) ?hd (cs:=#[.int .i64 a0_0,.int .i64 a0_1,.int .i64 a0_2,.slice A0_3 l0_3.length c0_3,.int .i64 a0_4,.int .i64 a0_5,.bool a0_6,.int .i64 a0_7,.slice A0_8 l0_8.length c0_8]) (t:=38) ?hr ?_;(case hd=>rfl);(case hg=>rfl);(case hr=>first|(go_simp;done)|(go_simp;rfl));intro gb299 hg w7 hbox hb;have n0_:=mk12_ (bT12_ (by repeat (first|(with_reducible first|exact HB.out|apply bA12_|apply bN12_|apply bD12_)|exact HB.out)) hb);have n1_:=mk12_ (hbox);have n2_:=mk12_ ((by rw [hg];exact (bZ12_ (by repeat (first|(with_reducible first|exact HB.out|apply bA12_|apply bN12_|apply bD12_)|exact HB.out))):w.heap.size≤gb299));have n3_:=mk12_ ((by rw [hg];exact (bZ12_ (by repeat (first|(with_reducible first|exact HB.out|apply bA12_|apply bN12_|apply bD12_)|exact HB.out))):w.heap.size≤gb299));clear HB;have HB:=n0_;have BK299:=n1_;have GW299:=n2_;have GE299:=n3_;clear n0_ n1_ n2_ n3_;clear hb hbox hg)|((with_reducible refine gate_dst (N:=3) rfl ?_);refine box_event ?hg (N:=3) ?hd (cs:=#[.int .i64 a1_0,.int .i64 a1_1,.int .i64 a1_2,.slice A1_3 l1_3.length c1_3,.int .i64 a1_4,.int .i64 a1_5,.bool a1_6,.int .i64 a1_7,.slice A1_8 l1_8.length c1_8]) (t:=38) ?hr ?_;(case hd=>rfl);(case hg=>rfl);(case hr=>first|(go_simp;done)|(go_simp;rfl));intro gb300 hg w8 hbox hb;have n0_:=mk12_ (blk_below (g:=gb299) (o:=.cells #[.int .i64 a0_0,.int .i64 a0_1,.int .i64 a0_2,.slice A0_3 l0_3.length c0_3,.int .i64 a0_4,.int .i64 a0_5,.bool a0_6,.int .i64 a0_7,.slice A0_8 l0_8.length c0_8] 38 (0,0)) (by (with_reducible repeat (first|refine kN12_ ?_ _|refine kD12_ ?_|refine blk_alloc ?_ _));exact BK299.out) hb);have n1_:=mk12_ (bT12_ (by repeat (first|(with_reducible first|exact HB.out|apply bA12_|apply bN12_|apply bD12_|refine bS12_ ?_ GE299.out)|exact HB.out)) hb);have n2_:=mk12_ (hbox);have n3_:=mk12_ ((by rw [hg];exact (bZ12_ (by repeat (first|(with_reducible first|exact HB.out|apply bA12_|apply bN12_|apply bD12_|refine bS12_ ?_ GE299.out)|exact HB.out))):w.heap.size≤gb300));have n4_:=mk12_ ((by rw [hg];exact (bZ12_ (by repeat (first|(with_reducible first|exact HB.out|apply bA12_|apply bN12_|apply bD12_|refine bS12_ ?_ GE299.out)|exact HB.out))):w.heap.size≤gb300));have n5_:=mk12_ ((by rw [hg];exact Nat.ne_of_lt (blk_lt (g:=gb299) (o:=.cells #[.int .i64 a0_0,.int .i64 a0_1,.int .i64 a0_2,.slice A0_3 l0_3.length c0_3,.int .i64 a0_4,.int .i64 a0_5,.bool a0_6,.int .i64 a0_7,.slice A0_8 l0_8.length c0_8] 38 (0,0)) (by (with_reducible repeat (first|refine kN12_ ?_ _|refine kD12_ ?_|refine blk_alloc ?_ _));exact BK299.out)):gb299≠gb300));have n6_:=mk12_ ((by rw [hg];exact Nat.ne_of_gt (blk_lt (g:=gb299) (o:=.cells #[.int .i64 a0_0,.int .i64 a0_1,.int .i64 a0_2,.slice A0_3 l0_3.length c0_3,.int .i64 a0_4,.int .i64 a0_5,.bool a0_6,.int .i64 a0_7,.slice A0_8 l0_8.length c0_8] 38 (0,0)) (by (with_reducible repeat (first|refine kN12_ ?_ _|refine kD12_ ?_|refine blk_alloc ?_ _));exact BK299.out)):gb300≠gb299));clear BK299;clear HB;have BK299:=n0_;have HB:=n1_;have BK300:=n2_;have GW300:=n3_;have GE300:=n4_;have NB299_300:=n5_;have NB300_299:=n6_;clear n0_ n1_ n2_ n3_ n4_ n5_ n6_;clear hb hbox hg;have hnb9:=NB299_300.out;have hnc9:=NB300_299.out;have hcz10_0:w8.cell? ⟨gb299,0,none⟩=some (.int .i64 a0_0):=(blk_cell BK299.out 0).trans rfl;have hcz10_1:w8.cell? ⟨gb299,1,none⟩=some (.int .i64 a0_1):=(blk_cell BK299.out 1).trans rfl;have hcz10_2:w8.cell? ⟨gb299,2,none⟩=some (.int .i64 a0_2):=(blk_cell BK299.out 2).trans rfl;have hcz10_3:w8.cell? ⟨gb299,3,none⟩=some (.slice A0_3 l0_3.length c0_3):=(blk_cell BK299.out 3).trans rfl;have hcz10_4:w8.cell? ⟨gb299,4,none⟩=some (.int .i64 a0_4):=(blk_cell BK299.out 4).trans rfl;have hcz10_5:w8.cell? ⟨gb299,5,none⟩=some (.int .i64 a0_5):=(blk_cell BK299.out 5).trans rfl;have hcz10_6:w8.cell? ⟨gb299,6,none⟩=some (.bool a0_6):=(blk_cell BK299.out 6).trans rfl;have hcz10_7:w8.cell? ⟨gb299,7,none⟩=some (.int .i64 a0_7):=(blk_cell BK299.out 7).trans rfl;have hcz10_8:w8.cell? ⟨gb299,8,none⟩=some (.slice A0_8 l0_8.length c0_8):=(blk_cell BK299.out 8).trans rfl;have hfz10_0:=fZ12_ BK299.out 0;have hfz10_1:=fZ12_ BK299.out 1;have hfz10_2:=fZ12_ BK299.out 2;have hfz10_3:=fZ12_ BK299.out 3;have hfz10_4:=fZ12_ BK299.out 4;have hfz10_5:=fZ12_ BK299.out 5;have hfz10_6:=fZ12_ BK299.out 6;have hfz10_7:=fZ12_ BK299.out 7;have hfz10_8:=fZ12_ BK299.out 8;have hcz11_0:w8.cell? ⟨gb300,0,none⟩=some (.int .i64 a1_0):=(blk_cell BK300.out 0).trans rfl;have hcz11_1:w8.cell? ⟨gb300,1,none⟩=some (.int .i64 a1_1):=(blk_cell BK300.out 1).trans rfl;have hcz11_2:w8.cell? ⟨gb300,2,none⟩=some (.int .i64 a1_2):=(blk_cell BK300.out 2).trans rfl;have hcz11_3:w8.cell? ⟨gb300,3,none⟩=some (.slice A1_3 l1_3.length c1_3):=(blk_cell BK300.out 3).trans rfl;have hcz11_4:w8.cell? ⟨gb300,4,none⟩=some (.int .i64 a1_4):=(blk_cell BK300.out 4).trans rfl;have hcz11_5:w8.cell? ⟨gb300,5,none⟩=some (.int .i64 a1_5):=(blk_cell BK300.out 5).trans rfl;have hcz11_6:w8.cell? ⟨gb300,6,none⟩=some (.bool a1_6):=(blk_cell BK300.out 6).trans rfl;have hcz11_7:w8.cell? ⟨gb300,7,none⟩=some (.int .i64 a1_7):=(blk_cell BK300.out 7).trans rfl;have hcz11_8:w8.cell? ⟨gb300,8,none⟩=some (.slice A1_8 l1_8.length c1_8):=(blk_cell BK300.out 8).trans rfl;have hfz11_0:=fZ12_ BK300.out 0;have hfz11_1:=fZ12_ BK300.out 1;have hfz11_2:=fZ12_ BK300.out 2;have hfz11_3:=fZ12_ BK300.out 3;have hfz11_4:=fZ12_ BK300.out 4;have hfz11_5:=fZ12_ BK300.out 5;have hfz11_6:=fZ12_ BK300.out 6;have hfz11_7:=fZ12_ BK300.out 7;have hfz11_8:=fZ12_ BK300.out 8)|((with_reducible refine gate_callee (f:=27) rfl ?_);refine goesL_ (some 9) rfl rfl Try.func27 (by kernel_rfl) rfl #[.agg #[.int .i64 a0_0,.int .i64 a0_1,.int .i64 a0_2,.slice A0_3 l0_3.length c0_3,.int .i64 a0_4,.int .i64 a0_5,.bool a0_6,.int .i64 a0_7],.agg #[.int .i64 a1_0,.int .i64 a1_1,.int .i64 a1_2,.slice A1_3 l1_3.length c1_3,.int .i64 a1_4,.int .i64 a1_5,.bool a1_6,.int .i64 a1_7]] rfl (by (try simp only [List.map_toArray,List.map_cons,List.map_nil]);first|done|rfl|(simp only [List.length_drop,List.length_take];rfl)) ?_;(with_reducible refine (laws_eqFlash.calls k a0_0 a0_1 a0_2 _ _ l0_3 a0_4 a0_5 a0_6 a0_7 a1_0 a1_1 a1_2 _ _ l1_3 a1_4 a1_5 a1_6 a1_7 true _ ?side1 ?side2 ?side3 ?side4 A3.out).mono ?_);(case side1=>repeat (first|exact (Kd.C_below HR0_3.out HB.out)|(with_reducible refine Kd.C_alloc ?_ _)|(with_reducible refine Kd.C_drewN ?_ _)|(with_reducible refine Kd.C_drew ?_)));(case side2=>exact HC0_3.out);(case side3=>repeat (first|exact (Kd.C_below HR1_3.out HB.out)|(with_reducible refine Kd.C_alloc ?_ _)|(with_reducible refine Kd.C_drewN ?_ _)|(with_reducible refine Kd.C_drew ?_)));(case side4=>exact HC1_3.out);rintro e w12 ⟨rfl,hb⟩;refine ⟨_,rfl,?_⟩;have n0_:=mk12_ (blk_below (g:=gb299) (o:=.cells #[.int .i64 a0_0,.int .i64 a0_1,.int .i64 a0_2,.slice A0_3 l0_3.length c0_3,.int .i64 a0_4,.int .i64 a0_5,.bool a0_6,.int .i64 a0_7,.slice A0_8 l0_8.length c0_8] 38 (0,0)) (by (with_reducible repeat (first|refine kN12_ ?_ _|refine kD12_ ?_|refine blk_alloc ?_ _));exact BK299.out) hb);have n1_:=mk12_ (blk_below (g:=gb300) (o:=.cells #[.int .i64 a1_0,.int .i64 a1_1,.int .i64 a1_2,.slice A1_3 l1_3.length c1_3,.int .i64 a1_4,.int .i64 a1_5,.bool a1_6,.int .i64 a1_7,.slice A1_8 l1_8.length c1_8] 38 (0,0)) (by (with_reducible repeat (first|refine kN12_ ?_ _|refine kD12_ ?_|refine blk_alloc ?_ _));exact BK300.out) hb);have n2_:=mk12_ (bT12_ (by repeat (first|(with_reducible first|exact HB.out|apply bA12_|apply bN12_|apply bD12_|refine bS12_ ?_ GE299.out|refine bS12_ ?_ GE300.out)|exact HB.out)) hb);clear BK299;clear BK300;clear HB;have BK299:=n0_;have BK300:=n1_;have HB:=n2_;clear n0_ n1_ n2_;(try clear hb);(try clear hb2);(try clear hk);(try clear hi);have hcz13_0:w12.cell? ⟨gb299,0,none⟩=some (.int .i64 a0_0):=(blk_cell BK299.out 0).trans rfl;have hcz13_1:w12.cell? ⟨gb299,1,none⟩=some (.int .i64 a0_1):=(blk_cell BK299.out 1).trans rfl;have hcz13_2:w12.cell? ⟨gb299,2,none⟩=some (.int .i64 a0_2):=(blk_cell BK299.out 2).trans rfl;have hcz13_3:w12.cell? ⟨gb299,3,none⟩=some (.slice A0_3 l0_3.length c0_3):=(blk_cell BK299.out 3).trans rfl;have hcz13_4:w12.cell? ⟨gb299,4,none⟩=some (.int .i64 a0_4):=(blk_cell BK299.out 4).trans rfl;have hcz13_5:w12.cell? ⟨gb299,5,none⟩=some (.int .i64 a0_5):=(blk_cell BK299.out 5).trans rfl;have hcz13_6:w12.cell? ⟨gb299,6,none⟩=some (.bool a0_6):=(blk_cell BK299.out 6).trans rfl;have hcz13_7:w12.cell? ⟨gb299,7,none⟩=some (.int .i64 a0_7):=(blk_cell BK299.out 7).trans rfl;have hcz13_8:w12.cell? ⟨gb299,8,none⟩=some (.slice A0_8 l0_8.length c0_8):=(blk_cell BK299.out 8).trans rfl;have hfz13_0:=fZ12_ BK299.out 0;have hfz13_1:=fZ12_ BK299.out 1;have hfz13_2:=fZ12_ BK299.out 2;have hfz13_3:=fZ12_ BK299.out 3;have hfz13_4:=fZ12_ BK299.out 4;have hfz13_5:=fZ12_ BK299.out 5;have hfz13_6:=fZ12_ BK299.out 6;have hfz13_7:=fZ12_ BK299.out 7;have hfz13_8:=fZ12_ BK299.out 8;have hcz14_0:w12.cell? ⟨gb300,0,none⟩=some (.int .i64 a1_0):=(blk_cell BK300.out 0).trans rfl;have hcz14_1:w12.cell? ⟨gb300,1,none⟩=some (.int .i64 a1_1):=(blk_cell BK300.out 1).trans rfl;have hcz14_2:w12.cell? ⟨gb300,2,none⟩=some (.int .i64 a1_2):=(blk_cell BK300.out 2).trans rfl;have hcz14_3:w12.cell? ⟨gb300,3,none⟩=some (.slice A1_3 l1_3.length c1_3):=(blk_cell BK300.out 3).trans rfl;have hcz14_4:w12.cell? ⟨gb300,4,none⟩=some (.int .i64 a1_4):=(blk_cell BK300.out 4).trans rfl;have hcz14_5:w12.cell? ⟨gb300,5,none⟩=some (.int .i64 a1_5):=(blk_cell BK300.out 5).trans rfl;have hcz14_6:w12.cell? ⟨gb300,6,none⟩=some (.bool a1_6):=(blk_cell BK300.out 6).trans rfl;have hcz14_7:w12.cell? ⟨gb300,7,none⟩=some (.int .i64 a1_7):=(blk_cell BK300.out 7).trans rfl;have hcz14_8:w12.cell? ⟨gb300,8,none⟩=some (.slice A1_8 l1_8.length c1_8):=(blk_cell BK300.out 8).trans rfl;have hfz14_0:=fZ12_ BK300.out 0;have hfz14_1:=fZ12_ BK300.out 1;have hfz14_2:=fZ12_ BK300.out 2;have hfz14_3:=fZ12_ BK300.out 3;have hfz14_4:=fZ12_ BK300.out 4;have hfz14_5:=fZ12_ BK300.out 5;have hfz14_6:=fZ12_ BK300.out 6;have hfz14_7:=fZ12_ BK300.out 7;have hfz14_8:=fZ12_ BK300.out 8)|((with_reducible refine gate_callee (f:=28) rfl ?_);refine goesL_ (some 15) rfl rfl Try.func28 (by kernel_rfl) rfl #[.slice A0_8 l0_8.length c0_8,.slice A1_8 l1_8.length c1_8] rfl (by (try simp only [List.map_toArray,List.map_cons,List.map_nil]);first|done|rfl|(simp only [List.length_drop,List.length_take];rfl)) ?_;(with_reducible refine (laws_eqZoneS.calls k _ _ l0_8 _ _ l1_8 true _ ?side1 ?side2 ?side3 ?side4 A5.out).mono ?_);(case side1=>repeat (first|exact (Kd.C_below HR0_8.out HB.out)|(with_reducible refine Kd.C_alloc ?_ _)|(with_reducible refine Kd.C_drewN ?_ _)|(with_reducible refine Kd.C_drew ?_)));(case side2=>exact HC0_8.out);(case side3=>repeat (first|exact (Kd.C_below HR1_8.out HB.out)|(with_reducible refine Kd.C_alloc ?_ _)|(with_reducible refine Kd.C_drewN ?_ _)|(with_reducible refine Kd.C_drew ?_)));(case side4=>exact HC1_8.out);rintro e w15 ⟨rfl,hb⟩;refine ⟨_,rfl,?_⟩;have n0_:=mk12_ (blk_below (g:=gb299) (o:=.cells #[.int .i64 a0_0,.int .i64 a0_1,.int .i64 a0_2,.slice A0_3 l0_3.length c0_3,.int .i64 a0_4,.int .i64 a0_5,.bool a0_6,.int .i64 a0_7,.slice A0_8 l0_8.length c0_8] 38 (0,0)) (by (with_reducible repeat (first|refine kN12_ ?_ _|refine kD12_ ?_|refine blk_alloc ?_ _));exact BK299.out) hb);have n1_:=mk12_ (blk_below (g:=gb300) (o:=.cells #[.int .i64 a1_0,.int .i64 a1_1,.int .i64 a1_2,.slice A1_3 l1_3.length c1_3,.int .i64 a1_4,.int .i64 a1_5,.bool a1_6,.int .i64 a1_7,.slice A1_8 l1_8.length c1_8] 38 (0,0)) (by (with_reducible repeat (first|refine kN12_ ?_ _|refine kD12_ ?_|refine blk_alloc ?_ _));exact BK300.out) hb);have n2_:=mk12_ (bT12_ (by repeat (first|(with_reducible first|exact HB.out|apply bA12_|apply bN12_|apply bD12_|refine bS12_ ?_ GE299.out|refine bS12_ ?_ GE300.out)|exact HB.out)) hb);clear BK299;clear BK300;clear HB;have BK299:=n0_;have BK300:=n1_;have HB:=n2_;clear n0_ n1_ n2_;(try clear hb);(try clear hb2);(try clear hk);(try clear hi)))
   go_ret
   exact ⟨by first|rfl|(simp [errW_none,errW_some] <;> rfl)|(simp [*,errW_none,errW_some] <;> rfl),by repeat (first|(with_reducible first|exact HB.out|apply bA12_|apply bN12_|apply bD12_|refine bS12_ ?_ GE299.out|refine bS12_ ?_ GE300.out)|exact HB.out)⟩
  ·replace c6 := Bool.eq_false_iff.mpr c6
   subst c6
   have H1:(some false)=some r:=by rw [if_neg (show ¬ (false=true) by decide)] at H;exact H
   clear H
   have H := H1
   clear H1
   obtain rfl := Option.some.inj H
   go_enter Try.func9, Try.ntmps9
   go_wp2_with (first|((with_reducible refine gate_dst (N:=2) rfl ?_);refine box_event ?hg (N:=2) ?hd (cs:=#[.int .i64 a0_0,.int .i64 a0_1,.int .i64 a0_2,.slice A0_3 l0_3.length c0_3,.int .i64 a0_4,.int .i64 a0_5,.bool a0_6,.int .i64 a0_7,.slice A0_8 l0_8.length c0_8]) (t:=38) ?hr ?_;(case hd=>rfl);(case hg=>rfl);(case hr=>first|(go_simp;done)|(go_simp;rfl));intro gb299 hg w16 hbox hb;have n0_:=mk12_ (bT12_ (by repeat (first|(with_reducible first|exact HB.out|apply bA12_|apply bN12_|apply bD12_)|exact HB.out)) hb);have n1_:=mk12_ (hbox);have n2_:=mk12_ ((by rw [hg];exact (bZ12_ (by repeat (first|(with_reducible first|exact HB.out|apply bA12_|apply bN12_|apply bD12_)|exact HB.out))):w.heap.size≤gb299));have n3_:=mk12_ ((by rw [hg];exact (bZ12_ (by repeat (first|(with_reducible first|exact HB.out|apply bA12_|apply bN12_|apply bD12_)|exact HB.out))):w.heap.size≤gb299));clear HB;have HB:=n0_;have BK299:=n1_;have GW299:=n2_;have GE299:=n3_;clear n0_ n1_ n2_ n3_;clear hb hbox hg)|((with_reducible refine gate_dst (N:=3) rfl ?_);refine box_event ?hg (N:=3) ?hd (cs:=#[.int .i64 a1_0,.int .i64 a1_1,.int .i64 a1_2,.slice A1_3 l1_3.length c1_3,.int .i64 a1_4,.int .i64 a1_5,.bool a1_6,.int .i64 a1_7,.slice A1_8 l1_8.length c1_8]) (t:=38) ?hr ?_;(case hd=>rfl);(case hg=>rfl);(case hr=>first|(go_simp;done)|(go_simp;rfl));intro gb300 hg w17 hbox hb;have n0_:=mk12_ (blk_below (g:=gb299) (o:=.cells #[.int .i64 a0_0,.int .i64 a0_1,.int .i64 a0_2,.slice A0_3 l0_3.length c0_3,.int .i64 a0_4,.int .i64 a0_5,.bool a0_6,.int .i64 a0_7,.slice A0_8 l0_8.length c0_8] 38 (0,0)) (by (with_reducible repeat (first|refine kN12_ ?_ _|refine kD12_ ?_|refine blk_alloc ?_ _));exact BK299.out) hb);have n1_:=mk12_ (bT12_ (by repeat (first|(with_reducible first|exact HB.out|apply bA12_|apply bN12_|apply bD12_|refine bS12_ ?_ GE299.out)|exact HB.out)) hb);have n2_:=mk12_ (hbox);have n3_:=mk12_ ((by rw [hg];exact (bZ12_ (by repeat (first|(with_reducible first|exact HB.out|apply bA12_|apply bN12_|apply bD12_|refine bS12_ ?_ GE299.out)|exact HB.out))):w.heap.size≤gb300));have n4_:=mk12_ ((by rw [hg];exact (bZ12_ (by repeat (first|(with_reducible first|exact HB.out|apply bA12_|apply bN12_|apply bD12_|refine bS12_ ?_ GE299.out)|exact HB.out))):w.heap.size≤gb300));have n5_:=mk12_ ((by rw [hg];exact Nat.ne_of_lt (blk_lt (g:=gb299) (o:=.cells #[.int .i64 a0_0,.int .i64 a0_1,.int .i64 a0_2,.slice A0_3 l0_3.length c0_3,.int .i64 a0_4,.int .i64 a0_5,.bool a0_6,.int .i64 a0_7,.slice A0_8 l0_8.length c0_8] 38 (0,0)) (by (with_reducible repeat (first|refine kN12_ ?_ _|refine kD12_ ?_|refine blk_alloc ?_ _));exact BK299.out)):gb299≠gb300));have n6_:=mk12_ ((by rw [hg];exact Nat.ne_of_gt (blk_lt (g:=gb299) (o:=.cells #[.int .i64 a0_0,.int .i64 a0_1,.int .i64 a0_2,.slice A0_3 l0_3.length c0_3,.int .i64 a0_4,.int .i64 a0_5,.bool a0_6,.int .i64 a0_7,.slice A0_8 l0_8.length c0_8] 38 (0,0)) (by (with_reducible repeat (first|refine kN12_ ?_ _|refine kD12_ ?_|refine blk_alloc ?_ _));exact BK299.out)):gb300≠gb299));clear BK299;clear HB;have BK299:=n0_;have HB:=n1_;have BK300:=n2_;have GW300:=n3_;have GE300:=n4_;have NB299_300:=n5_;have NB300_299:=n6_;clear n0_ n1_ n2_ n3_ n4_ n5_ n6_;clear hb hbox hg;have hnb18:=NB299_300.out;have hnc18:=NB300_299.out;have hcz19_0:w17.cell? ⟨gb299,0,none⟩=some (.int .i64 a0_0):=(blk_cell BK299.out 0).trans rfl;have hcz19_1:w17.cell? ⟨gb299,1,none⟩=some (.int .i64 a0_1):=(blk_cell BK299.out 1).trans rfl;have hcz19_2:w17.cell? ⟨gb299,2,none⟩=some (.int .i64 a0_2):=(blk_cell BK299.out 2).trans rfl;have hcz19_3:w17.cell? ⟨gb299,3,none⟩=some (.slice A0_3 l0_3.length c0_3):=(blk_cell BK299.out 3).trans rfl;have hcz19_4:w17.cell? ⟨gb299,4,none⟩=some (.int .i64 a0_4):=(blk_cell BK299.out 4).trans rfl;have hcz19_5:w17.cell? ⟨gb299,5,none⟩=some (.int .i64 a0_5):=(blk_cell BK299.out 5).trans rfl;have hcz19_6:w17.cell? ⟨gb299,6,none⟩=some (.bool a0_6):=(blk_cell BK299.out 6).trans rfl;have hcz19_7:w17.cell? ⟨gb299,7,none⟩=some (.int .i64 a0_7):=(blk_cell BK299.out 7).trans rfl;have hcz19_8:w17.cell? ⟨gb299,8,none⟩=some (.slice A0_8 l0_8.length c0_8):=(blk_cell BK299.out 8).trans rfl;have hfz19_0:=fZ12_ BK299.out 0;have hfz19_1:=fZ12_ BK299.out 1;have hfz19_2:=fZ12_ BK299.out 2;have hfz19_3:=fZ12_ BK299.out 3;have hfz19_4:=fZ12_ BK299.out 4;have hfz19_5:=fZ12_ BK299.out 5;have hfz19_6:=fZ12_ BK299.out 6;have hfz19_7:=fZ12_ BK299.out 7;have hfz19_8:=fZ12_ BK299.out 8;have hcz20_0:w17.cell? ⟨gb300,0,none⟩=some (.int .i64 a1_0):=(blk_cell BK300.out 0).trans rfl;have hcz20_1:w17.cell? ⟨gb300,1,none⟩=some (.int .i64 a1_1):=(blk_cell BK300.out 1).trans rfl;have hcz20_2:w17.cell? ⟨gb300,2,none⟩=some (.int .i64 a1_2):=(blk_cell BK300.out 2).trans rfl;have hcz20_3:w17.cell? ⟨gb300,3,none⟩=some (.slice A1_3 l1_3.length c1_3):=(blk_cell BK300.out 3).trans rfl;have hcz20_4:w17.cell? ⟨gb300,4,none⟩=some (.int .i64 a1_4):=(blk_cell BK300.out 4).trans rfl;have hcz20_5:w17.cell? ⟨gb300,5,none⟩=some (.int .i64 a1_5):=(blk_cell BK300.out 5).trans rfl;have hcz20_6:w17.cell? ⟨gb300,6,none⟩=some (.bool a1_6):=(blk_cell BK300.out 6).trans rfl;have hcz20_7:w17.cell? ⟨gb300,7,none⟩=some (.int .i64 a1_7):=(blk_cell BK300.out 7).trans rfl;have hcz20_8:w17.cell? ⟨gb300,8,none⟩=some (.slice A1_8 l1_8.length c1_8):=(blk_cell BK300.out 8).trans rfl;have hfz20_0:=fZ12_ BK300.out 0;have hfz20_1:=fZ12_ BK300.out 1;have hfz20_2:=fZ12_ BK300.out 2;have hfz20_3:=fZ12_ BK300.out 3;have hfz20_4:=fZ12_ BK300.out 4;have hfz20_5:=fZ12_ BK300.out 5;have hfz20_6:=fZ12_ BK300.out 6;have hfz20_7:=fZ12_ BK300.out 7;have hfz20_8:=fZ12_ BK300.out 8)|((with_reducible refine gate_callee (f:=27) rfl ?_);refine goesL_ (some 9) rfl rfl Try.func27 (by kernel_rfl) rfl #[.agg #[.int .i64 a0_0,.int .i64 a0_1,.int .i64 a0_2,.slice A0_3 l0_3.length c0_3,.int .i64 a0_4,.int .i64 a0_5,.bool a0_6,.int .i64 a0_7],.agg #[.int .i64 a1_0,.int .i64 a1_1,.int .i64 a1_2,.slice A1_3 l1_3.length c1_3,.int .i64 a1_4,.int .i64 a1_5,.bool a1_6,.int .i64 a1_7]] rfl (by (try simp only [List.map_toArray,List.map_cons,List.map_nil]);first|done|rfl|(simp only [List.length_drop,List.length_take];rfl)) ?_;(with_reducible refine (laws_eqFlash.calls k a0_0 a0_1 a0_2 _ _ l0_3 a0_4 a0_5 a0_6 a0_7 a1_0 a1_1 a1_2 _ _ l1_3 a1_4 a1_5 a1_6 a1_7 true _ ?side1 ?side2 ?side3 ?side4 A3.out).mono ?_);(case side1=>repeat (first|exact (Kd.C_below HR0_3.out HB.out)|(with_reducible refine Kd.C_alloc ?_ _)|(with_reducible refine Kd.C_drewN ?_ _)|(with_reducible refine Kd.C_drew ?_)));(case side2=>exact HC0_3.out);(case side3=>repeat (first|exact (Kd.C_below HR1_3.out HB.out)|(with_reducible refine Kd.C_alloc ?_ _)|(with_reducible refine Kd.C_drewN ?_ _)|(with_reducible refine Kd.C_drew ?_)));(case side4=>exact HC1_3.out);rintro e w21 ⟨rfl,hb⟩;refine ⟨_,rfl,?_⟩;have n0_:=mk12_ (blk_below (g:=gb299) (o:=.cells #[.int .i64 a0_0,.int .i64 a0_1,.int .i64 a0_2,.slice A0_3 l0_3.length c0_3,.int .i64 a0_4,.int .i64 a0_5,.bool a0_6,.int .i64 a0_7,.slice A0_8 l0_8.length c0_8] 38 (0,0)) (by (with_reducible repeat (first|refine kN12_ ?_ _|refine kD12_ ?_|refine blk_alloc ?_ _));exact BK299.out) hb);have n1_:=mk12_ (blk_below (g:=gb300) (o:=.cells #[.int .i64 a1_0,.int .i64 a1_1,.int .i64 a1_2,.slice A1_3 l1_3.length c1_3,.int .i64 a1_4,.int .i64 a1_5,.bool a1_6,.int .i64 a1_7,.slice A1_8 l1_8.length c1_8] 38 (0,0)) (by (with_reducible repeat (first|refine kN12_ ?_ _|refine kD12_ ?_|refine blk_alloc ?_ _));exact BK300.out) hb);have n2_:=mk12_ (bT12_ (by repeat (first|(with_reducible first|exact HB.out|apply bA12_|apply bN12_|apply bD12_|refine bS12_ ?_ GE299.out|refine bS12_ ?_ GE300.out)|exact HB.out)) hb);clear BK299;clear BK300;clear HB;have BK299:=n0_;have BK300:=n1_;have HB:=n2_;clear n0_ n1_ n2_;(try clear hb);(try clear hb2);(try clear hk);(try clear hi);have hcz22_0:w21.cell? ⟨gb299,0,none⟩=some (.int .i64 a0_0):=(blk_cell BK299.out 0).trans rfl;have hcz22_1:w21.cell? ⟨gb299,1,none⟩=some (.int .i64 a0_1):=(blk_cell BK299.out 1).trans rfl;have hcz22_2:w21.cell? ⟨gb299,2,none⟩=some (.int .i64 a0_2):=(blk_cell BK299.out 2).trans rfl;have hcz22_3:w21.cell? ⟨gb299,3,none⟩=some (.slice A0_3 l0_3.length c0_3):=(blk_cell BK299.out 3).trans rfl;have hcz22_4:w21.cell? ⟨gb299,4,none⟩=some (.int .i64 a0_4):=(blk_cell BK299.out 4).trans rfl;have hcz22_5:w21.cell? ⟨gb299,5,none⟩=some (.int .i64 a0_5):=(blk_cell BK299.out 5).trans rfl;have hcz22_6:w21.cell? ⟨gb299,6,none⟩=some (.bool a0_6):=(blk_cell BK299.out 6).trans rfl;have hcz22_7:w21.cell? ⟨gb299,7,none⟩=some (.int .i64 a0_7):=(blk_cell BK299.out 7).trans rfl;have hcz22_8:w21.cell? ⟨gb299,8,none⟩=some (.slice A0_8 l0_8.length c0_8):=(blk_cell BK299.out 8).trans rfl;have hfz22_0:=fZ12_ BK299.out 0;have hfz22_1:=fZ12_ BK299.out 1;have hfz22_2:=fZ12_ BK299.out 2;have hfz22_3:=fZ12_ BK299.out 3;have hfz22_4:=fZ12_ BK299.out 4;have hfz22_5:=fZ12_ BK299.out 5;have hfz22_6:=fZ12_ BK299.out 6;have hfz22_7:=fZ12_ BK299.out 7;have hfz22_8:=fZ12_ BK299.out 8;have hcz23_0:w21.cell? ⟨gb300,0,none⟩=some (.int .i64 a1_0):=(blk_cell BK300.out 0).trans rfl;have hcz23_1:w21.cell? ⟨gb300,1,none⟩=some (.int .i64 a1_1):=(blk_cell BK300.out 1).trans rfl;have hcz23_2:w21.cell? ⟨gb300,2,none⟩=some (.int .i64 a1_2):=(blk_cell BK300.out 2).trans rfl;have hcz23_3:w21.cell? ⟨gb300,3,none⟩=some (.slice A1_3 l1_3.length c1_3):=(blk_cell BK300.out 3).trans rfl;have hcz23_4:w21.cell? ⟨gb300,4,none⟩=some (.int .i64 a1_4):=(blk_cell BK300.out 4).trans rfl;have hcz23_5:w21.cell? ⟨gb300,5,none⟩=some (.int .i64 a1_5):=(blk_cell BK300.out 5).trans rfl;have hcz23_6:w21.cell? ⟨gb300,6,none⟩=some (.bool a1_6):=(blk_cell BK300.out 6).trans rfl;have hcz23_7:w21.cell? ⟨gb300,7,none⟩=some (.int .i64 a1_7):=(blk_cell BK300.out 7).trans rfl;have hcz23_8:w21.cell? ⟨gb300,8,none⟩=some (.slice A1_8 l1_8.length c1_8):=(blk_cell BK300.out 8).trans rfl;have hfz23_0:=fZ12_ BK300.out 0;have hfz23_1:=fZ12_ BK300.out 1;have hfz23_2:=fZ12_ BK300.out 2;have hfz23_3:=fZ12_ BK300.out 3;have hfz23_4:=fZ12_ BK300.out 4;have hfz23_5:=fZ12_ BK300.out 5;have hfz23_6:=fZ12_ BK300.out 6;have hfz23_7:=fZ12_ BK300.out 7;have hfz23_8:=fZ12_ BK300.out 8)|((with_reducible refine gate_callee (f:=28) rfl ?_);refine goesL_ (some 15) rfl rfl Try.func28 (by kernel_rfl) rfl #[.slice A0_8 l0_8.length c0_8,.slice A1_8 l1_8.length c1_8] rfl (by (try simp only [List.map_toArray,List.map_cons,List.map_nil]);first|done|rfl|(simp only [List.length_drop,List.length_take];rfl)) ?_;(with_reducible refine (laws_eqZoneS.calls k _ _ l0_8 _ _ l1_8 false _ ?side1 ?side2 ?side3 ?side4 A5.out).mono ?_);(case side1=>repeat (first|exact (Kd.C_below HR0_8.out HB.out)|(with_reducible refine Kd.C_alloc ?_ _)|(with_reducible refine Kd.C_drewN ?_ _)|(with_reducible refine Kd.C_drew ?_)));(case side2=>exact HC0_8.out);(case side3=>repeat (first|exact (Kd.C_below HR1_8.out HB.out)|(with_reducible refine Kd.C_alloc ?_ _)|(with_reducible refine Kd.C_drewN ?_ _)|(with_reducible refine Kd.C_drew ?_)));(case side4=>exact HC1_8.out);rintro e w24 ⟨rfl,hb⟩;refine ⟨_,rfl,?_⟩;have n0_:=mk12_ (blk_below (g:=gb299) (o:=.cells #[.int .i64 a0_0,.int .i64 a0_1,.int .i64 a0_2,.slice A0_3 l0_3.length c0_3,.int .i64 a0_4,.int .i64 a0_5,.bool a0_6,.int .i64 a0_7,.slice A0_8 l0_8.length c0_8] 38 (0,0)) (by (with_reducible repeat (first|refine kN12_ ?_ _|refine kD12_ ?_|refine blk_alloc ?_ _));exact BK299.out) hb);have n1_:=mk12_ (blk_below (g:=gb300) (o:=.cells #[.int .i64 a1_0,.int .i64 a1_1,.int .i64 a1_2,.slice A1_3 l1_3.length c1_3,.int .i64 a1_4,.int .i64 a1_5,.bool a1_6,.int .i64 a1_7,.slice A1_8 l1_8.length c1_8] 38 (0,0)) (by (with_reducible repeat (first|refine kN12_ ?_ _|refine kD12_ ?_|refine blk_alloc ?_ _));exact BK300.out) hb);have n2_:=mk12_ (bT12_ (by repeat (first|(with_reducible first|exact HB.out|apply bA12_|apply bN12_|apply bD12_|refine bS12_ ?_ GE299.out|refine bS12_ ?_ GE300.out)|exact HB.out)) hb);clear BK299;clear BK300;clear HB;have BK299:=n0_;have BK300:=n1_;have HB:=n2_;clear n0_ n1_ n2_;(try clear hb);(try clear hb2);(try clear hk);(try clear hi)))
   go_ret
   exact ⟨by first|rfl|(simp [errW_none,errW_some] <;> rfl)|(simp [*,errW_none,errW_some] <;> rfl),by repeat (first|(with_reducible first|exact HB.out|apply bA12_|apply bN12_|apply bD12_|refine bS12_ ?_ GE299.out|refine bS12_ ?_ GE300.out)|exact HB.out)⟩
 ·replace c4 := Bool.eq_false_iff.mpr c4
  subst c4
  have H1:(some false)=some r:=by rw [if_neg (show ¬ (false=true) by decide)] at H;exact H
  clear H
  have H := H1
  clear H1
  obtain rfl := Option.some.inj H
  go_enter Try.func9, Try.ntmps9
  go_wp2_with (first|((with_reducible refine gate_dst (N:=2) rfl ?_);refine box_event ?hg (N:=2) ?hd (cs:=#[.int .i64 a0_0,.int .i64 a0_1,.int .i64 a0_2,.slice A0_3 l0_3.length c0_3,.int .i64 a0_4,.int .i64 a0_5,.bool a0_6,.int .i64 a0_7,.slice A0_8 l0_8.length c0_8]) (t:=38) ?hr ?_;(case hd=>rfl);(case hg=>rfl);(case hr=>first|(go_simp;done)|(go_simp;rfl));intro gb299 hg w25 hbox hb;have n0_:=mk12_ (bT12_ (by repeat (first|(with_reducible first|exact HB.out|apply bA12_|apply bN12_|apply bD12_)|exact HB.out)) hb);have n1_:=mk12_ (hbox);have n2_:=mk12_ ((by rw [hg];exact (bZ12_ (by repeat (first|(with_reducible first|exact HB.out|apply bA12_|apply bN12_|apply bD12_)|exact HB.out))):w.heap.size≤gb299));have n3_:=mk12_ ((by rw [hg];exact (bZ12_ (by repeat (first|(with_reducible first|exact HB.out|apply bA12_|apply bN12_|apply bD12_)|exact HB.out))):w.heap.size≤gb299));clear HB;have HB:=n0_;have BK299:=n1_;have GW299:=n2_;have GE299:=n3_;clear n0_ n1_ n2_ n3_;clear hb hbox hg)|((with_reducible refine gate_dst (N:=3) rfl ?_);refine box_event ?hg (N:=3) ?hd (cs:=#[.int .i64 a1_0,.int .i64 a1_1,.int .i64 a1_2,.slice A1_3 l1_3.length c1_3,.int .i64 a1_4,.int .i64 a1_5,.bool a1_6,.int .i64 a1_7,.slice A1_8 l1_8.length c1_8]) (t:=38) ?hr ?_;(case hd=>rfl);(case hg=>rfl);(case hr=>first|(go_simp;done)|(go_simp;rfl));intro gb300 hg w26 hbox hb;have n0_:=mk12_ (blk_below (g:=gb299) (o:=.cells #[.int .i64 a0_0,.int .i64 a0_1,.int .i64 a0_2,.slice A0_3 l0_3.length c0_3,.int .i64 a0_4,.int .i64 a0_5,.bool a0_6,.int .i64 a0_7,.slice A0_8 l0_8.length c0_8] 38 (0,0)) (by (with_reducible repeat (first|refine kN12_ ?_ _|refine kD12_ ?_|refine blk_alloc ?_ _));exact BK299.out) hb);have n1_:=mk12_ (bT12_ (by repeat (first|(with_reducible first|exact HB.out|apply bA12_|apply bN12_|apply bD12_|refine bS12_ ?_ GE299.out)|exact HB.out)) hb);have n2_:=mk12_ (hbox);have n3_:=mk12_ ((by rw [hg];exact (bZ12_ (by repeat (first|(with_reducible first|exact HB.out|apply bA12_|apply bN12_|apply bD12_|refine bS12_ ?_ GE299.out)|exact HB.out))):w.heap.size≤gb300));have n4_:=mk12_ ((by rw [hg];exact (bZ12_ (by repeat (first|(with_reducible first|exact HB.out|apply bA12_|apply bN12_|apply bD12_|refine bS12_ ?_ GE299.out)|exact HB.out))):w.heap.size≤gb300));have n5_:=mk12_ ((by rw [hg];exact Nat.ne_of_lt (blk_lt (g:=gb299) (o:=.cells #[.int .i64 a0_0,.int .i64 a0_1,.int .i64 a0_2,.slice A0_3 l0_3.length c0_3,.int .i64 a0_4,.int .i64 a0_5,.bool a0_6,.int .i64 a0_7,.slice A0_8 l0_8.length c0_8] 38 (0,0)) (by (with_reducible repeat (first|refine kN12_ ?_ _|refine kD12_ ?_|refine blk_alloc ?_ _));exact BK299.out)):gb299≠gb300));have n6_:=mk12_ ((by rw [hg];exact Nat.ne_of_gt (blk_lt (g:=gb299) (o:=.cells #[.int .i64 a0_0,.int .i64 a0_1,.int .i64 a0_2,.slice A0_3 l0_3.length c0_3,.int .i64 a0_4,.int .i64 a0_5,.bool a0_6,.int .i64 a0_7,.slice A0_8 l0_8.length c0_8] 38 (0,0)) (by (with_reducible repeat (first|refine kN12_ ?_ _|refine kD12_ ?_|refine blk_alloc ?_ _));exact BK299.out)):gb300≠gb299));clear BK299;clear HB;have BK299:=n0_;have HB:=n1_;have BK300:=n2_;have GW300:=n3_;have GE300:=n4_;have NB299_300:=n5_;have NB300_299:=n6_;clear n0_ n1_ n2_ n3_ n4_ n5_ n6_;clear hb hbox hg;have hnb27:=NB299_300.out;have hnc27:=NB300_299.out;have hcz28_0:w26.cell? ⟨gb299,0,none⟩=some (.int .i64 a0_0):=(blk_cell BK299.out 0).trans rfl;have hcz28_1:w26.cell? ⟨gb299,1,none⟩=some (.int .i64 a0_1):=(blk_cell BK299.out 1).trans rfl;have hcz28_2:w26.cell? ⟨gb299,2,none⟩=some (.int .i64 a0_2):=(blk_cell BK299.out 2).trans rfl;have hcz28_3:w26.cell? ⟨gb299,3,none⟩=some (.slice A0_3 l0_3.length c0_3):=(blk_cell BK299.out 3).trans rfl;have hcz28_4:w26.cell? ⟨gb299,4,none⟩=some (.int .i64 a0_4):=(blk_cell BK299.out 4).trans rfl;have hcz28_5:w26.cell? ⟨gb299,5,none⟩=some (.int .i64 a0_5):=(blk_cell BK299.out 5).trans rfl;have hcz28_6:w26.cell? ⟨gb299,6,none⟩=some (.bool a0_6):=(blk_cell BK299.out 6).trans rfl;have hcz28_7:w26.cell? ⟨gb299,7,none⟩=some (.int .i64 a0_7):=(blk_cell BK299.out 7).trans rfl;have hcz28_8:w26.cell? ⟨gb299,8,none⟩=some (.slice A0_8 l0_8.length c0_8):=(blk_cell BK299.out 8).trans rfl;have hfz28_0:=fZ12_ BK299.out 0;have hfz28_1:=fZ12_ BK299.out 1;have hfz28_2:=fZ12_ BK299.out 2;have hfz28_3:=fZ12_ BK299.out 3;have hfz28_4:=fZ12_ BK299.out 4;have hfz28_5:=fZ12_ BK299.out 5;have hfz28_6:=fZ12_ BK299.out 6;have hfz28_7:=fZ12_ BK299.out 7;have hfz28_8:=fZ12_ BK299.out 8;have hcz29_0:w26.cell? ⟨gb300,0,none⟩=some (.int .i64 a1_0):=(blk_cell BK300.out 0).trans rfl;have hcz29_1:w26.cell? ⟨gb300,1,none⟩=some (.int .i64 a1_1):=(blk_cell BK300.out 1).trans rfl;have hcz29_2:w26.cell? ⟨gb300,2,none⟩=some (.int .i64 a1_2):=(blk_cell BK300.out 2).trans rfl;have hcz29_3:w26.cell? ⟨gb300,3,none⟩=some (.slice A1_3 l1_3.length c1_3):=(blk_cell BK300.out 3).trans rfl;have hcz29_4:w26.cell? ⟨gb300,4,none⟩=some (.int .i64 a1_4):=(blk_cell BK300.out 4).trans rfl;have hcz29_5:w26.cell? ⟨gb300,5,none⟩=some (.int .i64 a1_5):=(blk_cell BK300.out 5).trans rfl;have hcz29_6:w26.cell? ⟨gb300,6,none⟩=some (.bool a1_6):=(blk_cell BK300.out 6).trans rfl;have hcz29_7:w26.cell? ⟨gb300,7,none⟩=some (.int .i64 a1_7):=(blk_cell BK300.out 7).trans rfl;have hcz29_8:w26.cell? ⟨gb300,8,none⟩=some (.slice A1_8 l1_8.length c1_8):=(blk_cell BK300.out 8).trans rfl;have hfz29_0:=fZ12_ BK300.out 0;have hfz29_1:=fZ12_ BK300.out 1;have hfz29_2:=fZ12_ BK300.out 2;have hfz29_3:=fZ12_ BK300.out 3;have hfz29_4:=fZ12_ BK300.out 4;have hfz29_5:=fZ12_ BK300.out 5;have hfz29_6:=fZ12_ BK300.out 6;have hfz29_7:=fZ12_ BK300.out 7;have hfz29_8:=fZ12_ BK300.out 8)|((with_reducible refine gate_callee (f:=27) rfl ?_);refine goesL_ (some 9) rfl rfl Try.func27 (by kernel_rfl) rfl #[.agg #[.int .i64 a0_0,.int .i64 a0_1,.int .i64 a0_2,.slice A0_3 l0_3.length c0_3,.int .i64 a0_4,.int .i64 a0_5,.bool a0_6,.int .i64 a0_7],.agg #[.int .i64 a1_0,.int .i64 a1_1,.int .i64 a1_2,.slice A1_3 l1_3.length c1_3,.int .i64 a1_4,.int .i64 a1_5,.bool a1_6,.int .i64 a1_7]] rfl (by (try simp only [List.map_toArray,List.map_cons,List.map_nil]);first|done|rfl|(simp only [List.length_drop,List.length_take];rfl)) ?_;(with_reducible refine (laws_eqFlash.calls k a0_0 a0_1 a0_2 _ _ l0_3 a0_4 a0_5 a0_6 a0_7 a1_0 a1_1 a1_2 _ _ l1_3 a1_4 a1_5 a1_6 a1_7 false _ ?side1 ?side2 ?side3 ?side4 A3.out).mono ?_);(case side1=>repeat (first|exact (Kd.C_below HR0_3.out HB.out)|(with_reducible refine Kd.C_alloc ?_ _)|(with_reducible refine Kd.C_drewN ?_ _)|(with_reducible refine Kd.C_drew ?_)));(case side2=>exact HC0_3.out);(case side3=>repeat (first|exact (Kd.C_below HR1_3.out HB.out)|(with_reducible refine Kd.C_alloc ?_ _)|(with_reducible refine Kd.C_drewN ?_ _)|(with_reducible refine Kd.C_drew ?_)));(case side4=>exact HC1_3.out);rintro e w30 ⟨rfl,hb⟩;refine ⟨_,rfl,?_⟩;have n0_:=mk12_ (blk_below (g:=gb299) (o:=.cells #[.int .i64 a0_0,.int .i64 a0_1,.int .i64 a0_2,.slice A0_3 l0_3.length c0_3,.int .i64 a0_4,.int .i64 a0_5,.bool a0_6,.int .i64 a0_7,.slice A0_8 l0_8.length c0_8] 38 (0,0)) (by (with_reducible repeat (first|refine kN12_ ?_ _|refine kD12_ ?_|refine blk_alloc ?_ _));exact BK299.out) hb);have n1_:=mk12_ (blk_below (g:=gb300) (o:=.cells #[.int .i64 a1_0,.int .i64 a1_1,.int .i64 a1_2,.slice A1_3 l1_3.length c1_3,.int .i64 a1_4,.int .i64 a1_5,.bool a1_6,.int .i64 a1_7,.slice A1_8 l1_8.length c1_8] 38 (0,0)) (by (with_reducible repeat (first|refine kN12_ ?_ _|refine kD12_ ?_|refine blk_alloc ?_ _));exact BK300.out) hb);have n2_:=mk12_ (bT12_ (by repeat (first|(with_reducible first|exact HB.out|apply bA12_|apply bN12_|apply bD12_|refine bS12_ ?_ GE299.out|refine bS12_ ?_ GE300.out)|exact HB.out)) hb);clear BK299;clear BK300;clear HB;have BK299:=n0_;have BK300:=n1_;have HB:=n2_;clear n0_ n1_ n2_;(try clear hb);(try clear hb2);(try clear hk);(try clear hi)))
  go_ret
  exact ⟨by first|rfl|(simp [errW_none,errW_some] <;> rfl)|(simp [*,errW_none,errW_some] <;> rfl),by repeat (first|(with_reducible first|exact HB.out|apply bA12_|apply bN12_|apply bD12_|refine bS12_ ?_ GE299.out|refine bS12_ ?_ GE300.out)|exact HB.out)⟩

end Go.Proofs.Ytdjbphffibcbeaa.Q
