/- The program's functions as Lean functions,and for each the proof that the machine's call comes to what its function says. Conditions: those that stand before each theorem. -/
import Derived.Test.YtaecdlhomihejaaQ0
import Derived.Test.YtaecdlhomihejaaQ3
namespace Go.Proofs.Ytaecdlhomihejaa.Q
open Go.RowKit Go.Proofs.YtaecdlhomihejaaW.PrintWords Go.Proofs.YtaecdlhomihejaaW.PrintLast Go.Proofs.YtaecdlhomihejaaW.PrintMore
abbrev kN7_ := @blk_drewN
abbrev kD7_ := @blk_drew
abbrev kA7_ := @blk_alloc
abbrev rA7_ := @Kd.R_alloc
abbrev rD7_ := @Kd.R_drew
abbrev bA7_ := @below_alloc
abbrev bN7_ := @pw_below_drewN
abbrev bD7_ := @below_drew1
abbrev bS7_ := @below_set
abbrev mk7_ := @Aside0.mk
abbrev fZ7_ := @blk_frozen
abbrev sA7_ := @Kd.S_alloc
abbrev sB7_ := @Kd.S_below
abbrev bT7_ := @below_step
abbrev bZ7_ := @below_size
attribute [local go_sem] min2_int min_two
set_option linter.unusedVariables false
set_option linter.unusedSimpArgs false

def laws_heldInt64S.l0 : Nat → List Int → Int → Int → Option (Int)
  | 0, _, _, _ => none
  | k+1,x0,x1,x5=>if x5 < (x0.length:Int) then (if 0≤x5 then (if (rd x0 x5)=x1 then (laws_heldInt64S.l0 k x0 (wrap64 (x1+1)) (wrap64 (x5+1))) else (some (-1))) else (none)) else (some x1)
def laws_heldInt64S.f (k:Nat) (l0:List Int) (a1:Int):Option (Int):=laws_heldInt64S.l0 k l0 a1 0
set_option maxHeartbeats 8000000 in
set_option maxRecDepth 100000 in
theorem laws_heldInt64S.calls (k:Nat) (A0:Option Addr) (c0:Nat) (l0:List Int) (a1:Int) (r:Int) (w:World) (hr0:Kd.C (Kd.int .i64) w A0 l0.length l0) (hc0:l0.length≤c0) (h:laws_heldInt64S.f k l0 a1=some r) :
    Calls Try.prog 22 #[.slice A0 l0.length c0,.int .i64 a1] w fun e w'=>e=.returned (.int .i64 r)∧Drawn0 w w':=by
  have HR0 := Aside0.mk hr0
  have HC0 := Aside0.mk hc0
  clear hr0 hc0
  have H : (laws_heldInt64S.l0 k l0 a1 0) = some r := h
  clear h
  have H' := Aside0.mk H
  clear H
  go_enter Try.func22, Try.ntmps22
  go_wp2
  go_loopg [1,5] k (fun kq v1 v5 w'=>∃ (x1_1:Int) (x5_1:Int),v1=.int .i64 x1_1∧v5=.int .i64 x5_1∧Aside0 (laws_heldInt64S.l0 kq l0 x1_1 x5_1=some r)∧Aside0 (kq≤k)∧Drawn0 w w')
  case atStart=>exact ⟨(a1),(0),(by first|rfl|(simp;done)|(simp [*];done)),(by first|rfl|(simp;done)|(simp [*];done)),H',⟨Nat.le_refl _⟩,by repeat (first|exact Drawn0.refl _|apply Drawn0.step)⟩
  case round =>
    clear H'
    try clear c2
    try clear p2
    obtain ⟨x1_1, x5_1, rfl, rfl, HA, HK1, ⟨m1, rfl⟩⟩ := hrel
    cases gk with
    | zero => exact absurd HA.out (by simp [laws_heldInt64S.l0])
    | succ k1 =>
      have H := HA.out
      clear HA
      simp only [laws_heldInt64S.l0] at H
      by_cases c3 : x5_1 < (l0.length : Int)
      · rw [if_pos c3] at H
        have c3b0 : decide (x5_1 < (l0.length : Int)) = true := decide_eq_true c3
        clear c3
        by_cases c4 : 0 ≤ x5_1
        · rw [if_pos c4] at H
          have c4b0 : decide (0 ≤ x5_1) = true := decide_eq_true c4
          clear c4
          by_cases c5 : (rd l0 x5_1) = x1_1
          · rw [if_pos c5] at H
            have c5b0 : ((rd l0 x5_1) == x1_1) = true := beq_iff_eq.mpr c5
            have c5b1 : ((rd l0 x5_1) != x1_1) = false := bne_eq_false_iff_eq.mpr c5
            clear c5
            have H' := Aside0.mk H
            clear H
            have p278:0≤(x5_1:Int):=of_decide_eq_true (by first|(with_reducible assumption)|assumption)
            have q278:x5_1 < (l0.length:Int):=of_decide_eq_true (by first|(with_reducible assumption)|assumption)
            obtain ⟨ad278, e278, hx278_0⟩ := Kd.at_int HR0.out x5_1 p278 q278
            cases e278
            replace p278 := eq_true p278
            replace q278 := eq_true q278
            go_wp2
            go_roundg k1
            case measure => have := HK1.out; omega
            case rel=>exact ⟨(wrap64 (x1_1+1)),(wrap64 (x5_1+1)),(by first|rfl|(simp;done)|(simp [*];done)),(by first|rfl|(simp;done)|(simp [*];done)),H',⟨by have:=HK1.out;omega⟩,by repeat (first|exact Drawn0.refl _|apply Drawn0.step)⟩
          · rw [if_neg c5] at H
            have c5b0 : ((rd l0 x5_1) == x1_1) = false := beq_eq_false_iff_ne.mpr c5
            have c5b1 : ((rd l0 x5_1) != x1_1) = true := bne_iff_ne.mpr c5
            obtain rfl := Option.some.inj H
            have p278:0≤(x5_1:Int):=of_decide_eq_true (by first|(with_reducible assumption)|assumption)
            have q278:x5_1 < (l0.length:Int):=of_decide_eq_true (by first|(with_reducible assumption)|assumption)
            obtain ⟨ad278, e278, hx278_0⟩ := Kd.at_int HR0.out x5_1 p278 q278
            cases e278
            replace p278 := eq_true p278
            replace q278 := eq_true q278
            go_wp2
            go_ret
            exact ⟨by first|rfl|(simp;done)|(simp [*];done),by repeat (first|exact Drawn0.refl _|apply Drawn0.step)⟩
        · rw [if_neg c4] at H
          exact absurd H (by simp)
      · rw [if_neg c3] at H
        have c3b0 : decide (x5_1 < (l0.length : Int)) = false := decide_eq_false c3
        clear c3
        obtain rfl := Option.some.inj H
        go_wp2
        go_ret
        exact ⟨by first|rfl|(simp;done)|(simp [*];done),by repeat (first|exact Drawn0.refl _|apply Drawn0.step)⟩

def laws_heldStringS.l0 : Nat → List ByteArray → Int → Int → Option (Int)
  | 0, _, _, _ => none
  | k+1,x0,x1,x5=>if x5 < (x0.length:Int) then (if 0≤x5 then ((laws_markText.f k x1).bind fun t280=>(if (rdOf ByteArray.empty x0 x5).toList=t280.toList then (laws_heldStringS.l0 k x0 (wrap64 (x1+1)) (wrap64 (x5+1))) else (some (-1)))) else (none)) else (some x1)
def laws_heldStringS.f (k:Nat) (l0:List ByteArray) (a1:Int):Option (Int):=laws_heldStringS.l0 k l0 a1 0
set_option maxHeartbeats 8000000 in
set_option maxRecDepth 100000 in
theorem laws_heldStringS.calls (k:Nat) (A0:Option Addr) (c0:Nat) (l0:List ByteArray) (a1:Int) (r:Int) (w:World) (hr0:Kd.C Kd.string w A0 l0.length l0) (hc0:l0.length≤c0) (h:laws_heldStringS.f k l0 a1=some r) :
    Calls Try.prog 164 #[.slice A0 l0.length c0,.int .i64 a1] w fun e w'=>e=.returned (.int .i64 r)∧Below w.heap.size w w':=by
  have HR0 := Aside0.mk hr0
  have HC0 := Aside0.mk hc0
  clear hr0 hc0
  have HB := Aside0.mk (Below.refl w.heap.size w)
  have H : (laws_heldStringS.l0 k l0 a1 0) = some r := h
  clear h
  have H' := Aside0.mk H
  clear H
  go_enter Try.func164, Try.ntmps164
  go_wp2
  go_loopg [1,5] k (fun kq v1 v5 w'=>∃ (x1_1:Int) (x5_1:Int),v1=.int .i64 x1_1∧v5=.int .i64 x5_1∧Aside0 (laws_heldStringS.l0 kq l0 x1_1 x5_1=some r)∧Aside0 (kq≤k)∧Aside0 (Below w.heap.size w w'))
  case atStart=>exact ⟨(a1),(0),(by first|rfl|(simp;done)|(simp [*];done)),(by first|rfl|(simp;done)|(simp [*];done)),H',⟨Nat.le_refl _⟩,⟨by repeat (first|(with_reducible first|exact HB.out|apply bA7_|apply bN7_|apply bD7_)|exact HB.out)⟩⟩
  case round =>
    clear H'
    try clear c1
    try clear p2
    obtain ⟨x1_1, x5_1, rfl, rfl, HA, HK1, HB⟩ := hrel
    cases gk with
    | zero => exact absurd HA.out (by simp [laws_heldStringS.l0])
    | succ k1 =>
      have H := HA.out
      clear HA
      simp only [laws_heldStringS.l0] at H
      by_cases c3 : x5_1 < (l0.length : Int)
      · rw [if_pos c3] at H
        have c3b0 : decide (x5_1 < (l0.length : Int)) = true := decide_eq_true c3
        clear c3
        by_cases c4 : 0 ≤ x5_1
        · rw [if_pos c4] at H
          have c4b0 : decide (0 ≤ x5_1) = true := decide_eq_true c4
          clear c4
          replace H := Option.bind_eq_some_iff.mp H
          obtain ⟨t280, A50, H⟩ := H
          replace H:(if (rdOf ByteArray.empty l0 x5_1).toList=t280.toList then (laws_heldStringS.l0 k1 l0 (wrap64 (x1_1+1)) (wrap64 (x5_1+1))) else (some (-1)))=some r:=H
          have A5 := Aside0.mk A50
          clear A50
          by_cases c6 : (rdOf ByteArray.empty l0 x5_1).toList = t280.toList
          · rw [if_pos c6] at H
            have c6b0:((rdOf ByteArray.empty l0 x5_1).toList == t280.toList)=true:=beq_iff_eq.mpr c6
            have c6b1:((rdOf ByteArray.empty l0 x5_1).toList != t280.toList)=false:=bne_eq_false_iff_eq.mpr c6
            clear c6
            have H' := Aside0.mk H
            clear H
            try go_wp2
            have n0_ := Aside0.mk (below_drew1 HB.out)
            clear HB
            have HB := n0_
            clear n0_
            have p279:0≤(x5_1:Int):=of_decide_eq_true (by first|(with_reducible assumption)|assumption)
            have q279:x5_1 < (l0.length:Int):=of_decide_eq_true (by first|(with_reducible assumption)|assumption)
            obtain ⟨ad279, e279, hx279_0⟩ := Kd.at_string HR0.out x5_1 p279 q279
            have hw279_0 := hx279_0
            cases e279
            replace hx279_0 := (HB.out.cell (World.block_lt_of_cell? w _ hx279_0)).trans hx279_0
            replace p279 := eq_true p279
            replace q279 := eq_true q279
            refine start_ (n:=7) (S:=fun w'=>w'.cell? (ad279.add (x5_1).toNat)=some (.string (rdOf ByteArray.empty l0 x5_1))) (ds:=[]) #[false,false,false,false,false,false,false] (by kernel_rfl) rfl rfl (((HB.out.cell (World.block_lt_of_cell? w _ hw279_0)).trans hw279_0)) (fun hHeld=>?_)
            generalize wr.drew = w7 at HB hx279_0 hHeld ⊢
            refine pure_ (i:=0) (N:=some 12) (v:=?_) (a':=?_) #[true,false,false,false,false,false,false] rfl rfl (by kernel_rfl) (fun _ _ _ h=>h) (Or.inl ⟨by rfl,?_⟩) ?_ ?_
            rotate_left
            · intro w'
              go_simp
              with_reducible rfl
            rotate_left
            · simp only [Act.put,List.setIfInBounds_toArray,List.set_cons_zero,List.set_cons_succ,i64_w,i32_w]
              rfl
            refine pure_ (i:=1) (N:=some 13) (v:=?_) (a':=?_) #[true,true,false,false,false,false,false] rfl rfl (by kernel_rfl) (fun _ _ _ h=>h) (Or.inl ⟨by rfl,?_⟩) ?_ ?_
            rotate_left
            · intro w'
              go_simp
              with_reducible rfl
            rotate_left
            · simp only [Act.put,List.setIfInBounds_toArray,List.set_cons_zero,List.set_cons_succ,i64_w,i32_w]
              rfl
            refine pure_ (i:=2) (N:=some 14) (v:=?_) (a':=?_) #[true,true,true,false,false,false,false] rfl rfl (by kernel_rfl) (fun _ _ _ h=>h) (Or.inl ⟨by rfl,?_⟩) ?_ ?_
            rotate_left
            · intro w'
              go_simp
              with_reducible rfl
            rotate_left
            · simp only [Act.put,List.setIfInBounds_toArray,List.set_cons_zero,List.set_cons_succ,i64_w,i32_w]
              rfl
            refine pure_ (i:=4) (N:=some 16) (v:=?_) (a':=?_) #[true,true,true,false,true,false,false] rfl rfl (by kernel_rfl) (fun _ _ _ h=>h) (Or.inl ⟨by rfl,?_⟩) ?_ ?_
            rotate_left
            · intro w'
              go_simp
              with_reducible rfl
            rotate_left
            · simp only [Act.put,List.setIfInBounds_toArray,List.set_cons_zero,List.set_cons_succ,i64_w,i32_w]
              rfl
            refine take_ (i:=3) (N:=some 15) (v:=?_) (a':=?_) #[true,true,true,true,true,false,false] rfl rfl (by kernel_rfl) (fun _ _ _ h=>h) (Or.inl ⟨by rfl,?_⟩) hHeld ?_ ?_
            rotate_left
            · intro w' s0
              go_simp
              with_reducible rfl
            rotate_left
            · simp only [Act.put,List.setIfInBounds_toArray,List.set_cons_zero,List.set_cons_succ,i64_w,i32_w]
              rfl
            refine one_ (i:=5) (N:=some 17) #[true,true,true,true,true,true,false] rfl rfl (by kernel_rfl) (by decide) (fun K hK=>?_)
            refine goes_ Try.func189 (by kernel_rfl) rfl #[.int .i64 x1_1] (by rfl) rfl rfl (by (try simp only [List.map_toArray,List.map_cons,List.map_nil]);first|done|rfl|(simp only [List.length_drop,List.length_take];rfl)) ?_
            with_reducible refine (laws_markText.calls k1 x1_1 t280 _ A5.out).mono ?_
            rintro e w8 ⟨rfl, hb⟩
            refine ⟨_, rfl, ?_⟩
            have n0_:=mk7_ (bT7_ (by repeat (first|(with_reducible first|exact HB.out|apply bA7_|apply bN7_|apply bD7_)|exact HB.out)) hb)
            clear HB
            have HB := n0_
            clear n0_
            (try clear hb)
            (try clear hb2)
            (try clear hk)
            (try clear hi)
            refine hK.out _ _ (((HB.out.cell (World.block_lt_of_cell? w _ hw279_0)).trans hw279_0)) (fun hHeld=>?_)
            clear hK K
            refine norm_ (a' := ?_) ?_ ?_
            rotate_left
            · show Act.put _ (some 17) _ = _
              simp only [Act.put,List.setIfInBounds_toArray,List.set_cons_zero,List.set_cons_succ,i64_w,i32_w]
              rfl
            refine pure_ (i:=6) (N:=some 18) (v:=?_) (a':=?_) #[true,true,true,true,true,true,true] rfl rfl (by kernel_rfl) (fun _ _ _ h=>h) (Or.inl ⟨by rfl,?_⟩) ?_ ?_
            rotate_left
            · intro w'
              go_simp
              with_reducible rfl
            rotate_left
            · simp only [Act.put,List.setIfInBounds_toArray,List.set_cons_zero,List.set_cons_succ,i64_w,i32_w]
              rfl
            refine done_ (by kernel_rfl) ?_
            try go_wp2
            go_roundg k1
            case measure => have := HK1.out; omega
            case rel=>exact ⟨(wrap64 (x1_1+1)),(wrap64 (x5_1+1)),(by first|rfl|(simp;done)|(simp [*];done)),(by first|rfl|(simp;done)|(simp [*];done)),H',⟨by have:=HK1.out;omega⟩,⟨by repeat (first|(with_reducible first|exact HB.out|apply bA7_|apply bN7_|apply bD7_)|exact HB.out)⟩⟩
          · rw [if_neg c6] at H
            have c6b0:((rdOf ByteArray.empty l0 x5_1).toList == t280.toList)=false:=beq_eq_false_iff_ne.mpr c6
            have c6b1:((rdOf ByteArray.empty l0 x5_1).toList != t280.toList)=true:=bne_iff_ne.mpr c6
            obtain rfl := Option.some.inj H
            try go_wp2
            have n0_ := Aside0.mk (below_drew1 HB.out)
            clear HB
            have HB := n0_
            clear n0_
            have p279:0≤(x5_1:Int):=of_decide_eq_true (by first|(with_reducible assumption)|assumption)
            have q279:x5_1 < (l0.length:Int):=of_decide_eq_true (by first|(with_reducible assumption)|assumption)
            obtain ⟨ad279, e279, hx279_0⟩ := Kd.at_string HR0.out x5_1 p279 q279
            have hw279_0 := hx279_0
            cases e279
            replace hx279_0 := (HB.out.cell (World.block_lt_of_cell? w _ hx279_0)).trans hx279_0
            replace p279 := eq_true p279
            replace q279 := eq_true q279
            refine start_ (n:=7) (S:=fun w'=>w'.cell? (ad279.add (x5_1).toNat)=some (.string (rdOf ByteArray.empty l0 x5_1))) (ds:=[]) #[false,false,false,false,false,false,false] (by kernel_rfl) rfl rfl (((HB.out.cell (World.block_lt_of_cell? w _ hw279_0)).trans hw279_0)) (fun hHeld=>?_)
            generalize wr.drew = w9 at HB hx279_0 hHeld ⊢
            refine pure_ (i:=0) (N:=some 12) (v:=?_) (a':=?_) #[true,false,false,false,false,false,false] rfl rfl (by kernel_rfl) (fun _ _ _ h=>h) (Or.inl ⟨by rfl,?_⟩) ?_ ?_
            rotate_left
            · intro w'
              go_simp
              with_reducible rfl
            rotate_left
            · simp only [Act.put,List.setIfInBounds_toArray,List.set_cons_zero,List.set_cons_succ,i64_w,i32_w]
              rfl
            refine pure_ (i:=1) (N:=some 13) (v:=?_) (a':=?_) #[true,true,false,false,false,false,false] rfl rfl (by kernel_rfl) (fun _ _ _ h=>h) (Or.inl ⟨by rfl,?_⟩) ?_ ?_
            rotate_left
            · intro w'
              go_simp
              with_reducible rfl
            rotate_left
            · simp only [Act.put,List.setIfInBounds_toArray,List.set_cons_zero,List.set_cons_succ,i64_w,i32_w]
              rfl
            refine pure_ (i:=2) (N:=some 14) (v:=?_) (a':=?_) #[true,true,true,false,false,false,false] rfl rfl (by kernel_rfl) (fun _ _ _ h=>h) (Or.inl ⟨by rfl,?_⟩) ?_ ?_
            rotate_left
            · intro w'
              go_simp
              with_reducible rfl
            rotate_left
            · simp only [Act.put,List.setIfInBounds_toArray,List.set_cons_zero,List.set_cons_succ,i64_w,i32_w]
              rfl
            refine pure_ (i:=4) (N:=some 16) (v:=?_) (a':=?_) #[true,true,true,false,true,false,false] rfl rfl (by kernel_rfl) (fun _ _ _ h=>h) (Or.inl ⟨by rfl,?_⟩) ?_ ?_
            rotate_left
            · intro w'
              go_simp
              with_reducible rfl
            rotate_left
            · simp only [Act.put,List.setIfInBounds_toArray,List.set_cons_zero,List.set_cons_succ,i64_w,i32_w]
              rfl
            refine take_ (i:=3) (N:=some 15) (v:=?_) (a':=?_) #[true,true,true,true,true,false,false] rfl rfl (by kernel_rfl) (fun _ _ _ h=>h) (Or.inl ⟨by rfl,?_⟩) hHeld ?_ ?_
            rotate_left
            · intro w' s0
              go_simp
              with_reducible rfl
            rotate_left
            · simp only [Act.put,List.setIfInBounds_toArray,List.set_cons_zero,List.set_cons_succ,i64_w,i32_w]
              rfl
            refine one_ (i:=5) (N:=some 17) #[true,true,true,true,true,true,false] rfl rfl (by kernel_rfl) (by decide) (fun K hK=>?_)
            refine goes_ Try.func189 (by kernel_rfl) rfl #[.int .i64 x1_1] (by rfl) rfl rfl (by (try simp only [List.map_toArray,List.map_cons,List.map_nil]);first|done|rfl|(simp only [List.length_drop,List.length_take];rfl)) ?_
            with_reducible refine (laws_markText.calls k1 x1_1 t280 _ A5.out).mono ?_
            rintro e w10 ⟨rfl, hb⟩
            refine ⟨_, rfl, ?_⟩
            have n0_:=mk7_ (bT7_ (by repeat (first|(with_reducible first|exact HB.out|apply bA7_|apply bN7_|apply bD7_)|exact HB.out)) hb)
            clear HB
            have HB := n0_
            clear n0_
            (try clear hb)
            (try clear hb2)
            (try clear hk)
            (try clear hi)
            refine hK.out _ _ (((HB.out.cell (World.block_lt_of_cell? w _ hw279_0)).trans hw279_0)) (fun hHeld=>?_)
            clear hK K
            refine norm_ (a' := ?_) ?_ ?_
            rotate_left
            · show Act.put _ (some 17) _ = _
              simp only [Act.put,List.setIfInBounds_toArray,List.set_cons_zero,List.set_cons_succ,i64_w,i32_w]
              rfl
            refine pure_ (i:=6) (N:=some 18) (v:=?_) (a':=?_) #[true,true,true,true,true,true,true] rfl rfl (by kernel_rfl) (fun _ _ _ h=>h) (Or.inl ⟨by rfl,?_⟩) ?_ ?_
            rotate_left
            · intro w'
              go_simp
              with_reducible rfl
            rotate_left
            · simp only [Act.put,List.setIfInBounds_toArray,List.set_cons_zero,List.set_cons_succ,i64_w,i32_w]
              rfl
            refine done_ (by kernel_rfl) ?_
            try go_wp2
            go_ret
            exact ⟨by first|rfl|(simp [errW_none,errW_some] <;> rfl)|(simp [*,errW_none,errW_some] <;> rfl),by repeat (first|(with_reducible first|exact HB.out|apply bA7_|apply bN7_|apply bD7_)|exact HB.out)⟩
        · rw [if_neg c4] at H
          exact absurd H (by simp)
      · rw [if_neg c3] at H
        have c3b0 : decide (x5_1 < (l0.length : Int)) = false := decide_eq_false c3
        clear c3
        obtain rfl := Option.some.inj H
        go_wp2
        go_ret
        exact ⟨by first|rfl|(simp [errW_none,errW_some] <;> rfl)|(simp [*,errW_none,errW_some] <;> rfl),by repeat (first|(with_reducible first|exact HB.out|apply bA7_|apply bN7_|apply bD7_)|exact HB.out)⟩

def laws_heldBlockS.l0 : Nat → List (S120) → Int → Int → Option (Int)
  | 0, _, _, _ => none
  | k+1,x0,x1,x5=>if x5 < (x0.length:Int) then (if 0≤x5 then (if ((rd_T120 x0 x5).f0)=x1 then (if ((rd_T120 x0 x5).f1)=(wrap64 (x1+1)) then (if (((rd_T120 x0 x5).f2) != ((Int.tmod (wrap64 ((wrap64 (x1+1))+1)) 3) == 0))=true then (some (-1)) else ((laws_heldStringS.f k ((rd_T120 x0 x5).f3) (wrap64 ((wrap64 ((wrap64 (x1+1))+1))+1))).bind fun t285=>(if t285 < 0 then (some (-1)) else (laws_heldBlockS.l0 k x0 t285 (wrap64 (x5+1)))))) else (some (-1))) else (some (-1))) else (none)) else (some x1)
def laws_heldBlockS.f (k:Nat) (l0:List (S120)) (a1:Int):Option (Int):=laws_heldBlockS.l0 k l0 a1 0
set_option maxHeartbeats 8000000 in
set_option maxRecDepth 100000 in
theorem laws_heldBlockS.calls (k:Nat) (A0:Option Addr) (c0:Nat) (l0:List (S120)) (a1:Int) (r:Int) (w:World) (hr0:Kd.C k120 w A0 l0.length l0) (hc0:l0.length≤c0) (h:laws_heldBlockS.f k l0 a1=some r) :
    Calls Try.prog 163 #[.slice A0 l0.length c0,.int .i64 a1] w fun e w'=>e=.returned (.int .i64 r)∧Below w.heap.size w w':=by
  have HR0 := Aside0.mk hr0
  have HC0 := Aside0.mk hc0
  clear hr0 hc0
  have HB := Aside0.mk (Below.refl w.heap.size w)
  have H : (laws_heldBlockS.l0 k l0 a1 0) = some r := h
  clear h
  have H' := Aside0.mk H
  clear H
  go_enter Try.func163, Try.ntmps163
  go_wp2
  go_loopg [1,5] k (fun kq v1 v5 w'=>∃ (x1_1:Int) (x5_1:Int),v1=.int .i64 x1_1∧v5=.int .i64 x5_1∧Aside0 (laws_heldBlockS.l0 kq l0 x1_1 x5_1=some r)∧Aside0 (kq≤k)∧Aside0 (Below w.heap.size w w'))
  case atStart=>exact ⟨(a1),(0),(by first|rfl|(simp;done)|(simp [*];done)),(by first|rfl|(simp;done)|(simp [*];done)),H',⟨Nat.le_refl _⟩,⟨by repeat (first|(with_reducible first|exact HB.out|apply bA7_|apply bN7_|apply bD7_)|exact HB.out)⟩⟩
  case round =>
    clear H'
    try clear c1
    try clear p2
    obtain ⟨x1_1, x5_1, rfl, rfl, HA, HK1, HB⟩ := hrel
    cases gk with
    | zero => exact absurd HA.out (by simp [laws_heldBlockS.l0])
    | succ k1 =>
      have H := HA.out
      clear HA
      simp only [laws_heldBlockS.l0] at H
      by_cases c3 : x5_1 < (l0.length : Int)
      · rw [if_pos c3] at H
        have c3b0 : decide (x5_1 < (l0.length : Int)) = true := decide_eq_true c3
        clear c3
        by_cases c4 : 0 ≤ x5_1
        · rw [if_pos c4] at H
          have c4b0 : decide (0 ≤ x5_1) = true := decide_eq_true c4
          clear c4
          by_cases c5 : ((rd_T120 l0 x5_1).f0) = x1_1
          · rw [if_pos c5] at H
            have c5b0 : (((rd_T120 l0 x5_1).f0) == x1_1) = true := beq_iff_eq.mpr c5
            have c5b1 : (((rd_T120 l0 x5_1).f0) != x1_1) = false := bne_eq_false_iff_eq.mpr c5
            clear c5
            by_cases c6 : ((rd_T120 l0 x5_1).f1) = (wrap64 (x1_1 + 1))
            · rw [if_pos c6] at H
              have c6b0:(((rd_T120 l0 x5_1).f1) == (wrap64 (x1_1+1)))=true:=beq_iff_eq.mpr c6
              have c6b1:(((rd_T120 l0 x5_1).f1) != (wrap64 (x1_1+1)))=false:=bne_eq_false_iff_eq.mpr c6
              clear c6
              by_cases c7:(((rd_T120 l0 x5_1).f2) != ((Int.tmod (wrap64 ((wrap64 (x1_1+1))+1)) 3) == 0))=true
              · rw [if_pos c7] at H
                have c7b0:(((rd_T120 l0 x5_1).f2) != ((Int.tmod (wrap64 ((wrap64 (x1_1+1))+1)) 3) == 0))=true:=c7
                (try (have c7b1:decide (((rd_T120 l0 x5_1).f2)=((Int.tmod (wrap64 ((wrap64 (x1_1+1))+1)) 3) == 0))=false:=by simpa using c7))
                (try (have c7b2:(((rd_T120 l0 x5_1).f2) == ((Int.tmod (wrap64 ((wrap64 (x1_1+1))+1)) 3) == 0))=false:=by simpa using c7))
                (try (have c7b3:¬ (((rd_T120 l0 x5_1).f2)=((Int.tmod (wrap64 ((wrap64 (x1_1+1))+1)) 3) == 0)):=by simpa using c7))
                clear c7
                obtain rfl := Option.some.inj H
                have p281:0≤(x5_1:Int):=of_decide_eq_true (by first|(with_reducible assumption)|assumption)
                have q281:x5_1 < (l0.length:Int):=of_decide_eq_true (by first|(with_reducible assumption)|assumption)
                obtain ⟨ad281,A281_3,c281_3,e281,hx281_0,hx281_1,hx281_2,hx281_3,hl281_3,hi281_3⟩:=at_T120 HR0.out x5_1 p281 q281
                cases e281
                replace hx281_0:=(HB.out.cell (World.block_lt_of_cell? w _ hx281_0)).trans hx281_0
                replace hx281_1:=(HB.out.cell (World.block_lt_of_cell? w _ hx281_1)).trans hx281_1
                replace hx281_2:=(HB.out.cell (World.block_lt_of_cell? w _ hx281_2)).trans hx281_2
                replace hx281_3:=(HB.out.cell (World.block_lt_of_cell? w _ hx281_3)).trans hx281_3
                have HR281_3 := Aside0.mk hi281_3
                have HC281_3 := Aside0.mk hl281_3
                clear hi281_3 hl281_3
                replace p281 := eq_true p281
                replace q281 := eq_true q281
                have p282:0≤(x5_1:Int):=of_decide_eq_true (by first|(with_reducible assumption)|assumption)
                have q282:x5_1 < (l0.length:Int):=of_decide_eq_true (by first|(with_reducible assumption)|assumption)
                obtain ⟨ad282,A282_3,c282_3,e282,hx282_0,hx282_1,hx282_2,hx282_3,hl282_3,hi282_3⟩:=at_T120 HR0.out x5_1 p282 q282
                obtain rfl : ad281 = ad282 := (by injection e282)
                replace hx282_0:=(HB.out.cell (World.block_lt_of_cell? w _ hx282_0)).trans hx282_0
                replace hx282_1:=(HB.out.cell (World.block_lt_of_cell? w _ hx282_1)).trans hx282_1
                replace hx282_2:=(HB.out.cell (World.block_lt_of_cell? w _ hx282_2)).trans hx282_2
                replace hx282_3:=(HB.out.cell (World.block_lt_of_cell? w _ hx282_3)).trans hx282_3
                have HR282_3 := Aside0.mk hi282_3
                have HC282_3 := Aside0.mk hl282_3
                clear hi282_3 hl282_3
                replace p282 := eq_true p282
                replace q282 := eq_true q282
                have ea_ := Option.some.inj (hx281_3.symm.trans hx282_3)
                injection ea_ with ea_ en_ ec_
                subst ea_
                subst ec_
                clear en_
                have p283:0≤(x5_1:Int):=of_decide_eq_true (by first|(with_reducible assumption)|assumption)
                have q283:x5_1 < (l0.length:Int):=of_decide_eq_true (by first|(with_reducible assumption)|assumption)
                obtain ⟨ad283,A283_3,c283_3,e283,hx283_0,hx283_1,hx283_2,hx283_3,hl283_3,hi283_3⟩:=at_T120 HR0.out x5_1 p283 q283
                obtain rfl : ad281 = ad283 := (by injection e283)
                replace hx283_0:=(HB.out.cell (World.block_lt_of_cell? w _ hx283_0)).trans hx283_0
                replace hx283_1:=(HB.out.cell (World.block_lt_of_cell? w _ hx283_1)).trans hx283_1
                replace hx283_2:=(HB.out.cell (World.block_lt_of_cell? w _ hx283_2)).trans hx283_2
                replace hx283_3:=(HB.out.cell (World.block_lt_of_cell? w _ hx283_3)).trans hx283_3
                have HR283_3 := Aside0.mk hi283_3
                have HC283_3 := Aside0.mk hl283_3
                clear hi283_3 hl283_3
                replace p283 := eq_true p283
                replace q283 := eq_true q283
                have ea_ := Option.some.inj (hx281_3.symm.trans hx283_3)
                injection ea_ with ea_ en_ ec_
                subst ea_
                subst ec_
                clear en_
                go_wp2
                go_ret
                exact ⟨by first|rfl|(simp [errW_none,errW_some] <;> rfl)|(simp [*,errW_none,errW_some] <;> rfl),by repeat (first|(with_reducible first|exact HB.out|apply bA7_|apply bN7_|apply bD7_)|exact HB.out)⟩
              · rw [if_neg c7] at H
                have c7b0:(((rd_T120 l0 x5_1).f2) != ((Int.tmod (wrap64 ((wrap64 (x1_1+1))+1)) 3) == 0))=false:=by simpa using c7
                (try (have c7b1:decide (((rd_T120 l0 x5_1).f2)=((Int.tmod (wrap64 ((wrap64 (x1_1+1))+1)) 3) == 0))=true:=by simpa using c7))
                (try (have c7b2:(((rd_T120 l0 x5_1).f2) == ((Int.tmod (wrap64 ((wrap64 (x1_1+1))+1)) 3) == 0))=true:=by simpa using c7))
                clear c7
                replace H := Option.bind_eq_some_iff.mp H
                obtain ⟨t285, A80, H⟩ := H
                replace H:(if t285 < 0 then (some (-1)) else (laws_heldBlockS.l0 k1 l0 t285 (wrap64 (x5_1+1))))=some r:=H
                have A8 := Aside0.mk A80
                clear A80
                by_cases c9 : t285 < 0
                · rw [if_pos c9] at H
                  have c9b0 : decide (t285 < 0) = true := decide_eq_true c9
                  clear c9
                  obtain rfl := Option.some.inj H
                  have p281:0≤(x5_1:Int):=of_decide_eq_true (by first|(with_reducible assumption)|assumption)
                  have q281:x5_1 < (l0.length:Int):=of_decide_eq_true (by first|(with_reducible assumption)|assumption)
                  obtain ⟨ad281,A281_3,c281_3,e281,hx281_0,hx281_1,hx281_2,hx281_3,hl281_3,hi281_3⟩:=at_T120 HR0.out x5_1 p281 q281
                  cases e281
                  replace hx281_0:=(HB.out.cell (World.block_lt_of_cell? w _ hx281_0)).trans hx281_0
                  replace hx281_1:=(HB.out.cell (World.block_lt_of_cell? w _ hx281_1)).trans hx281_1
                  replace hx281_2:=(HB.out.cell (World.block_lt_of_cell? w _ hx281_2)).trans hx281_2
                  replace hx281_3:=(HB.out.cell (World.block_lt_of_cell? w _ hx281_3)).trans hx281_3
                  have HR281_3 := Aside0.mk hi281_3
                  have HC281_3 := Aside0.mk hl281_3
                  clear hi281_3 hl281_3
                  replace p281 := eq_true p281
                  replace q281 := eq_true q281
                  have p282:0≤(x5_1:Int):=of_decide_eq_true (by first|(with_reducible assumption)|assumption)
                  have q282:x5_1 < (l0.length:Int):=of_decide_eq_true (by first|(with_reducible assumption)|assumption)
                  obtain ⟨ad282,A282_3,c282_3,e282,hx282_0,hx282_1,hx282_2,hx282_3,hl282_3,hi282_3⟩:=at_T120 HR0.out x5_1 p282 q282
                  obtain rfl : ad281 = ad282 := (by injection e282)
                  replace hx282_0:=(HB.out.cell (World.block_lt_of_cell? w _ hx282_0)).trans hx282_0
                  replace hx282_1:=(HB.out.cell (World.block_lt_of_cell? w _ hx282_1)).trans hx282_1
                  replace hx282_2:=(HB.out.cell (World.block_lt_of_cell? w _ hx282_2)).trans hx282_2
                  replace hx282_3:=(HB.out.cell (World.block_lt_of_cell? w _ hx282_3)).trans hx282_3
                  have HR282_3 := Aside0.mk hi282_3
                  have HC282_3 := Aside0.mk hl282_3
                  clear hi282_3 hl282_3
                  replace p282 := eq_true p282
                  replace q282 := eq_true q282
                  have ea_ := Option.some.inj (hx281_3.symm.trans hx282_3)
                  injection ea_ with ea_ en_ ec_
                  subst ea_
                  subst ec_
                  clear en_
                  have p283:0≤(x5_1:Int):=of_decide_eq_true (by first|(with_reducible assumption)|assumption)
                  have q283:x5_1 < (l0.length:Int):=of_decide_eq_true (by first|(with_reducible assumption)|assumption)
                  obtain ⟨ad283,A283_3,c283_3,e283,hx283_0,hx283_1,hx283_2,hx283_3,hl283_3,hi283_3⟩:=at_T120 HR0.out x5_1 p283 q283
                  obtain rfl : ad281 = ad283 := (by injection e283)
                  replace hx283_0:=(HB.out.cell (World.block_lt_of_cell? w _ hx283_0)).trans hx283_0
                  replace hx283_1:=(HB.out.cell (World.block_lt_of_cell? w _ hx283_1)).trans hx283_1
                  replace hx283_2:=(HB.out.cell (World.block_lt_of_cell? w _ hx283_2)).trans hx283_2
                  replace hx283_3:=(HB.out.cell (World.block_lt_of_cell? w _ hx283_3)).trans hx283_3
                  have HR283_3 := Aside0.mk hi283_3
                  have HC283_3 := Aside0.mk hl283_3
                  clear hi283_3 hl283_3
                  replace p283 := eq_true p283
                  replace q283 := eq_true q283
                  have ea_ := Option.some.inj (hx281_3.symm.trans hx283_3)
                  injection ea_ with ea_ en_ ec_
                  subst ea_
                  subst ec_
                  clear en_
                  have p284:0≤(x5_1:Int):=of_decide_eq_true (by first|(with_reducible assumption)|assumption)
                  have q284:x5_1 < (l0.length:Int):=of_decide_eq_true (by first|(with_reducible assumption)|assumption)
                  obtain ⟨ad284,A284_3,c284_3,e284,hx284_0,hx284_1,hx284_2,hx284_3,hl284_3,hi284_3⟩:=at_T120 HR0.out x5_1 p284 q284
                  obtain rfl : ad281 = ad284 := (by injection e284)
                  replace hx284_0:=(HB.out.cell (World.block_lt_of_cell? w _ hx284_0)).trans hx284_0
                  replace hx284_1:=(HB.out.cell (World.block_lt_of_cell? w _ hx284_1)).trans hx284_1
                  replace hx284_2:=(HB.out.cell (World.block_lt_of_cell? w _ hx284_2)).trans hx284_2
                  replace hx284_3:=(HB.out.cell (World.block_lt_of_cell? w _ hx284_3)).trans hx284_3
                  have HR284_3 := Aside0.mk hi284_3
                  have HC284_3 := Aside0.mk hl284_3
                  clear hi284_3 hl284_3
                  replace p284 := eq_true p284
                  replace q284 := eq_true q284
                  have ea_ := Option.some.inj (hx281_3.symm.trans hx284_3)
                  injection ea_ with ea_ en_ ec_
                  subst ea_
                  subst ec_
                  clear en_
                  go_wp2_with (first|((with_reducible refine gate_callee (f:=164) rfl ?_);refine goesL_ (some 47) rfl rfl Try.func164 (by kernel_rfl) rfl #[.slice A281_3 ((rd_T120 l0 x5_1).f3).length c281_3,.int .i64 (wrap64 ((wrap64 ((wrap64 (x1_1+1))+1))+1))] rfl (by (try simp only [List.map_toArray,List.map_cons,List.map_nil]);first|done|rfl|(simp only [List.length_drop,List.length_take];rfl)) ?_;(with_reducible refine (laws_heldStringS.calls k1 _ _ ((rd_T120 l0 x5_1).f3) (wrap64 ((wrap64 ((wrap64 (x1_1+1))+1))+1)) t285 _ ?side1 ?side2 A8.out).mono ?_);(case side1=>repeat (first|exact (Kd.C_below HR284_3.out HB.out)|(with_reducible refine Kd.C_alloc ?_ _)|(with_reducible refine Kd.C_drewN ?_ _)|(with_reducible refine Kd.C_drew ?_)));(case side2=>exact HC284_3.out);rintro e w10 ⟨rfl,hb⟩;refine ⟨_,rfl,?_⟩;have n0_:=mk7_ (bT7_ (by repeat (first|(with_reducible first|exact HB.out|apply bA7_|apply bN7_|apply bD7_)|exact HB.out)) hb);clear HB;have HB:=n0_;clear n0_;(try clear hb);(try clear hb2);(try clear hk);(try clear hi)))
                  go_ret
                  exact ⟨by first|rfl|(simp [errW_none,errW_some] <;> rfl)|(simp [*,errW_none,errW_some] <;> rfl),by repeat (first|(with_reducible first|exact HB.out|apply bA7_|apply bN7_|apply bD7_)|exact HB.out)⟩
                · rw [if_neg c9] at H
                  have c9b0 : decide (t285 < 0) = false := decide_eq_false c9
                  clear c9
                  have H' := Aside0.mk H
                  clear H
                  have p281:0≤(x5_1:Int):=of_decide_eq_true (by first|(with_reducible assumption)|assumption)
                  have q281:x5_1 < (l0.length:Int):=of_decide_eq_true (by first|(with_reducible assumption)|assumption)
                  obtain ⟨ad281,A281_3,c281_3,e281,hx281_0,hx281_1,hx281_2,hx281_3,hl281_3,hi281_3⟩:=at_T120 HR0.out x5_1 p281 q281
                  cases e281
                  replace hx281_0:=(HB.out.cell (World.block_lt_of_cell? w _ hx281_0)).trans hx281_0
                  replace hx281_1:=(HB.out.cell (World.block_lt_of_cell? w _ hx281_1)).trans hx281_1
                  replace hx281_2:=(HB.out.cell (World.block_lt_of_cell? w _ hx281_2)).trans hx281_2
                  replace hx281_3:=(HB.out.cell (World.block_lt_of_cell? w _ hx281_3)).trans hx281_3
                  have HR281_3 := Aside0.mk hi281_3
                  have HC281_3 := Aside0.mk hl281_3
                  clear hi281_3 hl281_3
                  replace p281 := eq_true p281
                  replace q281 := eq_true q281
                  have p282:0≤(x5_1:Int):=of_decide_eq_true (by first|(with_reducible assumption)|assumption)
                  have q282:x5_1 < (l0.length:Int):=of_decide_eq_true (by first|(with_reducible assumption)|assumption)
                  obtain ⟨ad282,A282_3,c282_3,e282,hx282_0,hx282_1,hx282_2,hx282_3,hl282_3,hi282_3⟩:=at_T120 HR0.out x5_1 p282 q282
                  obtain rfl : ad281 = ad282 := (by injection e282)
                  replace hx282_0:=(HB.out.cell (World.block_lt_of_cell? w _ hx282_0)).trans hx282_0
                  replace hx282_1:=(HB.out.cell (World.block_lt_of_cell? w _ hx282_1)).trans hx282_1
                  replace hx282_2:=(HB.out.cell (World.block_lt_of_cell? w _ hx282_2)).trans hx282_2
                  replace hx282_3:=(HB.out.cell (World.block_lt_of_cell? w _ hx282_3)).trans hx282_3
                  have HR282_3 := Aside0.mk hi282_3
                  have HC282_3 := Aside0.mk hl282_3
                  clear hi282_3 hl282_3
                  replace p282 := eq_true p282
                  replace q282 := eq_true q282
                  have ea_ := Option.some.inj (hx281_3.symm.trans hx282_3)
                  injection ea_ with ea_ en_ ec_
                  subst ea_
                  subst ec_
                  clear en_
                  have p283:0≤(x5_1:Int):=of_decide_eq_true (by first|(with_reducible assumption)|assumption)
                  have q283:x5_1 < (l0.length:Int):=of_decide_eq_true (by first|(with_reducible assumption)|assumption)
                  obtain ⟨ad283,A283_3,c283_3,e283,hx283_0,hx283_1,hx283_2,hx283_3,hl283_3,hi283_3⟩:=at_T120 HR0.out x5_1 p283 q283
                  obtain rfl : ad281 = ad283 := (by injection e283)
                  replace hx283_0:=(HB.out.cell (World.block_lt_of_cell? w _ hx283_0)).trans hx283_0
                  replace hx283_1:=(HB.out.cell (World.block_lt_of_cell? w _ hx283_1)).trans hx283_1
                  replace hx283_2:=(HB.out.cell (World.block_lt_of_cell? w _ hx283_2)).trans hx283_2
                  replace hx283_3:=(HB.out.cell (World.block_lt_of_cell? w _ hx283_3)).trans hx283_3
                  have HR283_3 := Aside0.mk hi283_3
                  have HC283_3 := Aside0.mk hl283_3
                  clear hi283_3 hl283_3
                  replace p283 := eq_true p283
                  replace q283 := eq_true q283
                  have ea_ := Option.some.inj (hx281_3.symm.trans hx283_3)
                  injection ea_ with ea_ en_ ec_
                  subst ea_
                  subst ec_
                  clear en_
                  have p284:0≤(x5_1:Int):=of_decide_eq_true (by first|(with_reducible assumption)|assumption)
                  have q284:x5_1 < (l0.length:Int):=of_decide_eq_true (by first|(with_reducible assumption)|assumption)
                  obtain ⟨ad284,A284_3,c284_3,e284,hx284_0,hx284_1,hx284_2,hx284_3,hl284_3,hi284_3⟩:=at_T120 HR0.out x5_1 p284 q284
                  obtain rfl : ad281 = ad284 := (by injection e284)
                  replace hx284_0:=(HB.out.cell (World.block_lt_of_cell? w _ hx284_0)).trans hx284_0
                  replace hx284_1:=(HB.out.cell (World.block_lt_of_cell? w _ hx284_1)).trans hx284_1
                  replace hx284_2:=(HB.out.cell (World.block_lt_of_cell? w _ hx284_2)).trans hx284_2
                  replace hx284_3:=(HB.out.cell (World.block_lt_of_cell? w _ hx284_3)).trans hx284_3
                  have HR284_3 := Aside0.mk hi284_3
                  have HC284_3 := Aside0.mk hl284_3
                  clear hi284_3 hl284_3
                  replace p284 := eq_true p284
                  replace q284 := eq_true q284
                  have ea_ := Option.some.inj (hx281_3.symm.trans hx284_3)
                  injection ea_ with ea_ en_ ec_
                  subst ea_
                  subst ec_
                  clear en_
                  go_wp2_with (first|((with_reducible refine gate_callee (f:=164) rfl ?_);refine goesL_ (some 47) rfl rfl Try.func164 (by kernel_rfl) rfl #[.slice A281_3 ((rd_T120 l0 x5_1).f3).length c281_3,.int .i64 (wrap64 ((wrap64 ((wrap64 (x1_1+1))+1))+1))] rfl (by (try simp only [List.map_toArray,List.map_cons,List.map_nil]);first|done|rfl|(simp only [List.length_drop,List.length_take];rfl)) ?_;(with_reducible refine (laws_heldStringS.calls k1 _ _ ((rd_T120 l0 x5_1).f3) (wrap64 ((wrap64 ((wrap64 (x1_1+1))+1))+1)) t285 _ ?side1 ?side2 A8.out).mono ?_);(case side1=>repeat (first|exact (Kd.C_below HR284_3.out HB.out)|(with_reducible refine Kd.C_alloc ?_ _)|(with_reducible refine Kd.C_drewN ?_ _)|(with_reducible refine Kd.C_drew ?_)));(case side2=>exact HC284_3.out);rintro e w11 ⟨rfl,hb⟩;refine ⟨_,rfl,?_⟩;have n0_:=mk7_ (bT7_ (by repeat (first|(with_reducible first|exact HB.out|apply bA7_|apply bN7_|apply bD7_)|exact HB.out)) hb);clear HB;have HB:=n0_;clear n0_;(try clear hb);(try clear hb2);(try clear hk);(try clear hi)))
                  go_roundg k1
                  case measure => have := HK1.out; omega
                  case rel=>exact ⟨(t285),(wrap64 (x5_1+1)),(by first|rfl|(simp;done)|(simp [*];done)),(by first|rfl|(simp;done)|(simp [*];done)),H',⟨by have:=HK1.out;omega⟩,⟨by repeat (first|(with_reducible first|exact HB.out|apply bA7_|apply bN7_|apply bD7_)|exact HB.out)⟩⟩
            · rw [if_neg c6] at H
              have c6b0:(((rd_T120 l0 x5_1).f1) == (wrap64 (x1_1+1)))=false:=beq_eq_false_iff_ne.mpr c6
              have c6b1:(((rd_T120 l0 x5_1).f1) != (wrap64 (x1_1+1)))=true:=bne_iff_ne.mpr c6
              obtain rfl := Option.some.inj H
              have p281:0≤(x5_1:Int):=of_decide_eq_true (by first|(with_reducible assumption)|assumption)
              have q281:x5_1 < (l0.length:Int):=of_decide_eq_true (by first|(with_reducible assumption)|assumption)
              obtain ⟨ad281,A281_3,c281_3,e281,hx281_0,hx281_1,hx281_2,hx281_3,hl281_3,hi281_3⟩:=at_T120 HR0.out x5_1 p281 q281
              cases e281
              replace hx281_0 := (HB.out.cell (World.block_lt_of_cell? w _ hx281_0)).trans hx281_0
              replace hx281_1 := (HB.out.cell (World.block_lt_of_cell? w _ hx281_1)).trans hx281_1
              replace hx281_2 := (HB.out.cell (World.block_lt_of_cell? w _ hx281_2)).trans hx281_2
              replace hx281_3 := (HB.out.cell (World.block_lt_of_cell? w _ hx281_3)).trans hx281_3
              have HR281_3 := Aside0.mk hi281_3
              have HC281_3 := Aside0.mk hl281_3
              clear hi281_3 hl281_3
              replace p281 := eq_true p281
              replace q281 := eq_true q281
              have p282:0≤(x5_1:Int):=of_decide_eq_true (by first|(with_reducible assumption)|assumption)
              have q282:x5_1 < (l0.length:Int):=of_decide_eq_true (by first|(with_reducible assumption)|assumption)
              obtain ⟨ad282,A282_3,c282_3,e282,hx282_0,hx282_1,hx282_2,hx282_3,hl282_3,hi282_3⟩:=at_T120 HR0.out x5_1 p282 q282
              obtain rfl : ad281 = ad282 := (by injection e282)
              replace hx282_0 := (HB.out.cell (World.block_lt_of_cell? w _ hx282_0)).trans hx282_0
              replace hx282_1 := (HB.out.cell (World.block_lt_of_cell? w _ hx282_1)).trans hx282_1
              replace hx282_2 := (HB.out.cell (World.block_lt_of_cell? w _ hx282_2)).trans hx282_2
              replace hx282_3 := (HB.out.cell (World.block_lt_of_cell? w _ hx282_3)).trans hx282_3
              have HR282_3 := Aside0.mk hi282_3
              have HC282_3 := Aside0.mk hl282_3
              clear hi282_3 hl282_3
              replace p282 := eq_true p282
              replace q282 := eq_true q282
              have ea_ := Option.some.inj (hx281_3.symm.trans hx282_3)
              injection ea_ with ea_ en_ ec_
              subst ea_
              subst ec_
              clear en_
              go_wp2
              go_ret
              exact ⟨by first|rfl|(simp [errW_none,errW_some] <;> rfl)|(simp [*,errW_none,errW_some] <;> rfl),by repeat (first|(with_reducible first|exact HB.out|apply bA7_|apply bN7_|apply bD7_)|exact HB.out)⟩
          · rw [if_neg c5] at H
            have c5b0 : (((rd_T120 l0 x5_1).f0) == x1_1) = false := beq_eq_false_iff_ne.mpr c5
            have c5b1 : (((rd_T120 l0 x5_1).f0) != x1_1) = true := bne_iff_ne.mpr c5
            obtain rfl := Option.some.inj H
            have p281:0≤(x5_1:Int):=of_decide_eq_true (by first|(with_reducible assumption)|assumption)
            have q281:x5_1 < (l0.length:Int):=of_decide_eq_true (by first|(with_reducible assumption)|assumption)
            obtain ⟨ad281,A281_3,c281_3,e281,hx281_0,hx281_1,hx281_2,hx281_3,hl281_3,hi281_3⟩:=at_T120 HR0.out x5_1 p281 q281
            cases e281
            replace hx281_0 := (HB.out.cell (World.block_lt_of_cell? w _ hx281_0)).trans hx281_0
            replace hx281_1 := (HB.out.cell (World.block_lt_of_cell? w _ hx281_1)).trans hx281_1
            replace hx281_2 := (HB.out.cell (World.block_lt_of_cell? w _ hx281_2)).trans hx281_2
            replace hx281_3 := (HB.out.cell (World.block_lt_of_cell? w _ hx281_3)).trans hx281_3
            have HR281_3 := Aside0.mk hi281_3
            have HC281_3 := Aside0.mk hl281_3
            clear hi281_3 hl281_3
            replace p281 := eq_true p281
            replace q281 := eq_true q281
            go_wp2
            go_ret
            exact ⟨by first|rfl|(simp [errW_none,errW_some] <;> rfl)|(simp [*,errW_none,errW_some] <;> rfl),by repeat (first|(with_reducible first|exact HB.out|apply bA7_|apply bN7_|apply bD7_)|exact HB.out)⟩
        · rw [if_neg c4] at H
          exact absurd H (by simp)
      · rw [if_neg c3] at H
        have c3b0 : decide (x5_1 < (l0.length : Int)) = false := decide_eq_false c3
        clear c3
        obtain rfl := Option.some.inj H
        go_wp2
        go_ret
        exact ⟨by first|rfl|(simp [errW_none,errW_some] <;> rfl)|(simp [*,errW_none,errW_some] <;> rfl),by repeat (first|(with_reducible first|exact HB.out|apply bA7_|apply bN7_|apply bD7_)|exact HB.out)⟩

def laws_heldFlash.f (k:Nat) (a0_0:Int) (a0_1:Int) (a0_2:Int) (l0_3:List (S120)) (a0_4:Int) (a0_5:Int) (a0_6:Bool) (a0_7:Int) (a1:Int):Option (Int):=(laws_heldBlockS.f k l0_3 a1).bind fun t287=>(if t287 < 0 then (some (-1)) else (some t287))
set_option maxHeartbeats 8000000 in
set_option maxRecDepth 100000 in
theorem laws_heldFlash.calls (k:Nat) (a0_0:Int) (a0_1:Int) (a0_2:Int) (A0_3:Option Addr) (c0_3:Nat) (l0_3:List (S120)) (a0_4:Int) (a0_5:Int) (a0_6:Bool) (a0_7:Int) (a1:Int) (r:Int) (w:World) (hr0_3:Kd.C k120 w A0_3 l0_3.length l0_3) (hc0_3:l0_3.length≤c0_3) (h:laws_heldFlash.f k a0_0 a0_1 a0_2 l0_3 a0_4 a0_5 a0_6 a0_7 a1=some r) :
    Calls Try.prog 101 #[.agg #[.int .i64 a0_0,.int .i64 a0_1,.int .i64 a0_2,.slice A0_3 l0_3.length c0_3,.int .i64 a0_4,.int .i64 a0_5,.bool a0_6,.int .i64 a0_7],.int .i64 a1] w fun e w'=>e=.returned (.int .i64 r)∧Below w.heap.size w w':=by
  have hu40 := Try.underlying40
  have HR0_3 := Aside0.mk hr0_3
  have HC0_3 := Aside0.mk hc0_3
  clear hr0_3 hc0_3
  have HB := Aside0.mk (Below.refl w.heap.size w)
  have H:((laws_heldBlockS.f k l0_3 a1).bind fun t287=>(if t287 < 0 then (some (-1)) else (some t287)))=some r:=h
  clear h
  replace H := Option.bind_eq_some_iff.mp H
  obtain ⟨t287, A30, H⟩ := H
  replace H : (if t287 < 0 then (some (-1)) else (some t287)) = some r := H
  have A3 := Aside0.mk A30
  clear A30
  by_cases c4 : t287 < 0
  · rw [if_pos c4] at H
    have c4b0 : decide (t287 < 0) = true := decide_eq_true c4
    clear c4
    obtain rfl := Option.some.inj H
    go_enter Try.func101, Try.ntmps101
    go_wp2_with (first|((with_reducible refine gate_dst (N:=2) rfl ?_);refine box_event ?hg (N:=2) ?hd (cs:=#[.int .i64 a0_0,.int .i64 a0_1,.int .i64 a0_2,.slice A0_3 l0_3.length c0_3,.int .i64 a0_4,.int .i64 a0_5,.bool a0_6,.int .i64 a0_7]) (t:=40) ?hr ?_;(case hd=>rfl);(case hg=>rfl);(case hr=>first|(go_simp;done)|(go_simp;rfl));intro gb286 hg w5 hbox hb;have n0_:=mk7_ (bT7_ (by repeat (first|(with_reducible first|exact HB.out|apply bA7_|apply bN7_|apply bD7_)|exact HB.out)) hb);have n1_:=mk7_ (hbox);have n2_:=mk7_ ((by rw [hg];exact (bZ7_ (by repeat (first|(with_reducible first|exact HB.out|apply bA7_|apply bN7_|apply bD7_)|exact HB.out))):w.heap.size≤gb286));have n3_:=mk7_ ((by rw [hg];exact (bZ7_ (by repeat (first|(with_reducible first|exact HB.out|apply bA7_|apply bN7_|apply bD7_)|exact HB.out))):w.heap.size≤gb286));clear HB;have HB:=n0_;have BK286:=n1_;have GW286:=n2_;have GE286:=n3_;clear n0_ n1_ n2_ n3_;clear hb hbox hg;have hcz6_0:w5.cell? ⟨gb286,0,none⟩=some (.int .i64 a0_0):=(blk_cell BK286.out 0).trans rfl;have hcz6_1:w5.cell? ⟨gb286,1,none⟩=some (.int .i64 a0_1):=(blk_cell BK286.out 1).trans rfl;have hcz6_2:w5.cell? ⟨gb286,2,none⟩=some (.int .i64 a0_2):=(blk_cell BK286.out 2).trans rfl;have hcz6_3:w5.cell? ⟨gb286,3,none⟩=some (.slice A0_3 l0_3.length c0_3):=(blk_cell BK286.out 3).trans rfl;have hcz6_4:w5.cell? ⟨gb286,4,none⟩=some (.int .i64 a0_4):=(blk_cell BK286.out 4).trans rfl;have hcz6_5:w5.cell? ⟨gb286,5,none⟩=some (.int .i64 a0_5):=(blk_cell BK286.out 5).trans rfl;have hcz6_6:w5.cell? ⟨gb286,6,none⟩=some (.bool a0_6):=(blk_cell BK286.out 6).trans rfl;have hcz6_7:w5.cell? ⟨gb286,7,none⟩=some (.int .i64 a0_7):=(blk_cell BK286.out 7).trans rfl;have hfz6_0:=fZ7_ BK286.out 0;have hfz6_1:=fZ7_ BK286.out 1;have hfz6_2:=fZ7_ BK286.out 2;have hfz6_3:=fZ7_ BK286.out 3;have hfz6_4:=fZ7_ BK286.out 4;have hfz6_5:=fZ7_ BK286.out 5;have hfz6_6:=fZ7_ BK286.out 6;have hfz6_7:=fZ7_ BK286.out 7)|((with_reducible refine gate_callee (f:=163) rfl ?_);refine goesL_ (some 8) rfl rfl Try.func163 (by kernel_rfl) rfl #[.slice A0_3 l0_3.length c0_3,.int .i64 a1] rfl (by (try simp only [List.map_toArray,List.map_cons,List.map_nil]);first|done|rfl|(simp only [List.length_drop,List.length_take];rfl)) ?_;(with_reducible refine (laws_heldBlockS.calls k _ _ l0_3 a1 t287 _ ?side1 ?side2 A3.out).mono ?_);(case side1=>repeat (first|exact (Kd.C_below HR0_3.out HB.out)|(with_reducible refine Kd.C_alloc ?_ _)|(with_reducible refine Kd.C_drewN ?_ _)|(with_reducible refine Kd.C_drew ?_)));(case side2=>exact HC0_3.out);rintro e w7 ⟨rfl,hb⟩;refine ⟨_,rfl,?_⟩;have n0_:=mk7_ (blk_below (g:=gb286) (o:=.cells #[.int .i64 a0_0,.int .i64 a0_1,.int .i64 a0_2,.slice A0_3 l0_3.length c0_3,.int .i64 a0_4,.int .i64 a0_5,.bool a0_6,.int .i64 a0_7] 40 (0,0)) (by (with_reducible repeat (first|refine kN7_ ?_ _|refine kD7_ ?_|refine kA7_ ?_ _));exact BK286.out) hb);have n1_:=mk7_ (bT7_ (by repeat (first|(with_reducible first|exact HB.out|apply bA7_|apply bN7_|apply bD7_|refine bS7_ ?_ GE286.out)|exact HB.out)) hb);clear BK286;clear HB;have BK286:=n0_;have HB:=n1_;clear n0_ n1_;(try clear hb);(try clear hb2);(try clear hk);(try clear hi)))
    go_ret
    exact ⟨by first|rfl|(simp [errW_none,errW_some] <;> rfl)|(simp [*,errW_none,errW_some] <;> rfl),by repeat (first|(with_reducible first|exact HB.out|apply bA7_|apply bN7_|apply bD7_|refine bS7_ ?_ GE286.out)|exact HB.out)⟩
  · rw [if_neg c4] at H
    have c4b0 : decide (t287 < 0) = false := decide_eq_false c4
    clear c4
    obtain rfl := Option.some.inj H
    go_enter Try.func101, Try.ntmps101
    go_wp2_with (first|((with_reducible refine gate_dst (N:=2) rfl ?_);refine box_event ?hg (N:=2) ?hd (cs:=#[.int .i64 a0_0,.int .i64 a0_1,.int .i64 a0_2,.slice A0_3 l0_3.length c0_3,.int .i64 a0_4,.int .i64 a0_5,.bool a0_6,.int .i64 a0_7]) (t:=40) ?hr ?_;(case hd=>rfl);(case hg=>rfl);(case hr=>first|(go_simp;done)|(go_simp;rfl));intro gb286 hg w8 hbox hb;have n0_:=mk7_ (bT7_ (by repeat (first|(with_reducible first|exact HB.out|apply bA7_|apply bN7_|apply bD7_)|exact HB.out)) hb);have n1_:=mk7_ (hbox);have n2_:=mk7_ ((by rw [hg];exact (bZ7_ (by repeat (first|(with_reducible first|exact HB.out|apply bA7_|apply bN7_|apply bD7_)|exact HB.out))):w.heap.size≤gb286));have n3_:=mk7_ ((by rw [hg];exact (bZ7_ (by repeat (first|(with_reducible first|exact HB.out|apply bA7_|apply bN7_|apply bD7_)|exact HB.out))):w.heap.size≤gb286));clear HB;have HB:=n0_;have BK286:=n1_;have GW286:=n2_;have GE286:=n3_;clear n0_ n1_ n2_ n3_;clear hb hbox hg;have hcz9_0:w8.cell? ⟨gb286,0,none⟩=some (.int .i64 a0_0):=(blk_cell BK286.out 0).trans rfl;have hcz9_1:w8.cell? ⟨gb286,1,none⟩=some (.int .i64 a0_1):=(blk_cell BK286.out 1).trans rfl;have hcz9_2:w8.cell? ⟨gb286,2,none⟩=some (.int .i64 a0_2):=(blk_cell BK286.out 2).trans rfl;have hcz9_3:w8.cell? ⟨gb286,3,none⟩=some (.slice A0_3 l0_3.length c0_3):=(blk_cell BK286.out 3).trans rfl;have hcz9_4:w8.cell? ⟨gb286,4,none⟩=some (.int .i64 a0_4):=(blk_cell BK286.out 4).trans rfl;have hcz9_5:w8.cell? ⟨gb286,5,none⟩=some (.int .i64 a0_5):=(blk_cell BK286.out 5).trans rfl;have hcz9_6:w8.cell? ⟨gb286,6,none⟩=some (.bool a0_6):=(blk_cell BK286.out 6).trans rfl;have hcz9_7:w8.cell? ⟨gb286,7,none⟩=some (.int .i64 a0_7):=(blk_cell BK286.out 7).trans rfl;have hfz9_0:=fZ7_ BK286.out 0;have hfz9_1:=fZ7_ BK286.out 1;have hfz9_2:=fZ7_ BK286.out 2;have hfz9_3:=fZ7_ BK286.out 3;have hfz9_4:=fZ7_ BK286.out 4;have hfz9_5:=fZ7_ BK286.out 5;have hfz9_6:=fZ7_ BK286.out 6;have hfz9_7:=fZ7_ BK286.out 7)|((with_reducible refine gate_callee (f:=163) rfl ?_);refine goesL_ (some 8) rfl rfl Try.func163 (by kernel_rfl) rfl #[.slice A0_3 l0_3.length c0_3,.int .i64 a1] rfl (by (try simp only [List.map_toArray,List.map_cons,List.map_nil]);first|done|rfl|(simp only [List.length_drop,List.length_take];rfl)) ?_;(with_reducible refine (laws_heldBlockS.calls k _ _ l0_3 a1 t287 _ ?side1 ?side2 A3.out).mono ?_);(case side1=>repeat (first|exact (Kd.C_below HR0_3.out HB.out)|(with_reducible refine Kd.C_alloc ?_ _)|(with_reducible refine Kd.C_drewN ?_ _)|(with_reducible refine Kd.C_drew ?_)));(case side2=>exact HC0_3.out);rintro e w10 ⟨rfl,hb⟩;refine ⟨_,rfl,?_⟩;have n0_:=mk7_ (blk_below (g:=gb286) (o:=.cells #[.int .i64 a0_0,.int .i64 a0_1,.int .i64 a0_2,.slice A0_3 l0_3.length c0_3,.int .i64 a0_4,.int .i64 a0_5,.bool a0_6,.int .i64 a0_7] 40 (0,0)) (by (with_reducible repeat (first|refine kN7_ ?_ _|refine kD7_ ?_|refine kA7_ ?_ _));exact BK286.out) hb);have n1_:=mk7_ (bT7_ (by repeat (first|(with_reducible first|exact HB.out|apply bA7_|apply bN7_|apply bD7_|refine bS7_ ?_ GE286.out)|exact HB.out)) hb);clear BK286;clear HB;have BK286:=n0_;have HB:=n1_;clear n0_ n1_;(try clear hb);(try clear hb2);(try clear hk);(try clear hi)))
    go_ret
    exact ⟨by first|rfl|(simp [errW_none,errW_some] <;> rfl)|(simp [*,errW_none,errW_some] <;> rfl),by repeat (first|(with_reducible first|exact HB.out|apply bA7_|apply bN7_|apply bD7_|refine bS7_ ?_ GE286.out)|exact HB.out)⟩

end Go.Proofs.Ytaecdlhomihejaa.Q
