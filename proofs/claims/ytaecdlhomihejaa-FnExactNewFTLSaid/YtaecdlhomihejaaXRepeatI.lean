/- The contract of slices.Repeat at a row of one number,up to sixty-four times. Conditions: those before each theorem. -/
import Derived.Test.YtaecdlhomihejaaQ0
import Derived.Test.YtaecdlhomihejaaNum
import Derived.Lib.SlBuf
import Derived.Lib.Bytealg
namespace Go.Proofs.Ytaecdlhomihejaa.Q
open Go.RowKit Go.Proofs.YtaecdlhomihejaaW.PrintWords Go.Proofs.YtaecdlhomihejaaW.PrintMore Go.Proofs.YtaecdlhomihejaaW.PrintLast
abbrev kNXRepeatI_ := @blk_drewN
abbrev kDXRepeatI_ := @blk_drew
abbrev kAXRepeatI_ := @blk_alloc
abbrev rAXRepeatI_ := @Kd.R_alloc
abbrev rDXRepeatI_ := @Kd.R_drew
abbrev bAXRepeatI_ := @below_alloc
abbrev bNXRepeatI_ := @pw_below_drewN
abbrev bDXRepeatI_ := @below_drew1
abbrev bSXRepeatI_ := @below_set
abbrev mkXRepeatI_ := @Aside0.mk
abbrev fZXRepeatI_ := @blk_frozen
abbrev sAXRepeatI_ := @Kd.S_alloc
abbrev sBXRepeatI_ := @Kd.S_below
abbrev bTXRepeatI_ := @below_step
abbrev bZXRepeatI_ := @below_size
set_option linter.unusedVariables false
set_option linter.unusedSimpArgs false
theorem mask_small':∀ n:Nat,n < 65→Go.bits .and .u64 (n:Int) 4294967295=(n:Int):=by decide
theorem mask_one' : Go.bits .and .u64 1 4294967295 = 1 := by decide
theorem mask_zero' : Go.bits .and .u64 0 4294967295 = 0 := by decide
theorem wrap_small' : ∀ n : Nat, n < 65 → IntKind.u64.wrap (n : Int) = (n : Int) := by decide
theorem mul64_calls' (n:Nat) (hn:n≤64) (W:World):Calls Try.prog 195 #[.int .u64 1,.int .u64 (n:Int)] W fun e w'=>e=.returned (.tuple #[.int .u64 0,.int .u64 (n:Int)])∧w'=W:=by
  have h1 := mask_one'
  have h2 := mask_small' n (by omega)
  have h3 := wrap_small' n (by omega)
  have h4 : (n : Int) / 4294967296 = 0 := by omega
  have h5 := mask_zero'
  go_enter Try.func195, Try.ntmps195
  go_wp2
  go_ret2
  exact ⟨rfl, rfl⟩
theorem mul_calls' (n:Nat) (hn:n≤64) (W:World):Calls Try.prog 193 #[.int .u64 1,.int .u64 (n:Int)] W fun e w'=>e=.returned (.tuple #[.int .u64 0,.int .u64 (n:Int)])∧w'=W:=by
  have hc := mul64_calls' n hn W
  go_enter Try.func193, Try.ntmps193
  go_wp2_with (go_at_call 195; refine hc.mono ?_; rintro e w' ⟨rfl, rfl⟩)
  go_ret2
  exact ⟨rfl, rfl⟩
theorem R_puts {base g cap:Nat} {ok:Nat→Prop}:∀ (ys:List Int) (o:Nat) (W:World) (xs:List Int),Kd.R (Kd.int .i64) 2 W base ok (.slice (some ⟨g,0,none⟩) xs.length cap) xs→o+ys.length≤xs.length →
    Kd.R (Kd.int .i64) 2 (W.setCells g o (ys.map fun y=>.int .i64 y)) base ok (.slice (some ⟨g,0,none⟩) xs.length cap) (xs.take o ++ ys ++ xs.drop (o+ys.length))
  | [], o, W, xs, h, hl => by
    simp only [List.map_nil, List.append_nil, List.length_nil, Nat.add_zero, List.take_append_drop]
    exact h
  | y :: ys, o, W, xs, h, hl => by
    rw [List.length_cons] at hl
    have h1 := Kd.R_putn h (o : Int) y
    rw [Int.toNat_natCast] at h1
    have hlen : (xs.set o y).length = xs.length := List.length_set
    have h2:=R_puts ys (o+1) (W.setCell ⟨g,o,none⟩ (.int .i64 y)) (xs.set o y) (by rw [hlen];exact h1) (by rw [hlen];omega)
    rw [hlen] at h2
    have e:(xs.set o y).take (o+1) ++ ys ++ (xs.set o y).drop (o+1+ys.length)=xs.take o ++ (y::ys) ++ xs.drop (o+(y::ys).length):=by
      rw [List.drop_set_of_lt (by omega),List.take_set,List.length_cons,show o+1+ys.length=o+(ys.length+1) from by omega]
      rw [show (xs.take (o + 1)).set o y = xs.take o ++ [y] from by
        rw [List.take_succ_eq_append_getElem (by omega),List.set_append_right _ _ (by rw [List.length_take];exact Nat.min_le_left _ _),List.length_take,Nat.min_eq_left (by omega),Nat.sub_self,List.set_cons_zero]]
      simp
    rw [e] at h2
    exact h2
def rp (x : Int) (n m : Nat) : List Int := List.replicate m x ++ List.replicate (n - m) 0
theorem rp_length (x : Int) (n m : Nat) (h : m ≤ n) : (rp x n m).length = n := by simp [rp]; omega
theorem rp_all (x : Int) (n : Nat) : rp x n n = List.replicate n x := by simp [rp]
theorem rp_put (x:Int) (n m t:Nat) (h:m+t≤n):(rp x n m).take m ++ List.replicate t x ++ (rp x n m).drop (m+t)=rp x n (m+t):=by
  unfold rp
  rw [List.take_append_of_le_length (by simp),List.take_of_length_le (by simp),List.drop_append,List.drop_of_length_le (by simp),List.nil_append,List.length_replicate,List.drop_replicate,← List.replicate_append_replicate,show n - m - (m+t - m)=n - (m+t) from by omega]
theorem info2r:(Try.prog.info? 2).map (fun i=>(i.zero,i.size,i.bytes))=some (some (.int .i64 0),1,8):=by kernel_rfl
theorem copy_step {base g cap n m t:Nat} {x:Int} {W:World} {w0:World} (hR:Kd.R (Kd.int .i64) 2 W base (fun _=>True) (.slice (some ⟨g,0,none⟩) n cap) (rp x n m)) (hm:m+t≤n) (hB:Below base w0 W) (hb:base≤g) (a:Addr) (sl sc dc:Nat) (ht:t=Nat.min sl (n - m)) (hs:∀ j,j < t→W.cell? (a.add j)=some (.int .i64 x)) :
    ∃ W',(Builtin.copy_ #[27,27] 3 #[.slice (some ⟨g,m,none⟩) (n - m) dc,.slice (some a) sl sc]).run Try.prog W=.ok (.int .i64 (t:Int)) W'∧Kd.R (Kd.int .i64) 2 W' base (fun _=>True) (.slice (some ⟨g,0,none⟩) n cap) (rp x n (m+t))∧Below base w0 W':=by
  have hl := rp_length x n m (by omega)
  have hR':Kd.R (Kd.int .i64) 2 W base (fun _=>True) (.slice (some ⟨g,0,none⟩) (rp x n m).length cap) (rp x n m):=by rw [hl];exact hR
  have hcell:∀ j,j < n→(W.cell? ⟨g,j,none⟩).isSome=true∧W.frozen? ⟨g,j,none⟩=false:=by
    intro j hj
    obtain ⟨h1, h2⟩ := Kd.R_celln (0 : Int) hR (j : Int) (by omega) (by omega)
    rw [Int.toNat_natCast] at h1 h2
    exact ⟨by rw [h1]; rfl, h2⟩
  have hrun:=run_copy_cells (P:=Try.prog) W 27 27 3 2 g m (n - m) dc a sl sc (List.replicate t (.int .i64 x)) Try.underlying27 (by
      have := congrArg (Option.map (fun q : Option Value × Nat × Nat => q.2.1)) info2r
      simpa [Option.map_map,Function.comp_def] using this) (by rw [List.length_replicate];exact ht)
    (fun j v hj => by
      rw [List.getElem?_replicate] at hj
      split at hj
      · cases hj; exact hs j ‹_›
      · cases hj)
    (fun j hj => by rw [List.length_replicate] at hj; exact (hcell (m + j) (by omega)).1)
    (fun j hj => by rw [List.length_replicate] at hj; exact (hcell (m + j) (by omega)).2)
    (fun v hv => by rw [List.eq_of_mem_replicate hv]; rfl)
  have hp:=R_puts (List.replicate t x) m W (rp x n m) hR' (by rw [List.length_replicate,hl];exact hm)
  rw [List.length_replicate, rp_put x n m t hm, hl, List.map_replicate] at hp
  refine ⟨_, ?_, hp, Lib.below_setCells g hb _ _ hB⟩
  rw [hrun, List.length_replicate]
  rfl
def slices_Repeat_int64_int64.f (l0:List (Int)) (a1:Int):Option (List (Int)):=if l0.length=1∧1≤a1∧a1≤48 then some (List.replicate a1.toNat (rd l0 0)) else none
set_option maxHeartbeats 8000000 in
set_option maxRecDepth 100000 in
theorem slices_Repeat_int64_int64.calls (A0:Option Addr) (c0:Nat) (l0:List (Int)) (a1:Int) (r:List (Int)) (w:World) (hr0:Kd.C (Kd.int .i64) w A0 l0.length l0) (hc0:l0.length≤c0) (h:slices_Repeat_int64_int64.f l0 a1=some r) :
    Calls Try.prog 190 #[.slice A0 l0.length c0,.int .i64 a1] w fun e w'=>∃ v0_:Value,e=.returned (v0_)∧Kd.R (Kd.int .i64) 2 w' w.heap.size (fun _=>True) v0_ r∧Below w.heap.size w w':=by
  unfold slices_Repeat_int64_int64.f at h
  by_cases c : l0.length = 1 ∧ 1 ≤ a1 ∧ a1 ≤ 48
  · rw [if_pos c] at h
    obtain rfl := Option.some.inj h
    obtain ⟨c1, c2, c3⟩ := c
    obtain ⟨x, rfl⟩ := List.length_eq_one_iff.1 c1
    obtain ⟨n, rfl⟩ := Int.eq_ofNat_of_zero_le (show 0 ≤ a1 by omega)
    rw [show rd [x] 0 = x from rfl, Int.toNat_natCast]
    have hn0 : 1 ≤ n := by omega
    have hn1 : n ≤ 48 := by omega
    obtain ⟨ad, hA, hcx⟩ := hr0.2.2 (show 0 < ([x] : List Int).length from Nat.zero_lt_one)
    subst hA
    have hx0 : w.cell? (ad.add 0) = some (.int .i64 x) := by
      obtain ⟨c, hcl, hK, hcc⟩ := hcx 0 x rfl
      have e : c = [.int .i64 x] := hK
      subst e
      exact hcc 0 _ rfl
    clear hr0 hc0 hcx c1 c2 c3 h
    have HX := Aside0.mk hx0
    have N0 := Aside0.mk hn0
    have N1 := Aside0.mk hn1
    have e2 : decide ((n : Int) < 0) = false := decide_eq_false (by omega)
    have e3 := wrap_small' n (by omega)
    have e4 : decide ((n : Int) > 9223372036854775807) = false := decide_eq_false (by omega)
    have e5 : wrap64 (n : Int) = (n : Int) := wrap64_id (by omega) (by omega)
    have e6 : IntKind.i64.wrap (n : Int) = (n : Int) := wraps_i64 _ (by omega) (by omega)
    have HM := Aside0.mk (mul_calls' n (by omega))
    have HB := Aside0.mk (Below.refl w.heap.size w)
    clear hx0 hn0 hn1
    have lone : ([x] : List Int).length = 1 := rfl
    rw [lone]
    clear lone
    go_enter Try.func190, Try.ntmps190
    go_wp2_with (first
      | (go_at_call 193; refine (HM.out _).mono ?_; rintro e w1 ⟨rfl, hw⟩; subst w1)
      | ((with_reducible refine gate_dst (N:=30) rfl ?_);refine Kd.R_make (Kd.int .i64) _ 2 rfl (N:=30) rfl 27 _ _ rfl (n:Int) rfl rfl Try.underlying27 (.int .i64 0) 8 info2r rfl (by decide) (by omega) 0 (ok:=fun _=>True) (okp:=fun _=>True) rfl (fun _ hk=>hk) trivial (by omega) (by have:=N1.out;omega) (Below.refl _ _) (Nat.le_refl _) ?_;intro v1 w4 ho5 hb hg_ hnew_;clear hg_ hnew_;rw [Int.toNat_natCast] at ho5;have hrp:Kd.R (Kd.int .i64) 2 w4 w.heap.size (fun _=>True) v1 (rp x n 0):=(by simpa [rp] using ho5);clear ho5;obtain ⟨g,cap,e1,gb,gl,cl,HG⟩:=Kd.R_form hrp (by rw [rp_length x n 0 (by omega)];exact N0.out);rw [rp_length x n 0 (by omega)] at e1;subst e1;have HX4:=mkXRepeatI_ ((hb.cell (World.block_lt_of_cell? _ _ HX.out)).trans HX.out);obtain ⟨w5,hrun,hR5,hB5⟩:=copy_step (t:=1) hrp (by have:=N0.out;omega) hb gb ad 1 c0 cap (Nat.min_eq_left (by have:=N0.out;omega)).symm (fun j hj=>by obtain rfl:j=0:=(by omega);exact HX4.out);simp only [Nat.sub_zero] at hrun;have HRUN:Sem.run Try.prog (Builtin.copy_ #[27,27] 3 #[.slice (some ⟨g,0,none⟩) n cap,.slice (some ad) 1 c0]) w4=.ok (.int .i64 1) w5:=hrun;have HR5:=mkXRepeatI_ hR5;have HB5:=mkXRepeatI_ hB5;have HGB:=mkXRepeatI_ gb;clear hrun hR5 hB5 hrp gb gl HG hb HX4;(try simp only [Act.put,List.setIfInBounds_toArray,List.set_cons_zero,List.set_cons_succ])))
    clear HRUN
    go_loopg [8] n (fun gg s8 wr=>∃ m:Nat,1≤m∧m≤n∧n - m≤gg∧s8=.int .i64 m∧Aside0 (Kd.R (Kd.int .i64) 2 wr w.heap.size (fun _=>True) (.slice (some ⟨g,0,none⟩) n cap) (rp x n m))∧Aside0 (Below w.heap.size w wr))
    case atStart=>exact ⟨1,Nat.le_refl _,N0.out,by omega,rfl,⟨by simpa using HR5.out⟩,⟨HB5.out⟩⟩
    case round =>
      obtain ⟨m, hm0, hm1, hg, rfl, HR, HBr⟩ := hrel
      by_cases hlt : m < n
      · have hlti : decide ((m : Int) < (n : Int)) = true := decide_eq_true (by omega)
        obtain ⟨t, ht⟩ : ∃ t, t = Nat.min m (n - m) := ⟨_, rfl⟩
        have ht1:m+t≤n:=by have h9:Nat.min m (n - m)≤n - m:=Nat.min_le_right _ _;rw [← ht] at h9;omega
        have ht0 : 1 ≤ t := by rw [ht]; exact Nat.le_min.2 ⟨hm0, by omega⟩
        have htm : t ≤ m := by rw [ht]; exact Nat.min_le_left _ _
        obtain ⟨w5,hrun,hR5,hB5⟩:=copy_step (W:=wr.drew) (t:=t) (rDXRepeatI_ HR.out) ht1 (bDXRepeatI_ HBr.out) HGB.out ⟨g,0,none⟩ m cap (cap - m) ht (fun j hj=>by
          obtain ⟨h1, _⟩ := Kd.R_celln (0 : Int) (Kd.R_drew HR.out) (j : Int) (by omega) (by omega)
          rw [Int.toNat_natCast] at h1
          rw [show (⟨g, 0, none⟩ : Addr).add j = ⟨g, j, none⟩ from by rw [add_at, Nat.zero_add]]
          rw [h1]
          rw [rdOf_get _ _ _ (by rw [rp_length _ _ _ hm1]; omega)]
          simp [rp, List.getElem_append, show j < m from by omega])
        have HRUN2 := Aside0.mk hrun
        have HR6 := Aside0.mk hR5
        have HB6 := Aside0.mk hB5
        clear hrun hR5 hB5 ht
        have hnc := (Kd.R_reads' HR.out).2.1
        have hmc : m ≤ cap := by omega
        have hmn : m ≤ n := hm1
        have hcm : ¬ cap = m := by omega
        go_wp2_with fail
        refine start_ (n:=10) (S:=fun w'=>True) (ds:=[7]) #[false,false,false,false,false,false,false,false,false,false] (by kernel_rfl) rfl rfl trivial (fun hHeld=>?_)
        refine pure_ (i:=0) (N:=some 38) (v:=?_) (a':=?_) #[true,false,false,false,false,false,false,false,false,false] rfl rfl (by kernel_rfl) (fun _ _ _ h=>h) (Or.inl ⟨by rfl,?_⟩) ?_ ?_
        rotate_left
        · intro w'
          go_simp
          with_reducible rfl
        rotate_left
        · simp only [Act.put,List.setIfInBounds_toArray,List.set_cons_zero,List.set_cons_succ,i64_w,i32_w]
          rfl
        refine pure_ (i:=1) (N:=some 39) (v:=?_) (a':=?_) #[true,true,false,false,false,false,false,false,false,false] rfl rfl (by kernel_rfl) (fun _ _ _ h=>h) (Or.inl ⟨by rfl,?_⟩) ?_ ?_
        rotate_left
        · intro w'
          go_simp
          with_reducible rfl
        rotate_left
        · simp only [Act.put,List.setIfInBounds_toArray,List.set_cons_zero,List.set_cons_succ,i64_w,i32_w]
          rfl
        refine pure_ (i:=2) (N:=some 40) (v:=?_) (a':=?_) #[true,true,true,false,false,false,false,false,false,false] rfl rfl (by kernel_rfl) (fun _ _ _ h=>h) (Or.inl ⟨by rfl,?_⟩) ?_ ?_
        rotate_left
        · intro w'
          go_simp
          with_reducible rfl
        rotate_left
        · simp only [Act.put,List.setIfInBounds_toArray,List.set_cons_zero,List.set_cons_succ,i64_w,i32_w]
          rfl
        refine pure_ (i:=3) (N:=some 41) (v:=?_) (a':=?_) #[true,true,true,true,false,false,false,false,false,false] rfl rfl (by kernel_rfl) (fun _ _ _ h=>h) (Or.inl ⟨by rfl,?_⟩) ?_ ?_
        rotate_left
        · intro w'
          go_simp
          with_reducible rfl
        rotate_left
        · simp only [Act.put,List.setIfInBounds_toArray,List.set_cons_zero,List.set_cons_succ,i64_w,i32_w]
          rfl
        refine pure_ (i:=4) (N:=some 42) (v:=?_) (a':=?_) #[true,true,true,true,true,false,false,false,false,false] rfl rfl (by kernel_rfl) (fun _ _ _ h=>h) (Or.inl ⟨by rfl,?_⟩) ?_ ?_
        rotate_left
        · intro w'
          go_simp
          with_reducible rfl
        rotate_left
        · simp only [Act.put,List.setIfInBounds_toArray,List.set_cons_zero,List.set_cons_succ,i64_w,i32_w]
          rfl
        refine pure_ (i:=5) (N:=some 43) (v:=?_) (a':=?_) #[true,true,true,true,true,true,false,false,false,false] rfl rfl (by kernel_rfl) (fun _ _ _ h=>h) (Or.inl ⟨by rfl,?_⟩) ?_ ?_
        rotate_left
        · intro w'
          go_simp
          with_reducible rfl
        rotate_left
        · simp only [Act.put,List.setIfInBounds_toArray,List.set_cons_zero,List.set_cons_succ,i64_w,i32_w]
          rfl
        refine pure_ (i:=6) (N:=some 44) (v:=?_) (a':=?_) #[true,true,true,true,true,true,true,false,false,false] rfl rfl (by kernel_rfl) (fun _ _ _ h=>h) (Or.inl ⟨by rfl,?_⟩) ?_ ?_
        rotate_left
        · intro w'
          go_simp
          with_reducible rfl
        rotate_left
        · simp only [Act.put,List.setIfInBounds_toArray,List.set_cons_zero,List.set_cons_succ,i64_w,i32_w]
          rfl
        refine last_ (i:=7) (N:=some 45) #[true,true,true,true,true,true,true,true,false,false] rfl rfl (by kernel_rfl) (by decide) (fun K hK=>?_)
        rw [if_pos (by rfl)]
        refine Lib.wp_copy_run _ (.tmp 41) (.tmp 44) 27 27 rfl _ _ rfl rfl HRUN2.out ?_
        refine hK.out _ _ ?_
        clear hK K
        refine norm_ (a' := ?_) ?_ ?_
        rotate_left
        · show Act.put _ (some 45) _ = _
          simp only [Act.put,List.setIfInBounds_toArray,List.set_cons_zero,List.set_cons_succ,i64_w,i32_w]
          rfl
        refine pure_ (i:=8) (N:=some 46) (v:=?_) (a':=?_) #[true,true,true,true,true,true,true,true,true,false] rfl rfl (by kernel_rfl) (fun _ _ _ h=>h) (Or.inl ⟨by rfl,?_⟩) ?_ ?_
        rotate_left
        · intro w'
          go_simp
          with_reducible rfl
        rotate_left
        · simp only [Act.put,List.setIfInBounds_toArray,List.set_cons_zero,List.set_cons_succ,i64_w,i32_w]
          rfl
        refine pure_ (i:=9) (N:=some 8) (v:=?_) (a':=?_) #[true,true,true,true,true,true,true,true,true,true] rfl rfl (by kernel_rfl) (fun _ _ _ h=>h) (Or.inl ⟨by rfl,?_⟩) ?_ ?_
        rotate_left
        · intro w'
          go_simp
          with_reducible rfl
        rotate_left
        · simp only [Act.put,List.setIfInBounds_toArray,List.set_cons_zero,List.set_cons_succ,i64_w,i32_w]
          rfl
        refine done_ (by kernel_rfl) ?_
        go_wp2
        go_roundg (n - (m + t))
        case measure => omega
        case rel =>
          have h48 := N1.out
          refine ⟨m + t, Nat.le_trans hm0 (Nat.le_add_right _ _), ht1, Nat.le_refl _, ?_, HR6, HB6⟩
          rw [show wrap64 ((m:Int)+(t:Int))=((m+t:Nat):Int) from by rw [wrap64_id (by omega) (by omega)];rfl]
      · have hlti : decide ((m : Int) < (n : Int)) = false := decide_eq_false (by omega)
        obtain rfl : m = n := by omega
        go_wp2
        go_ret
        exact ⟨_, rfl, by have := HR.out; rwa [rp_all] at this, HBr.out⟩
  · rw [if_neg c] at h
    cases h
end Go.Proofs.Ytaecdlhomihejaa.Q
