/- The contracts of the specification's l13Decay and DecayHeat. Conditions: those before each theorem. -/
import Derived.Test.YtobidghdmcobmaaQ2
import Derived.Test.YtobidghdmcobmaaNum
namespace Go.Proofs.Ytobidghdmcobmaa.Q
open Go.RowKit Go.Proofs.YtobidghdmcobmaaW.PrintWords Go.Proofs.YtobidghdmcobmaaW.PrintMore Go.Proofs.YtobidghdmcobmaaW.PrintLast
set_option linter.unusedVariables false
def half (x : Int) : Int := wrap64 (Int.tdiv x 2)
theorem take_half (l : List Int) (i : Nat) (h : i < l.length) : (l.take (i + 1)).map half = (l.take i).map half ++ [half (rd l (i : Int))] := by
  rw [List.take_succ_eq_append_getElem h, List.map_append]
  simp [rd, h]
set_option linter.unusedSimpArgs false in
set_option maxHeartbeats 4000000 in
set_option maxRecDepth 100000 in
theorem l13Decay_calls (g : Nat) (A : Option Addr) (c : Nat) (xs : List Int) (w : World) (hcell : w.cell? ⟨g, 0, none⟩ = some (.slice A xs.length c)) (hC : Kd.C (Kd.int .i64) w A xs.length xs) (hl : xs.length ≤ 1000000) :
    Calls Try.prog 51 #[.pointer (some ⟨g, 0, none⟩)] w fun e w' => ∃ v0_ : Value, e = .returned (.agg #[v0_, .int .i64 0]) ∧ Kd.R (Kd.int .i64) 2 w' w.heap.size (fun _ => True) v0_ (xs.map half) ∧ Below w.heap.size w w' := by
  have hu := Try.underlying28
  have HC := Aside0.mk hC
  have HCL := Aside0.mk hcell
  have hgl := World.block_lt_of_cell? w _ hcell
  have HBA : Aside0 (Below w.heap.size w ((w.alloc (.cells #[.slice none 0 0, .int .i64 0] 28)).alloc (.cells #[.slice none 0 0, .int .i64 0] 28))) := ⟨((Below.refl _ _).alloc (Nat.le_refl _) _).alloc (by simp) _⟩
  have HK0 : Aside0 (((w.alloc (.cells #[.slice none 0 0, .int .i64 0] 28)).alloc (.cells #[.slice none 0 0, .int .i64 0] 28)).heap[w.heap.size]? = some (.cells #[.slice none 0 0, .int .i64 0] 28 (0, 0))) := ⟨blk_alloc (blk_new w _) _⟩
  have HK1 : Aside0 (((w.alloc (.cells #[.slice none 0 0, .int .i64 0] 28)).alloc (.cells #[.slice none 0 0, .int .i64 0] 28)).heap[w.heap.size + 1]? = some (.cells #[.slice none 0 0, .int .i64 0] 28 (0, 0))) := ⟨by have := blk_new (w.alloc (.cells #[.slice none 0 0, .int .i64 0] 28)) (.cells #[.slice none 0 0, .int .i64 0] 28); simpa using this⟩
  clear hC hcell
  go_enter Try.func51, Try.ntmps51
  go_wp2
  go_loopg [4] xs.length (fun gg s4 wr => ∃ (kk : Nat) (v : Value), s4 = .int .i64 (kk : Int) ∧ kk ≤ xs.length ∧ xs.length - kk ≤ gg ∧ Aside0 (Below w.heap.size w wr) ∧ Aside0 (wr.heap[w.heap.size]? = some (.cells #[.slice none 0 0, .int .i64 0] 28 (0, 0))) ∧ Aside0 (wr.heap[w.heap.size + 1]? = some (.cells #[v, .int .i64 0] 28 (0, 0))) ∧ Aside0 (Kd.R (Kd.int .i64) 2 wr w.heap.size (fun _ => True) v ((xs.take kk).map half)))
  case atStart => exact ⟨0, _, rfl, Nat.zero_le _, by omega, HBA, HK0, HK1, ⟨Kd.R_nil _ _ _ _ _⟩⟩
  case round =>
    obtain ⟨kk, v, rfl, hkk, hgg, HB, HB0, HB1, HO⟩ := hrel
    clear HBA HK0 HK1
    have hg0 : wr.cell? ⟨g, 0, none⟩ = some (.slice A xs.length c) := (HB.out.cell (p := ⟨g, 0, none⟩) hgl).trans HCL.out
    by_cases hlt : kk < xs.length
    · have hlti : (kk : Int) < (xs.length : Int) := by omega
      obtain ⟨ad, hA, hx0⟩ := Kd.at_int (Kd.C_below HC.out HB.out) (kk : Int) (by omega) (by omega)
      subst hA
      rw [Int.toNat_natCast] at hx0
      have HT := Aside0.mk (take_half xs kk hlt)
      have HLN : Aside0 (((xs.take kk).map half).length ≤ 1000000) := ⟨by simp; omega⟩
      generalize rd xs (kk : Int) = x at hx0 HT
      generalize (xs.take kk).map half = acc at HO HT HLN
      have h10 : wr.cell? ⟨w.heap.size + 1, 0, none⟩ = some v := (blk_cell HB1.out 0).trans rfl
      have HRD : Aside0 (Kd.R (Kd.int .i64) 2 wr.drew w.heap.size (fun _ => True) v acc) := HO
      have HBD : Aside0 (Below w.heap.size w wr.drew) := ⟨below_drew1 HB.out⟩
      have HSZ : Aside0 (w.heap.size ≤ wr.drew.heap.size) := ⟨HB.out.size⟩
      have HB0D : Aside0 (wr.drew.heap[w.heap.size]? = some (.cells #[.slice none 0 0, .int .i64 0] 28 (0, 0))) := HB0
      have HB1D : Aside0 (wr.drew.heap[w.heap.size + 1]? = some (.cells #[v, .int .i64 0] 28 (0, 0))) := HB1
      go_wp2_with fail
      refine start_ (n := 14) (S := fun w' => w'.cell? ⟨w.heap.size + 1, 0, none⟩ = some v ∧ w'.cell? ⟨g, 0, none⟩ = some (.slice (some ad) xs.length c) ∧ w'.cell? (ad.add kk) = some (.int .i64 x)) (ds := [11, 13]) #[false, false, false, false, false, false, false, false, false, false, false, false, false, false] (by kernel_rfl) rfl rfl ⟨h10, hg0, hx0⟩ (fun hHeld => ?_)
      refine pure_ (i := 0) (N := some 15) (v := ?_) (a' := ?_) #[true, false, false, false, false, false, false, false, false, false, false, false, false, false] rfl rfl (by kernel_rfl) (fun _ _ _ h => h) (Or.inl ⟨by rfl, ?_⟩) ?_ ?_
      rotate_left
      · intro w'
        go_simp
        with_reducible rfl
      rotate_left
      · simp only [Act.put, List.setIfInBounds_toArray, List.set_cons_zero, List.set_cons_succ, i64_w, i32_w]
        rfl
      refine pure_ (i := 2) (N := some 17) (v := ?_) (a' := ?_) #[true, false, true, false, false, false, false, false, false, false, false, false, false, false] rfl rfl (by kernel_rfl) (fun _ _ _ h => h) (Or.inl ⟨by rfl, ?_⟩) ?_ ?_
      rotate_left
      · intro w'
        go_simp
        with_reducible rfl
      rotate_left
      · simp only [Act.put, List.setIfInBounds_toArray, List.set_cons_zero, List.set_cons_succ, i64_w, i32_w]
        rfl
      refine pure_ (i := 3) (N := some 18) (v := ?_) (a' := ?_) #[true, false, true, true, false, false, false, false, false, false, false, false, false, false] rfl rfl (by kernel_rfl) (fun _ _ _ h => h) (Or.inl ⟨by rfl, ?_⟩) ?_ ?_
      rotate_left
      · intro w'
        go_simp
        with_reducible rfl
      rotate_left
      · simp only [Act.put, List.setIfInBounds_toArray, List.set_cons_zero, List.set_cons_succ, i64_w, i32_w]
        rfl
      refine pure_ (i := 4) (N := some 19) (v := ?_) (a' := ?_) #[true, false, true, true, true, false, false, false, false, false, false, false, false, false] rfl rfl (by kernel_rfl) (fun _ _ _ h => h) (Or.inl ⟨by rfl, ?_⟩) ?_ ?_
      rotate_left
      · intro w'
        go_simp
        with_reducible rfl
      rotate_left
      · simp only [Act.put, List.setIfInBounds_toArray, List.set_cons_zero, List.set_cons_succ, i64_w, i32_w]
        rfl
      refine pure_ (i := 6) (N := some 21) (v := ?_) (a' := ?_) #[true, false, true, true, true, false, true, false, false, false, false, false, false, false] rfl rfl (by kernel_rfl) (fun _ _ _ h => h) (Or.inl ⟨by rfl, ?_⟩) ?_ ?_
      rotate_left
      · intro w'
        go_simp
        with_reducible rfl
      rotate_left
      · simp only [Act.put, List.setIfInBounds_toArray, List.set_cons_zero, List.set_cons_succ, i64_w, i32_w]
        rfl
      refine take_ (i := 1) (N := some 16) (v := ?_) (a' := ?_) #[true, true, true, true, true, false, true, false, false, false, false, false, false, false] rfl rfl (by kernel_rfl) (fun _ _ _ h => h) (Or.inl ⟨by rfl, ?_⟩) hHeld ?_ ?_
      rotate_left
      · rintro w' ⟨s0, s1, s2⟩
        go_simp
        with_reducible rfl
      rotate_left
      · simp only [Act.put, List.setIfInBounds_toArray, List.set_cons_zero, List.set_cons_succ, i64_w, i32_w]
        rfl
      refine take_ (i := 5) (N := some 20) (v := ?_) (a' := ?_) #[true, true, true, true, true, true, true, false, false, false, false, false, false, false] rfl rfl (by kernel_rfl) (fun _ _ _ h => h) (Or.inl ⟨by rfl, ?_⟩) hHeld ?_ ?_
      rotate_left
      · rintro w' ⟨s0, s1, s2⟩
        go_simp
        with_reducible rfl
      rotate_left
      · simp only [Act.put, List.setIfInBounds_toArray, List.set_cons_zero, List.set_cons_succ, i64_w, i32_w]
        rfl
      refine pure_ (i := 7) (N := some 22) (v := ?_) (a' := ?_) #[true, true, true, true, true, true, true, true, false, false, false, false, false, false] rfl rfl (by kernel_rfl) (fun _ _ _ h => h) (Or.inl ⟨by rfl, ?_⟩) ?_ ?_
      rotate_left
      · intro w'
        go_simp
        with_reducible rfl
      rotate_left
      · simp only [Act.put, List.setIfInBounds_toArray, List.set_cons_zero, List.set_cons_succ, i64_w, i32_w]
        rfl
      refine take_ (i := 8) (N := some 23) (v := ?_) (a' := ?_) #[true, true, true, true, true, true, true, true, true, false, false, false, false, false] rfl rfl (by kernel_rfl) (fun _ _ _ h => h) (Or.inl ⟨by rfl, ?_⟩) hHeld ?_ ?_
      rotate_left
      · rintro w' ⟨s0, s1, s2⟩
        go_simp
        with_reducible rfl
      rotate_left
      · simp only [Act.put, List.setIfInBounds_toArray, List.set_cons_zero, List.set_cons_succ, i64_w, i32_w]
        rfl
      refine pure_ (i := 9) (N := some 24) (v := ?_) (a' := ?_) #[true, true, true, true, true, true, true, true, true, true, false, false, false, false] rfl rfl (by kernel_rfl) (fun _ _ _ h => h) (Or.inl ⟨by rfl, ?_⟩) ?_ ?_
      rotate_left
      · intro w'
        go_simp
        with_reducible rfl
      rotate_left
      · simp only [Act.put, List.setIfInBounds_toArray, List.set_cons_zero, List.set_cons_succ, i64_w, i32_w]
        rfl
      refine one_ (i := 10) (N := some 25) #[true, true, true, true, true, true, true, true, true, true, true, false, false, false] rfl rfl (by kernel_rfl) (by decide) (fun K hK => ?_)
      refine value_ (w1 := ?_) (v := ?_) (by rfl) rfl ?_ ?_
      rotate_left 2
      · go_simp
        constructor
        · rfl
        · rfl
      refine hK.out _ _ ⟨(pw_cell_below (below_alloc (Below.refl _ _) _) hHeld.1), (pw_cell_below (below_alloc (Below.refl _ _) _) hHeld.2.1), (pw_cell_below (below_alloc (Below.refl _ _) _) hHeld.2.2)⟩ (fun hHeld => ?_)
      clear hK K
      refine norm_ (a' := ?_) ?_ ?_
      rotate_left
      · show Act.put _ (some 25) _ = _
        simp only [Act.put, List.setIfInBounds_toArray, List.set_cons_zero, List.set_cons_succ, i64_w, i32_w]
        rfl
      refine last_ (i := 11) (N := some 26) #[true, true, true, true, true, true, true, true, true, true, true, true, false, false] rfl rfl (by kernel_rfl) (by decide) (fun K hK => ?_)
      refine Kd.R_append_step (Kd.int .i64) (w0 := w) w.heap.size (by rfl) (.tmp 16) (.tmp 25) 23 2 (.int .i64 0) 8 rfl Try.underlying23 info2 rfl (by decide) (by omega) v acc (half x) [.int .i64 (half x)] (fun _ => True) (fun _ => False) rfl rfl rfl (fun _ hk => hk.elim) (fun _ _ => trivial) HRD.out HBD.out HSZ.out (by have := HLN.out; omega) ?_
      intro v9 w9 hR9 hB9 hg9 hat9
      have hbk1 := blk_grown (g := w.heap.size + 1) (o := .cells #[v, .int .i64 0] 28 (0, 0)) HB1D.out hg9 (Kd.R_ne HRD.out HB1D.out (by decide))
      have hbk0 := blk_grown (g := w.heap.size) (o := .cells #[.slice none 0 0, .int .i64 0] 28 (0, 0)) HB0D.out hg9 (Kd.R_ne HRD.out HB0D.out (by decide))
      have hc9 : w9.cell? ⟨w.heap.size + 1, 0, none⟩ = some v := (blk_cell hbk1 0).trans rfl
      have hf9 := blk_frozen hbk1 0
      obtain ⟨Ao9, co9, eo9⟩ := Kd.R_slice hR9
      subst eo9
      refine hK.out _ _ ?_
      clear hK K
      refine norm_ (a' := ?_) ?_ ?_
      rotate_left
      · show Act.put _ (some 26) _ = _
        simp only [Act.put, List.setIfInBounds_toArray, List.set_cons_zero, List.set_cons_succ, i64_w, i32_w]
        rfl
      refine pure_ (i := 12) (N := some 27) (v := ?_) (a' := ?_) #[true, true, true, true, true, true, true, true, true, true, true, true, true, false] rfl rfl (by kernel_rfl) (fun _ _ _ h => h) (Or.inl ⟨by rfl, ?_⟩) ?_ ?_
      rotate_left
      · intro w'
        go_simp
        with_reducible rfl
      rotate_left
      · simp only [Act.put, List.setIfInBounds_toArray, List.set_cons_zero, List.set_cons_succ, i64_w, i32_w]
        rfl
      refine last_ (i := 13) (N := none) #[true, true, true, true, true, true, true, true, true, true, true, true, true, true] rfl rfl (by kernel_rfl) (by decide) (fun K hK => ?_)
      refine skip_ (w1 := ?_) (by rfl) rfl ?_ ?_
      rotate_left
      · go_simp
        rfl
      refine hK.out _ _ ?_
      clear hK K
      refine done_ (by kernel_rfl) ?_
      have e9 : (acc ++ [half x]).length = acc.length + 1 := by simp
      rw [e9] at hR9 hat9
      have HN0 : Aside0 ((w9.setCell ⟨w.heap.size + 1, 0, none⟩ (.slice Ao9 (acc.length + 1) co9)).heap[w.heap.size]? = some (.cells #[.slice none 0 0, .int .i64 0] 28 (0, 0))) := ⟨blk_far hbk0 (by show w.heap.size ≠ w.heap.size + 1; omega) _⟩
      have HN1 : Aside0 ((w9.setCell ⟨w.heap.size + 1, 0, none⟩ (.slice Ao9 (acc.length + 1) co9)).heap[w.heap.size + 1]? = some (.cells #[.slice Ao9 (acc.length + 1) co9, .int .i64 0] 28 (0, 0))) := ⟨blk_put (cs := #[v, .int .i64 0]) hbk1 0 _ rfl⟩
      have HN2 : Aside0 (Kd.R (Kd.int .i64) 2 (w9.setCell ⟨w.heap.size + 1, 0, none⟩ (.slice Ao9 (acc.length + 1) co9)) w.heap.size (fun _ => True) (.slice Ao9 (acc.length + 1) co9) ((xs.take (kk + 1)).map half)) := ⟨by rw [HT.out]; exact Kd.R_mono (Kd.R_far (p := ⟨w.heap.size + 1, 0, none⟩) (Kd.R_types hR9 hbk1 (by decide)) (fun _ hk => hk.2) _) (fun _ _ => trivial)⟩
      have HN3 : Aside0 (Below w.heap.size w (w9.setCell ⟨w.heap.size + 1, 0, none⟩ (.slice Ao9 (acc.length + 1) co9))) := ⟨below_set hB9 (Nat.le_succ _)⟩
      clear hR9 hB9 hg9 hat9 hbk1 hbk0 hc9 hf9 hHeld e9 h10 hg0 hx0
      generalize w9.setCell ⟨w.heap.size + 1, 0, none⟩ (.slice Ao9 (acc.length + 1) co9) = wz at HN0 HN1 HN2 HN3 ⊢
      go_wp2
      go_roundg (xs.length - (kk + 1))
      case measure => omega
      case rel => exact ⟨kk + 1, _, by go_num, by omega, Nat.le_refl _, HN3, HN0, HN1, HN2⟩
    · have hlti : ¬ (kk : Int) < (xs.length : Int) := by omega
      obtain rfl : kk = xs.length := by omega
      have h10 : wr.cell? ⟨w.heap.size + 1, 0, none⟩ = some v := (blk_cell HB1.out 0).trans rfl
      have h11 : wr.cell? ⟨w.heap.size + 1, 1, none⟩ = some (.int .i64 0) := (blk_cell HB1.out 1).trans rfl
      have h00 : wr.cell? ⟨w.heap.size, 0, none⟩ = some (.slice none 0 0) := (blk_cell HB0.out 0).trans rfl
      have h01 : wr.cell? ⟨w.heap.size, 1, none⟩ = some (.int .i64 0) := (blk_cell HB0.out 1).trans rfl
      have f00 := blk_frozen HB0.out 0
      have f01 := blk_frozen HB0.out 1
      obtain ⟨Ao, co, eo⟩ := Kd.R_slice HO.out
      rw [List.take_length] at HO eo
      rw [List.length_map] at eo
      subst eo
      go_wp2
      refine bodyPost_ret (results_cell_row rfl _ _ w.heap.size 28 #[.slice Ao xs.length co, .int .i64 0] (0, 0) _ rfl (by refine blk_put (cs := #[.slice Ao xs.length co, .int .i64 0]) ?_ 1 _ rfl; refine blk_put (cs := #[.slice none 0 0, .int .i64 0]) ?_ 0 _ rfl; exact HB0.out) Try.underlying28 rfl (by kernel_rfl)) rfl ?_
      exact ⟨_, rfl, Kd.R_mono (Kd.R_far (p := ⟨w.heap.size, 1, none⟩) (Kd.R_far (p := ⟨w.heap.size, 0, none⟩) (Kd.R_types HO.out HB0.out (by decide)) (fun _ hk => hk.2) _) (fun _ hk => hk.2) _) (fun _ _ => trivial), below_set (below_set HB.out (Nat.le_refl _)) (Nat.le_refl _)⟩
def spec_DecayHeat.f (k : Nat) (l0_0 : List Int) (a0_1 : Int) : Option (List Int × Int) := (spec_l13Ok.f k l0_0 a0_1).bind fun t => if t.1 = true then (if l0_0.length ≤ 1000000 then some (l0_0.map half, 0) else none) else some ([], 0)
theorem spec_DecayHeat.mono : ∀ a0 a1 k, LeO (spec_DecayHeat.f k a0 a1) (spec_DecayHeat.f (k + 1) a0 a1) := fun a0 a1 k => LeO.bind (spec_l13Ok.mono a0 a1 k) (fun _ => LeO.refl _)
theorem keep_blk {w W : World} {g b : Nat} {o : Obj} (h : KeepBut w W g none) (hb : w.heap[b]? = some o) (hne : b ≠ g) : W.heap[b]? = some o := (h.2 b (blk_lt hb) hne (by simp)).trans hb
set_option maxHeartbeats 2000000 in
theorem spec_DecayHeat.calls (k : Nat) (A0_0 : Option Addr) (c0_0 : Nat) (l0_0 : List Int) (a0_1 : Int) (r1 : List Int) (r2 : Int) (w : World) (hr0_0 : Kd.C (Kd.int .i64) w A0_0 l0_0.length l0_0) (hc0_0 : l0_0.length ≤ c0_0) (h : spec_DecayHeat.f k l0_0 a0_1 = some (r1, r2)) :
    Calls Try.prog 30 #[.agg #[.slice A0_0 l0_0.length c0_0, .int .i64 a0_1]] w fun e w' => ∃ v0_ : Value, e = .returned (.agg #[v0_, .int .i64 r2]) ∧ Kd.R (Kd.int .i64) 2 w' w.heap.size (fun _ => True) v0_ r1 ∧ Below w.heap.size w w' := by
  obtain ⟨⟨t1, t2⟩, h1, h2⟩ := Option.bind_eq_some_iff.1 h
  have hu := Try.underlying28
  have hI := (IsS28.new w w A0_0 c0_0 l0_0 a0_1 (Below.refl _ w) hr0_0).alloc (.cells #[.slice none 0 0, .int .i64 0] 28)
  have hB : Below w.heap.size w ((w.alloc (.cells #[.slice A0_0 l0_0.length c0_0, .int .i64 a0_1] 28)).alloc (.cells #[.slice none 0 0, .int .i64 0] 28)) := ((Below.refl _ w).alloc (Nat.le_refl _) _).alloc (by simp) _
  have hK : ((w.alloc (.cells #[.slice A0_0 l0_0.length c0_0, .int .i64 a0_1] 28)).alloc (.cells #[.slice none 0 0, .int .i64 0] 28)).heap[w.heap.size + 1]? = some (.cells #[.slice none 0 0, .int .i64 0] 28 (0, 0)) := by
    have := blk_new (w.alloc (.cells #[.slice A0_0 l0_0.length c0_0, .int .i64 a0_1] 28)) (.cells #[.slice none 0 0, .int .i64 0] 28)
    simpa using this
  have hok := spec_l13Ok.calls k w.heap.size l0_0 a0_1 t1 t2 w _ hI hB h1
  have HK := Aside0.mk hK
  clear hI hB hK h h1 hr0_0
  cases t1 with
  | false =>
    replace h2 : some (([] : List Int), (0 : Int)) = some (r1, r2) := h2
    obtain ⟨rfl, rfl⟩ := Prod.mk.inj (Option.some.inj h2)
    clear h2
    go_enter Try.func30, Try.ntmps30
    go_wp2_with (go_at_call 45; refine hok.mono ?_; rintro e w1 ⟨rfl, hI1, hb1, hk1⟩; have hbk := keep_blk hk1 HK.out (by omega); have HBK := Aside0.mk hbk; have HB1 := Aside0.mk hb1; have h0 : w1.cell? ⟨w.heap.size + 1, 0, none⟩ = some (.slice none 0 0) := (blk_cell hbk 0).trans rfl; have h1 : w1.cell? ⟨w.heap.size + 1, 1, none⟩ = some (.int .i64 0) := (blk_cell hbk 1).trans rfl; have f0 := blk_frozen hbk 0; have f1 := blk_frozen hbk 1; clear hI1 hb1 hk1 hbk hok)
    refine bodyPost_ret (results_cell_row rfl _ _ (w.heap.size + 1) 28 #[.slice none 0 0, .int .i64 0] (0, 0) _ rfl (by refine blk_put (cs := #[.slice none 0 0, .int .i64 0]) ?_ 1 _ rfl; refine blk_put (cs := #[.slice none 0 0, .int .i64 0]) ?_ 0 _ rfl; exact HBK.out) Try.underlying28 rfl (by kernel_rfl)) rfl ?_
    exact ⟨_, rfl, Kd.R_nil _ _ _ _ _, below_set (below_set HB1.out (Nat.le_succ _)) (Nat.le_succ _)⟩
  | true =>
    replace h2 : (if l0_0.length ≤ 1000000 then some (l0_0.map half, (0 : Int)) else none) = some (r1, r2) := h2
    by_cases hl : l0_0.length ≤ 1000000
    · rw [if_pos hl] at h2
      obtain ⟨rfl, rfl⟩ := Prod.mk.inj (Option.some.inj h2)
      clear h2
      have HD : Aside0 (∀ w1, IsS28 w w1 w.heap.size l0_0 t2 → Below w.heap.size w w1 → Calls Try.prog 51 #[.pointer (some ⟨w.heap.size, 0, none⟩)] w1 fun e w' => ∃ v0_ : Value, e = .returned (.agg #[v0_, .int .i64 0]) ∧ Kd.R (Kd.int .i64) 2 w' w1.heap.size (fun _ => True) v0_ (l0_0.map half) ∧ Below w1.heap.size w1 w') := ⟨fun w1 hI hb => by
        obtain ⟨A1, c1, hblk, hge, hC⟩ := hI
        exact l13Decay_calls w.heap.size A1 c1 l0_0 w1 ((blk_cell hblk 0).trans rfl) (Kd.C_below hC hb) hl⟩
      go_enter Try.func30, Try.ntmps30
      go_wp2_with (first | (go_at_call 45; refine hok.mono ?_; rintro e w1 ⟨rfl, hI1, hb1, hk1⟩; have hbk := keep_blk hk1 HK.out (by omega); have HBK := Aside0.mk hbk; have HB1 := Aside0.mk hb1; have hd := HD.out w1 hI1 hb1; clear hI1 hb1 hk1 hbk hok) | (go_at_call 51; refine hd.mono ?_; rintro e w2 ⟨v2, rfl, hv2, hb2⟩; obtain ⟨A2, c2, eo⟩ := Kd.R_slice hv2; rw [List.length_map] at eo; subst eo; have hbk2 := (hb2.block _ (blk_lt HBK.out)).trans HBK.out; have HBK2 := Aside0.mk hbk2; have HB2 := Aside0.mk (HB1.out.trans (hb2.mono HB1.out.size)); have HV2 := Aside0.mk (Kd.R_lower hv2 HB1.out.size); have h0 : w2.cell? ⟨w.heap.size + 1, 0, none⟩ = some (.slice none 0 0) := (blk_cell hbk2 0).trans rfl; have h1 : w2.cell? ⟨w.heap.size + 1, 1, none⟩ = some (.int .i64 0) := (blk_cell hbk2 1).trans rfl; have f0 := blk_frozen hbk2 0; have f1 := blk_frozen hbk2 1; clear hv2 hb2 hbk2 hd))
      refine bodyPost_ret (results_cell_row rfl _ _ (w.heap.size + 1) 28 #[.slice A2 l0_0.length c2, .int .i64 0] (0, 0) _ rfl (by refine blk_put (cs := #[.slice A2 l0_0.length c2, .int .i64 0]) ?_ 1 _ rfl; refine blk_put (cs := #[.slice none 0 0, .int .i64 0]) ?_ 0 _ rfl; exact HBK2.out) Try.underlying28 rfl (by kernel_rfl)) rfl ?_
      exact ⟨_, rfl, Kd.R_mono (Kd.R_far (p := ⟨w.heap.size + 1, 1, none⟩) (Kd.R_far (p := ⟨w.heap.size + 1, 0, none⟩) (Kd.R_types HV2.out HBK2.out (by decide)) (fun _ hk => hk.2) _) (fun _ hk => hk.2) _) (fun _ _ => trivial), below_set (below_set HB2.out (Nat.le_succ _)) (Nat.le_succ _)⟩
    · rw [if_neg hl] at h2
      cases h2
end Go.Proofs.Ytobidghdmcobmaa.Q
