/- The contracts of the specification's l13Note and NoteWrite. Conditions: those before each theorem. -/
import Derived.Test.YtobidghdmcobmaaXDecay
import Derived.Test.YtobidghdmcobmaaXHeatN
import Derived.Test.YtobidghdmcobmaaQ2
namespace Go.Proofs.Ytobidghdmcobmaa.Q
open Go.RowKit Go.Proofs.YtobidghdmcobmaaW.PrintWords Go.Proofs.YtobidghdmcobmaaW.PrintMore Go.Proofs.YtobidghdmcobmaaW.PrintLast
set_option linter.unusedVariables false
def capM (z : Int) : Int := if z < 1000000 then z else 1000000
def noteC (xs : List Int) (i : Int) : List Int := xs.set i.toNat (capM (wrap64 (rd xs i + 1)))
def noteL (xs : List Int) (y i : Int) : List Int := if wrap64 (y + 1) = 16 then (noteC xs i).map half else noteC xs i
def noteW (y : Int) : Int := if wrap64 (y + 1) = 16 then 0 else wrap64 (y + 1)
theorem noteC_len (xs : List Int) (i : Int) : (noteC xs i).length = xs.length := by simp [noteC]
theorem noteL_len (xs : List Int) (y i : Int) : (noteL xs y i).length = xs.length := by unfold noteL; split <;> simp [noteC]
theorem own_calls (A : Option Addr) (c : Nat) (xs : List Int) (w W : World) (hC : Kd.C (Kd.int .i64) w A xs.length xs) (hcl : xs.length ≤ c) (hl : xs.length ≤ 1000000) (hb : Below w.heap.size w W) :
    Calls Try.prog 62 #[.slice A xs.length c] W fun e w' => ∃ v : Value, e = .returned v ∧ Kd.R (Kd.int .i64) 2 w' W.heap.size (fun _ => True) v xs ∧ Below W.heap.size W w' :=
  spec_l00Own.calls A c xs xs W (Kd.C_below hC hb) hcl (by
    unfold spec_l00Own.f
    rw [Option.bind_some, if_pos (by simp; omega)]
    simp)
theorem min_calls (z : Int) (W : World) : Calls Try.prog 63 #[.int .i64 z, .int .i64 1000000] W fun e w' => e = .returned (.int .i64 (capM z)) ∧ Below W.heap.size W w' :=
  (spec_l00Min.calls z 1000000 (capM z) W (by unfold spec_l00Min.f capM; split <;> rfl)).mono fun e w' ⟨he, hd⟩ => ⟨he, by obtain ⟨nn, rfl⟩ := hd.out; exact pw_below_drewN (Below.refl _ _) nn⟩
set_option linter.unusedSimpArgs false in
set_option maxHeartbeats 4000000 in
set_option maxRecDepth 100000 in
theorem l13Note_calls (g : Nat) (A : Option Addr) (c : Nat) (xs : List Int) (y lpn : Int) (w : World) (hcell0 : w.cell? ⟨g, 0, none⟩ = some (.slice A xs.length c)) (hcell1 : w.cell? ⟨g, 1, none⟩ = some (.int .i64 y)) (hC : Kd.C (Kd.int .i64) w A xs.length xs) (hcl : xs.length ≤ c) (h0 : 0 ≤ lpn) (h1 : lpn < (xs.length : Int)) (hl : xs.length ≤ 1000000) :
    Calls Try.prog 54 #[.pointer (some ⟨g, 0, none⟩), .int .i64 lpn] w fun e w' => ∃ v0_ : Value, e = .returned (.agg #[v0_, .int .i64 (noteW y)]) ∧ Kd.R (Kd.int .i64) 2 w' w.heap.size (fun _ => True) v0_ (noteL xs y lpn) ∧ Below w.heap.size w w' := by
  have hu := Try.underlying28
  have hgl := World.block_lt_of_cell? w _ hcell0
  have HOWN : Aside0 (∀ W, Below w.heap.size w W → Calls Try.prog 62 #[.slice A xs.length c] W fun e w' => ∃ v : Value, e = .returned v ∧ Kd.R (Kd.int .i64) 2 w' W.heap.size (fun _ => True) v xs ∧ Below W.heap.size W w') := ⟨fun W hb => own_calls A c xs w W hC hcl hl hb⟩
  have HMIN := Aside0.mk min_calls
  have HDEC := Aside0.mk l13Decay_calls
  have hB0 : Below w.heap.size w (w.alloc (.cells #[.slice none 0 0, .int .i64 0] 28)) := (Below.refl _ _).alloc (Nat.le_refl _) _
  have hc0 : (w.alloc (.cells #[.slice none 0 0, .int .i64 0] 28)).cell? ⟨g, 0, none⟩ = some (.slice A xs.length c) := (hB0.cell (p := ⟨g, 0, none⟩) hgl).trans hcell0
  have hc1 : (w.alloc (.cells #[.slice none 0 0, .int .i64 0] 28)).cell? ⟨g, 1, none⟩ = some (.int .i64 y) := (hB0.cell (p := ⟨g, 1, none⟩) hgl).trans hcell1
  have HRD : Aside0 ((w.alloc (.cells #[.slice none 0 0, .int .i64 0] 28)).drew.heap[w.heap.size]? = some (.cells #[.slice none 0 0, .int .i64 0] 28 (0, 0))) := ⟨blk_drew (blk_new w _)⟩
  have HBD : Aside0 (Below w.heap.size w (w.alloc (.cells #[.slice none 0 0, .int .i64 0] 28)).drew) := ⟨below_drew1 hB0⟩
  clear hC hcell0 hcell1 hB0 hgl hcl
  go_enter Try.func54, Try.ntmps54
  go_wp2_with fail
  refine start_ (n := 13) (S := fun w' => w'.cell? ⟨g, 0, none⟩ = some (.slice A xs.length c) ∧ w'.cell? ⟨g, 1, none⟩ = some (.int .i64 y)) (ds := [12]) #[false, false, false, false, false, false, false, false, false, false, false, false, false] (by kernel_rfl) rfl rfl ⟨hc0, hc1⟩ (fun hHeld => ?_)
  generalize hW5 : (w.alloc (.cells #[.slice none 0 0, .int .i64 0] 28)).drew = w5 at HRD HBD hHeld ⊢
  clear hW5
  refine pure_ (i := 0) (N := some 6) (v := ?_) (a' := ?_) #[true, false, false, false, false, false, false, false, false, false, false, false, false] rfl rfl (by kernel_rfl) (fun _ _ _ h => h) (Or.inl ⟨by rfl, ?_⟩) ?_ ?_
  rotate_left
  · intro w'
    go_simp
    with_reducible rfl
  rotate_left
  · simp only [Act.put, List.setIfInBounds_toArray, List.set_cons_zero, List.set_cons_succ, i64_w, i32_w]
    rfl
  refine pure_ (i := 1) (N := some 7) (v := ?_) (a' := ?_) #[true, true, false, false, false, false, false, false, false, false, false, false, false] rfl rfl (by kernel_rfl) (fun _ _ _ h => h) (Or.inl ⟨by rfl, ?_⟩) ?_ ?_
  rotate_left
  · intro w'
    go_simp
    with_reducible rfl
  rotate_left
  · simp only [Act.put, List.setIfInBounds_toArray, List.set_cons_zero, List.set_cons_succ, i64_w, i32_w]
    rfl
  refine pure_ (i := 2) (N := some 8) (v := ?_) (a' := ?_) #[true, true, true, false, false, false, false, false, false, false, false, false, false] rfl rfl (by kernel_rfl) (fun _ _ _ h => h) (Or.inl ⟨by rfl, ?_⟩) ?_ ?_
  rotate_left
  · intro w'
    go_simp
    with_reducible rfl
  rotate_left
  · simp only [Act.put, List.setIfInBounds_toArray, List.set_cons_zero, List.set_cons_succ, i64_w, i32_w]
    rfl
  refine pure_ (i := 5) (N := some 11) (v := ?_) (a' := ?_) #[true, true, true, false, false, true, false, false, false, false, false, false, false] rfl rfl (by kernel_rfl) (fun _ _ _ h => h) (Or.inl ⟨by rfl, ?_⟩) ?_ ?_
  rotate_left
  · intro w'
    go_simp
    with_reducible rfl
  rotate_left
  · simp only [Act.put, List.setIfInBounds_toArray, List.set_cons_zero, List.set_cons_succ, i64_w, i32_w]
    rfl
  refine pure_ (i := 6) (N := some 12) (v := ?_) (a' := ?_) #[true, true, true, false, false, true, true, false, false, false, false, false, false] rfl rfl (by kernel_rfl) (fun _ _ _ h => h) (Or.inl ⟨by rfl, ?_⟩) ?_ ?_
  rotate_left
  · intro w'
    go_simp
    with_reducible rfl
  rotate_left
  · simp only [Act.put, List.setIfInBounds_toArray, List.set_cons_zero, List.set_cons_succ, i64_w, i32_w]
    rfl
  refine pure_ (i := 7) (N := some 13) (v := ?_) (a' := ?_) #[true, true, true, false, false, true, true, true, false, false, false, false, false] rfl rfl (by kernel_rfl) (fun _ _ _ h => h) (Or.inl ⟨by rfl, ?_⟩) ?_ ?_
  rotate_left
  · intro w'
    go_simp
    with_reducible rfl
  rotate_left
  · simp only [Act.put, List.setIfInBounds_toArray, List.set_cons_zero, List.set_cons_succ, i64_w, i32_w]
    rfl
  refine take_ (i := 3) (N := some 9) (v := ?_) (a' := ?_) #[true, true, true, true, false, true, true, true, false, false, false, false, false] rfl rfl (by kernel_rfl) (fun _ _ _ h => h) (Or.inl ⟨by rfl, ?_⟩) hHeld ?_ ?_
  rotate_left
  · rintro w' ⟨s0, s1⟩
    go_simp
    with_reducible rfl
  rotate_left
  · simp only [Act.put, List.setIfInBounds_toArray, List.set_cons_zero, List.set_cons_succ, i64_w, i32_w]
    rfl
  refine take_ (i := 8) (N := some 14) (v := ?_) (a' := ?_) #[true, true, true, true, false, true, true, true, true, false, false, false, false] rfl rfl (by kernel_rfl) (fun _ _ _ h => h) (Or.inl ⟨by rfl, ?_⟩) hHeld ?_ ?_
  rotate_left
  · rintro w' ⟨s0, s1⟩
    go_simp
    with_reducible rfl
  rotate_left
  · simp only [Act.put, List.setIfInBounds_toArray, List.set_cons_zero, List.set_cons_succ, i64_w, i32_w]
    rfl
  refine pure_ (i := 9) (N := some 15) (v := ?_) (a' := ?_) #[true, true, true, true, false, true, true, true, true, true, false, false, false] rfl rfl (by kernel_rfl) (fun _ _ _ h => h) (Or.inl ⟨by rfl, ?_⟩) ?_ ?_
  rotate_left
  · intro w'
    go_simp
    with_reducible rfl
  rotate_left
  · simp only [Act.put, List.setIfInBounds_toArray, List.set_cons_zero, List.set_cons_succ, i64_w, i32_w]
    rfl
  refine join_ (σ := (Option Addr × Nat) × Nat) 1 #[true, true, true, true, true, true, true, true, true, true, true, true, false] (fun s_ => [(10, .slice s_.1.1 xs.length s_.1.2), (5, .pointer (some ⟨s_.2, 0, none⟩)), (16, .agg #[.slice s_.1.1 xs.length s_.1.2, .int .i64 (wrap64 (y + 1))])]) (fun s_ w' => (Kd.R (Kd.int .i64) 2 w' w.heap.size (fun _ => True) (.slice s_.1.1 xs.length s_.1.2) xs) ∧ (w'.heap[s_.2]? = some (.cells #[.slice none 0 0, .int .i64 0] 28 (0, 0))) ∧ (w.heap.size ≤ s_.2) ∧ (w.heap.size ≠ s_.2) ∧ (w'.heap[w.heap.size]? = some (.cells #[.slice none 0 0, .int .i64 0] 28 (0, 0))) ∧ (Below w.heap.size w w')) ?_ ?_
  rotate_left
  · intro hCont
    refine two_ (i := 4) (j := 11) (Ni := some 10) (Nj := some 5) #[true, true, true, true, true, true, true, true, true, true, false, false, false] #[true, true, true, true, false, true, true, true, true, true, false, true, false] rfl rfl rfl rfl (by kernel_rfl) (by decide) (by decide) (fun K hK => ?_) (fun K hK => ?_)
    · skip
      refine goes_ Try.func62 (by kernel_rfl) rfl #[.slice A xs.length c] (by rfl) rfl rfl (by (try simp only [List.map_toArray, List.map_cons, List.map_nil]); first | done | rfl) ?_
      with_reducible refine (HOWN.out _ HBD.out).mono ?_
      rintro e w9 ⟨v, rfl, hv, hbv⟩
      obtain ⟨A1, c1, ev⟩ := Kd.R_slice hv
      subst ev
      refine ⟨_, rfl, ?_⟩
      refine hK.out _ _ ⟨pw_cell_below hbv hHeld.1, pw_cell_below hbv hHeld.2⟩ (fun hHeld => ?_)
      clear hK K
      refine norm_ (a' := ?_) ?_ ?_
      rotate_left
      · show Act.put _ (some 10) _ = _
        simp only [Act.put, List.setIfInBounds_toArray, List.set_cons_zero, List.set_cons_succ, i64_w, i32_w]
        rfl
      refine pure_ (i := 10) (N := some 16) (v := ?_) (a' := ?_) #[true, true, true, true, true, true, true, true, true, true, true, false, false] rfl rfl (by kernel_rfl) (fun _ _ _ h => h) (Or.inl ⟨by rfl, ?_⟩) ?_ ?_
      rotate_left
      · intro w'
        go_simp
        with_reducible rfl
      rotate_left
      · simp only [Act.put, List.setIfInBounds_toArray, List.set_cons_zero, List.set_cons_succ, i64_w, i32_w]
        rfl
      refine one_ (i := 11) (N := some 5) #[true, true, true, true, true, true, true, true, true, true, true, true, false] rfl rfl (by kernel_rfl) (by decide) (fun K hK => ?_)
      refine box_step ?hg (N := 5) ?hd (cs := #[.slice none 0 0, .int .i64 0]) (t := 28) ?hr ?_; (case hd => rfl); (case hg => rfl); (case hr => first | (go_simp; done) | (go_simp; rfl))
      intro gb hg w7 hbox hb
      refine hK.out _ _ ⟨pw_cell_below hb hHeld.1, pw_cell_below hb hHeld.2⟩ (fun hHeld => ?_)
      clear hK K
      refine norm_ (a' := ?_) ?_ ?_
      rotate_left
      · show Act.put _ (some 5) _ = _
        simp only [Act.put, List.setIfInBounds_toArray, List.set_cons_zero, List.set_cons_succ, i64_w, i32_w]
        rfl
      exact norm_ (by simp only [putAll, Act.put, List.setIfInBounds_toArray, List.set_cons_zero, List.set_cons_succ]) (hCont ((A1, c1), gb) _ ⟨Kd.R_below (Kd.R_lower hv HBD.out.size) hb, hbox, (by rw [hg]; exact Nat.le_trans HBD.out.size hbv.size), (by rw [hg]; exact Nat.ne_of_lt (blk_lt (blk_below HRD.out hbv))), (blk_below (blk_below HRD.out hbv) hb), ((HBD.out.trans (hbv.mono HBD.out.size)).trans (hb.mono (Nat.le_trans HBD.out.size hbv.size)))⟩)
    · skip
      refine box_step ?hg (N := 5) ?hd (cs := #[.slice none 0 0, .int .i64 0]) (t := 28) ?hr ?_; (case hd => rfl); (case hg => rfl); (case hr => first | (go_simp; done) | (go_simp; rfl))
      intro gb hg w7 hbox hb
      refine hK.out _ _ ⟨pw_cell_below hb hHeld.1, pw_cell_below hb hHeld.2⟩ (fun hHeld => ?_)
      clear hK K
      refine norm_ (a' := ?_) ?_ ?_
      rotate_left
      · show Act.put _ (some 5) _ = _
        simp only [Act.put, List.setIfInBounds_toArray, List.set_cons_zero, List.set_cons_succ, i64_w, i32_w]
        rfl
      refine one_ (i := 4) (N := some 10) #[true, true, true, true, true, true, true, true, true, true, false, true, false] rfl rfl (by kernel_rfl) (by decide) (fun K hK => ?_)
      refine goes_ Try.func62 (by kernel_rfl) rfl #[.slice A xs.length c] (by rfl) rfl rfl (by (try simp only [List.map_toArray, List.map_cons, List.map_nil]); first | done | rfl) ?_
      with_reducible refine (HOWN.out _ (HBD.out.trans (hb.mono HBD.out.size))).mono ?_
      rintro e w9 ⟨v, rfl, hv, hbv⟩
      obtain ⟨A1, c1, ev⟩ := Kd.R_slice hv
      subst ev
      refine ⟨_, rfl, ?_⟩
      refine hK.out _ _ ⟨pw_cell_below hbv hHeld.1, pw_cell_below hbv hHeld.2⟩ (fun hHeld => ?_)
      clear hK K
      refine norm_ (a' := ?_) ?_ ?_
      rotate_left
      · show Act.put _ (some 10) _ = _
        simp only [Act.put, List.setIfInBounds_toArray, List.set_cons_zero, List.set_cons_succ, i64_w, i32_w]
        rfl
      refine pure_ (i := 10) (N := some 16) (v := ?_) (a' := ?_) #[true, true, true, true, true, true, true, true, true, true, true, true, false] rfl rfl (by kernel_rfl) (fun _ _ _ h => h) (Or.inl ⟨by rfl, ?_⟩) ?_ ?_
      rotate_left
      · intro w'
        go_simp
        with_reducible rfl
      rotate_left
      · simp only [Act.put, List.setIfInBounds_toArray, List.set_cons_zero, List.set_cons_succ, i64_w, i32_w]
        rfl
      exact norm_ (by simp only [putAll, Act.put, List.setIfInBounds_toArray, List.set_cons_zero, List.set_cons_succ]) (hCont ((A1, c1), gb) _ ⟨Kd.R_lower hv (Nat.le_trans HBD.out.size hb.size), (blk_below hbox hbv), (by rw [hg]; exact HBD.out.size), (by rw [hg]; exact Nat.ne_of_lt (blk_lt HRD.out)), (blk_below (blk_below HRD.out hb) hbv), ((HBD.out.trans (hb.mono HBD.out.size)).trans (hbv.mono (Nat.le_trans HBD.out.size hb.size)))⟩)
  rintro ⟨⟨A1, co⟩, gb⟩ w7 ⟨hv, hbx, hge, hne, hrx, hbw⟩
  clear HRD HBD
  have HV := Aside0.mk hv
  have HBX := Aside0.mk hbx
  have HRX := Aside0.mk hrx
  have HGE := Aside0.mk hge
  have HNE := Aside0.mk hne
  have HBW := Aside0.mk hbw
  clear hbx hge hne hrx hbw hv
  have hHeld := trivial
  refine norm_ (a' := ?_) ?_ ?_
  rotate_left
  · simp only [putAll, Act.put, List.setIfInBounds_toArray, List.set_cons_zero, List.set_cons_succ]
    rfl
  obtain ⟨go, c2, eo, hgo, hgo2, cl, hcl⟩ := Kd.R_form HV.out (by omega)
  injection eo with ea_ en_ ec_
  subst ea_
  subst ec_
  clear en_
  have HGO := Aside0.mk hgo
  clear hgo hgo2 hcl cl
  have hs0 : w7.cell? ⟨gb, 0, none⟩ = some (.slice none 0 0) := (blk_cell HBX.out 0).trans rfl
  have hs1 : w7.cell? ⟨gb, 1, none⟩ = some (.int .i64 0) := (blk_cell HBX.out 1).trans rfl
  have hf0 := blk_frozen HBX.out 0
  have hf1 := blk_frozen HBX.out 1
  refine last_ (i := 12) (N := none) #[true, true, true, true, true, true, true, true, true, true, true, true, true] rfl rfl (by kernel_rfl) (by decide) (fun K hK => ?_)
  refine skip_ (w1 := ?_) (by rfl) rfl ?_ ?_
  rotate_left
  · go_simp
    rfl
  refine hK.out _ _ ?_
  clear hK K
  refine done_ (by kernel_rfl) ?_
  have HBX2 : Aside0 (((w7.setCell ⟨gb, 0, none⟩ (.slice (some ⟨go, 0, none⟩) xs.length co)).setCell ⟨gb, 1, none⟩ (.int .i64 (wrap64 (y + 1)))).heap[gb]? = some (.cells #[.slice (some ⟨go, 0, none⟩) xs.length co, .int .i64 (wrap64 (y + 1))] 28 (0, 0))) := ⟨blk_put (cs := #[.slice (some ⟨go, 0, none⟩) xs.length co, .int .i64 0]) (blk_put (cs := #[.slice none 0 0, .int .i64 0]) HBX.out 0 _ rfl) 1 _ rfl⟩
  have HRX2 : Aside0 (((w7.setCell ⟨gb, 0, none⟩ (.slice (some ⟨go, 0, none⟩) xs.length co)).setCell ⟨gb, 1, none⟩ (.int .i64 (wrap64 (y + 1)))).heap[w.heap.size]? = some (.cells #[.slice none 0 0, .int .i64 0] 28 (0, 0))) := ⟨blk_far (blk_far HRX.out HNE.out _) HNE.out _⟩
  have HV2 : Aside0 (Kd.R (Kd.int .i64) 2 ((w7.setCell ⟨gb, 0, none⟩ (.slice (some ⟨go, 0, none⟩) xs.length co)).setCell ⟨gb, 1, none⟩ (.int .i64 (wrap64 (y + 1)))) w.heap.size (fun _ => True) (.slice (some ⟨go, 0, none⟩) xs.length co) xs) := ⟨Kd.R_mono (Kd.R_far (p := ⟨gb, 1, none⟩) (Kd.R_far (p := ⟨gb, 0, none⟩) (Kd.R_types HV.out HBX.out (by decide)) (fun _ hk => hk.2) _) (fun _ hk => hk.2) _) (fun _ _ => trivial)⟩
  have HBW2 : Aside0 (Below w.heap.size w ((w7.setCell ⟨gb, 0, none⟩ (.slice (some ⟨go, 0, none⟩) xs.length co)).setCell ⟨gb, 1, none⟩ (.int .i64 (wrap64 (y + 1))))) := ⟨below_set (below_set HBW.out HGE.out) HGE.out⟩
  clear HV HBX HRX HBW hs0 hs1 hf0 hf1
  generalize ((w7.setCell ⟨gb, 0, none⟩ (.slice (some ⟨go, 0, none⟩) xs.length co)).setCell ⟨gb, 1, none⟩ (.int .i64 (wrap64 (y + 1)))) = wa at HBX2 HRX2 HV2 HBW2 ⊢
  have HBX := Aside0.mk (blk_drew HBX2.out)
  have HRX := Aside0.mk (blk_drew HRX2.out)
  have HV := Aside0.mk (Kd.R_drew HV2.out)
  have HBW := Aside0.mk (below_drew1 HBW2.out)
  clear HBX2 HRX2 HV2 HBW2
  go_wp2_with fail
  have hx0 := (Kd.R_celln 0 HV.out lpn h0 h1).1
  refine start_ (n := 12) (S := fun w' => w'.cell? ⟨gb, 0, none⟩ = some (.slice (some ⟨go, 0, none⟩) xs.length co) ∧ w'.cell? ⟨go, lpn.toNat, none⟩ = some (.int .i64 (rd xs lpn))) (ds := [11]) #[false, false, false, false, false, false, false, false, false, false, false, false] (by kernel_rfl) rfl rfl ⟨((blk_cell HBX.out 0).trans rfl), hx0⟩ (fun hHeld => ?_)
  refine pure_ (i := 0) (N := some 17) (v := ?_) (a' := ?_) #[true, false, false, false, false, false, false, false, false, false, false, false] rfl rfl (by kernel_rfl) (fun _ _ _ h => h) (Or.inl ⟨by rfl, ?_⟩) ?_ ?_
  rotate_left
  · intro w'
    go_simp
    with_reducible rfl
  rotate_left
  · simp only [Act.put, List.setIfInBounds_toArray, List.set_cons_zero, List.set_cons_succ, i64_w, i32_w]
    rfl
  refine pure_ (i := 2) (N := some 19) (v := ?_) (a' := ?_) #[true, false, true, false, false, false, false, false, false, false, false, false] rfl rfl (by kernel_rfl) (fun _ _ _ h => h) (Or.inl ⟨by rfl, ?_⟩) ?_ ?_
  rotate_left
  · intro w'
    go_simp
    with_reducible rfl
  rotate_left
  · simp only [Act.put, List.setIfInBounds_toArray, List.set_cons_zero, List.set_cons_succ, i64_w, i32_w]
    rfl
  refine pure_ (i := 3) (N := some 20) (v := ?_) (a' := ?_) #[true, false, true, true, false, false, false, false, false, false, false, false] rfl rfl (by kernel_rfl) (fun _ _ _ h => h) (Or.inl ⟨by rfl, ?_⟩) ?_ ?_
  rotate_left
  · intro w'
    go_simp
    with_reducible rfl
  rotate_left
  · simp only [Act.put, List.setIfInBounds_toArray, List.set_cons_zero, List.set_cons_succ, i64_w, i32_w]
    rfl
  refine pure_ (i := 5) (N := some 22) (v := ?_) (a' := ?_) #[true, false, true, true, false, true, false, false, false, false, false, false] rfl rfl (by kernel_rfl) (fun _ _ _ h => h) (Or.inl ⟨by rfl, ?_⟩) ?_ ?_
  rotate_left
  · intro w'
    go_simp
    with_reducible rfl
  rotate_left
  · simp only [Act.put, List.setIfInBounds_toArray, List.set_cons_zero, List.set_cons_succ, i64_w, i32_w]
    rfl
  refine take_ (i := 1) (N := some 18) (v := ?_) (a' := ?_) #[true, true, true, true, false, true, false, false, false, false, false, false] rfl rfl (by kernel_rfl) (fun _ _ _ h => h) (Or.inl ⟨by rfl, ?_⟩) hHeld ?_ ?_
  rotate_left
  · rintro w' ⟨s0, s1⟩
    go_simp
    with_reducible rfl
  rotate_left
  · simp only [Act.put, List.setIfInBounds_toArray, List.set_cons_zero, List.set_cons_succ, i64_w, i32_w]
    rfl
  refine take_ (i := 4) (N := some 21) (v := ?_) (a' := ?_) #[true, true, true, true, true, true, false, false, false, false, false, false] rfl rfl (by kernel_rfl) (fun _ _ _ h => h) (Or.inl ⟨by rfl, ?_⟩) hHeld ?_ ?_
  rotate_left
  · rintro w' ⟨s0, s1⟩
    go_simp
    with_reducible rfl
  rotate_left
  · simp only [Act.put, List.setIfInBounds_toArray, List.set_cons_zero, List.set_cons_succ, i64_w, i32_w]
    rfl
  refine pure_ (i := 6) (N := some 23) (v := ?_) (a' := ?_) #[true, true, true, true, true, true, true, false, false, false, false, false] rfl rfl (by kernel_rfl) (fun _ _ _ h => h) (Or.inl ⟨by rfl, ?_⟩) ?_ ?_
  rotate_left
  · intro w'
    go_simp
    with_reducible rfl
  rotate_left
  · simp only [Act.put, List.setIfInBounds_toArray, List.set_cons_zero, List.set_cons_succ, i64_w, i32_w]
    rfl
  refine take_ (i := 7) (N := some 24) (v := ?_) (a' := ?_) #[true, true, true, true, true, true, true, true, false, false, false, false] rfl rfl (by kernel_rfl) (fun _ _ _ h => h) (Or.inl ⟨by rfl, ?_⟩) hHeld ?_ ?_
  rotate_left
  · rintro w' ⟨s0, s1⟩
    go_simp
    with_reducible rfl
  rotate_left
  · simp only [Act.put, List.setIfInBounds_toArray, List.set_cons_zero, List.set_cons_succ, i64_w, i32_w]
    rfl
  refine pure_ (i := 8) (N := some 25) (v := ?_) (a' := ?_) #[true, true, true, true, true, true, true, true, true, false, false, false] rfl rfl (by kernel_rfl) (fun _ _ _ h => h) (Or.inl ⟨by rfl, ?_⟩) ?_ ?_
  rotate_left
  · intro w'
    go_simp
    with_reducible rfl
  rotate_left
  · simp only [Act.put, List.setIfInBounds_toArray, List.set_cons_zero, List.set_cons_succ, i64_w, i32_w]
    rfl
  refine one_ (i := 9) (N := some 26) #[true, true, true, true, true, true, true, true, true, true, false, false] rfl rfl (by kernel_rfl) (by decide) (fun K hK => ?_)
  refine goes_ Try.func63 (by kernel_rfl) rfl #[.int .i64 (wrap64 (rd xs lpn + 1)), .int .i64 1000000] (by rfl) rfl rfl (by simp only [List.map_toArray, List.map_cons, List.map_nil]; rfl) ?_
  with_reducible refine (HMIN.out _ _).mono ?_
  rintro e w1 ⟨rfl, hb1⟩
  refine ⟨_, rfl, ?_⟩
  have HV1 := Aside0.mk (Kd.R_below HV.out hb1)
  have HBX1 := Aside0.mk (blk_below HBX.out hb1)
  have HRX1 := Aside0.mk (blk_below HRX.out hb1)
  have HBW1 := Aside0.mk (HBW.out.trans (hb1.mono HBW.out.size))
  obtain ⟨hx1, hf1⟩ := Kd.R_celln 0 HV1.out lpn h0 h1
  refine hK.out _ _ ⟨(pw_cell_below hb1 hHeld.1), (pw_cell_below hb1 hHeld.2)⟩ (fun hHeld => ?_)
  clear hK K
  refine norm_ (a' := ?_) ?_ ?_
  rotate_left
  · show Act.put _ (some 26) _ = _
    simp only [Act.put, List.setIfInBounds_toArray, List.set_cons_zero, List.set_cons_succ, i64_w, i32_w]
    rfl
  refine pure_ (i := 10) (N := some 27) (v := ?_) (a' := ?_) #[true, true, true, true, true, true, true, true, true, true, true, false] rfl rfl (by kernel_rfl) (fun _ _ _ h => h) (Or.inl ⟨by rfl, ?_⟩) ?_ ?_
  rotate_left
  · intro w'
    go_simp
    with_reducible rfl
  rotate_left
  · simp only [Act.put, List.setIfInBounds_toArray, List.set_cons_zero, List.set_cons_succ, i64_w, i32_w]
    rfl
  refine last_ (i := 11) (N := none) #[true, true, true, true, true, true, true, true, true, true, true, true] rfl rfl (by kernel_rfl) (by decide) (fun K hK => ?_)
  refine skip_ (w1 := ?_) (by rfl) rfl ?_ ?_
  rotate_left
  · go_simp
    rfl
  refine hK.out _ _ ?_
  clear hK K
  refine done_ (by kernel_rfl) ?_
  have HBX2 : Aside0 ((w1.setCell ⟨go, lpn.toNat, none⟩ (.int .i64 (capM (wrap64 (rd xs lpn + 1))))).heap[gb]? = some (.cells #[.slice (some ⟨go, 0, none⟩) xs.length co, .int .i64 (wrap64 (y + 1))] 28 (0, 0))) := ⟨blk_far HBX1.out (by have h_ := Kd.R_ne HV1.out HBX1.out (by decide); intro e_; exact h_ (by rw [e_]; rfl)) _⟩
  have HRX2 : Aside0 ((w1.setCell ⟨go, lpn.toNat, none⟩ (.int .i64 (capM (wrap64 (rd xs lpn + 1))))).heap[w.heap.size]? = some (.cells #[.slice none 0 0, .int .i64 0] 28 (0, 0))) := ⟨blk_far HRX1.out (by have h_ := Kd.R_ne HV1.out HRX1.out (by decide); intro e_; exact h_ (by rw [e_]; rfl)) _⟩
  have HV2 : Aside0 (Kd.R (Kd.int .i64) 2 (w1.setCell ⟨go, lpn.toNat, none⟩ (.int .i64 (capM (wrap64 (rd xs lpn + 1))))) w.heap.size (fun _ => True) (.slice (some ⟨go, 0, none⟩) xs.length co) (noteC xs lpn)) := ⟨Kd.R_putn (enc := Value.int .i64) (h1 := fun _ => rfl) HV1.out lpn _⟩
  have HBW2 : Aside0 (Below w.heap.size w (w1.setCell ⟨go, lpn.toNat, none⟩ (.int .i64 (capM (wrap64 (rd xs lpn + 1)))))) := ⟨below_set HBW1.out HGO.out⟩
  clear HV HBX HRX HBW HV1 HBX1 HRX1 HBW1 hx1 hf1 hx0 hb1 hHeld
  generalize (w1.setCell ⟨go, lpn.toNat, none⟩ (.int .i64 (capM (wrap64 (rd xs lpn + 1))))) = wb at HBX2 HRX2 HV2 HBW2 ⊢
  have HLN := Aside0.mk (noteC_len xs lpn)
  have hcz0 : wb.cell? ⟨gb, 0, none⟩ = some (.slice (some ⟨go, 0, none⟩) xs.length co) := (blk_cell HBX2.out 0).trans rfl
  have hcz1 : wb.cell? ⟨gb, 1, none⟩ = some (.int .i64 (wrap64 (y + 1))) := (blk_cell HBX2.out 1).trans rfl
  have hr0 : wb.cell? ⟨w.heap.size, 0, none⟩ = some (.slice none 0 0) := (blk_cell HRX2.out 0).trans rfl
  have hr1 : wb.cell? ⟨w.heap.size, 1, none⟩ = some (.int .i64 0) := (blk_cell HRX2.out 1).trans rfl
  have fr0 := blk_frozen HRX2.out 0
  have fr1 := blk_frozen HRX2.out 1
  by_cases h16 : wrap64 (y + 1) = 16
  · have E1 : Aside0 (noteW y = 0) := ⟨if_pos h16⟩
    have E2 : Aside0 (noteL xs y lpn = (noteC xs lpn).map half) := ⟨if_pos h16⟩
    have c16 : (wrap64 (y + 1) == 16) = true := beq_iff_eq.2 h16
    clear h16
    have hd : Calls Try.prog 51 #[.pointer (some ⟨gb, 0, none⟩)] wb fun e w' => ∃ v0_ : Value, e = .returned (.agg #[v0_, .int .i64 0]) ∧ Kd.R (Kd.int .i64) 2 w' wb.heap.size (fun _ => True) v0_ ((noteC xs lpn).map half) ∧ Below wb.heap.size wb w' := HDEC.out gb (some ⟨go, 0, none⟩) co (noteC xs lpn) wb (by rw [HLN.out]; exact hcz0) (Kd.R_reads' HV2.out).2.2 (by rw [HLN.out]; exact hl)
    clear hl h0 h1
    go_wp2_with (go_at_call 51; refine hd.mono ?_; rintro e w2 ⟨v2, rfl, hv2, hb2⟩; obtain ⟨A2, c2, eo⟩ := Kd.R_slice hv2; rw [List.length_map] at eo; subst eo; have hbk2 := (hb2.block _ (blk_lt HRX2.out)).trans HRX2.out; have HBK2 := Aside0.mk hbk2; have HB2 := Aside0.mk (HBW2.out.trans (hb2.mono HBW2.out.size)); have HVV := Aside0.mk (Kd.R_lower hv2 HBW2.out.size); have q0 : w2.cell? ⟨w.heap.size, 0, none⟩ = some (.slice none 0 0) := (blk_cell hbk2 0).trans rfl; have q1 : w2.cell? ⟨w.heap.size, 1, none⟩ = some (.int .i64 0) := (blk_cell hbk2 1).trans rfl; have f0 := blk_frozen hbk2 0; have f1 := blk_frozen hbk2 1; clear hv2 hb2 hbk2 hd)
    refine bodyPost_ret (results_cell_row rfl _ _ w.heap.size 28 #[.slice A2 (noteC xs lpn).length c2, .int .i64 0] (0, 0) _ rfl (by refine blk_put (cs := #[.slice A2 (noteC xs lpn).length c2, .int .i64 0]) ?_ 1 _ rfl; refine blk_put (cs := #[.slice none 0 0, .int .i64 0]) ?_ 0 _ rfl; exact HBK2.out) Try.underlying28 rfl (by kernel_rfl)) rfl ?_
    rw [E1.out, E2.out]
    exact ⟨_, rfl, Kd.R_mono (Kd.R_far (p := ⟨w.heap.size, 1, none⟩) (Kd.R_far (p := ⟨w.heap.size, 0, none⟩) (Kd.R_types HVV.out HBK2.out (by decide)) (fun _ hk => hk.2) _) (fun _ hk => hk.2) _) (fun _ _ => trivial), below_set (below_set HB2.out (Nat.le_refl _)) (Nat.le_refl _)⟩
  · have E1 : Aside0 (noteW y = wrap64 (y + 1)) := ⟨if_neg h16⟩
    have E2 : Aside0 (noteL xs y lpn = noteC xs lpn) := ⟨if_neg h16⟩
    have c16 : (wrap64 (y + 1) == 16) = false := beq_eq_false_iff_ne.2 h16
    clear h16 hl h0 h1 HDEC
    go_wp2
    refine bodyPost_ret (results_cell_row rfl _ _ w.heap.size 28 #[.slice (some ⟨go, 0, none⟩) xs.length co, .int .i64 (wrap64 (y + 1))] (0, 0) _ rfl (by refine blk_put (cs := #[.slice (some ⟨go, 0, none⟩) xs.length co, .int .i64 0]) ?_ 1 _ rfl; refine blk_put (cs := #[.slice none 0 0, .int .i64 0]) ?_ 0 _ rfl; exact HRX2.out) Try.underlying28 rfl (by kernel_rfl)) rfl ?_
    rw [E1.out, E2.out]
    exact ⟨_, rfl, Kd.R_mono (Kd.R_far (p := ⟨w.heap.size, 1, none⟩) (Kd.R_far (p := ⟨w.heap.size, 0, none⟩) (Kd.R_types HV2.out HRX2.out (by decide)) (fun _ hk => hk.2) _) (fun _ hk => hk.2) _) (fun _ _ => trivial), below_set (below_set HBW2.out (Nat.le_refl _)) (Nat.le_refl _)⟩
def spec_NoteWrite.f (l0_0 : List Int) (a0_1 : Int) (a1 : Int) : Option (List Int × Int × Int) := if okHeat l0_0 a0_1 = true then (if 0 ≤ a1 ∧ a1 ≤ (l0_0.length : Int) - 1 then some (noteL l0_0 a0_1 a1, noteW a0_1, 0) else some ([], 0, 2)) else some ([], 0, 1)
theorem okHeat_len {xs : List Int} {y : Int} (h : okHeat xs y = true) : 1 ≤ xs.length ∧ xs.length ≤ 48 := by
  unfold okHeat at h
  simp only [Bool.and_eq_true, decide_eq_true_eq] at h
  omega
set_option maxHeartbeats 2000000 in
theorem spec_NoteWrite.calls (A0_0 : Option Addr) (c0_0 : Nat) (l0_0 : List Int) (a0_1 : Int) (a1 : Int) (r1 : List Int) (r2 : Int) (r3 : Int) (w : World) (hr0_0 : Kd.C (Kd.int .i64) w A0_0 l0_0.length l0_0) (hc0_0 : l0_0.length ≤ c0_0) (h : spec_NoteWrite.f l0_0 a0_1 a1 = some (r1, r2, r3)) :
    Calls Try.prog 33 #[.agg #[.slice A0_0 l0_0.length c0_0, .int .i64 a0_1], .int .i64 a1] w fun e w' => ∃ v0_ : Value, e = .returned (.tuple #[.agg #[v0_, .int .i64 r2], .int .i64 r3]) ∧ Kd.R (Kd.int .i64) 2 w' w.heap.size (fun _ => True) v0_ r1 ∧ Below w.heap.size w w' := by
  have hu := Try.underlying28
  have hB : Below w.heap.size w ((w.alloc (.cells #[.slice A0_0 l0_0.length c0_0, .int .i64 a0_1] 28)).alloc (.cells #[.slice none 0 0, .int .i64 0] 28)) := ((Below.refl _ w).alloc (Nat.le_refl _) _).alloc (by simp) _
  have hH : ((w.alloc (.cells #[.slice A0_0 l0_0.length c0_0, .int .i64 a0_1] 28)).alloc (.cells #[.slice none 0 0, .int .i64 0] 28)).heap[w.heap.size]? = some (.cells #[.slice A0_0 l0_0.length c0_0, .int .i64 a0_1] 28 (0, 0)) := blk_alloc (blk_new w _) _
  have hK : ((w.alloc (.cells #[.slice A0_0 l0_0.length c0_0, .int .i64 a0_1] 28)).alloc (.cells #[.slice none 0 0, .int .i64 0] 28)).heap[w.heap.size + 1]? = some (.cells #[.slice none 0 0, .int .i64 0] 28 (0, 0)) := by
    have := blk_new (w.alloc (.cells #[.slice A0_0 l0_0.length c0_0, .int .i64 a0_1] 28)) (.cells #[.slice none 0 0, .int .i64 0] 28)
    simpa using this
  have hok := okN_calls w.heap.size A0_0 c0_0 l0_0 a0_1 _ ((blk_cell hH 0).trans rfl) ((blk_cell hH 1).trans rfl) (Kd.C_below hr0_0 hB)
  have HC := Aside0.mk (Kd.C_below hr0_0 hB)
  have HK := Aside0.mk hK
  have HH := Aside0.mk hH
  have HB := Aside0.mk hB
  have HBIG : Aside0 (wrap64 ((l0_0.length : Int) - 1) = (l0_0.length : Int) - 1) := ⟨by have := hr0_0.2.1; apply wrap64_id <;> omega⟩
  clear hB hK hH hr0_0
  cases ho : okHeat l0_0 a0_1 with
  | false =>
    have h2 : some (([] : List Int), (0 : Int), (1 : Int)) = some (r1, r2, r3) := by unfold spec_NoteWrite.f at h; rw [ho, if_neg (by decide)] at h; exact h
    obtain ⟨rfl, h3⟩ := Prod.mk.inj (Option.some.inj h2)
    obtain ⟨rfl, rfl⟩ := Prod.mk.inj h3
    rw [ho] at hok
    clear h h2 h3 ho
    go_enter Try.func33, Try.ntmps33
    go_wp2_with (go_at_call 45; refine hok.mono ?_; rintro e w1 ⟨rfl, hb1⟩; have hbk := blk_below HK.out hb1; have HBK := Aside0.mk hbk; have HB1 := Aside0.mk (HB.out.trans (hb1.mono HB.out.size)); have h0 : w1.cell? ⟨w.heap.size + 1, 0, none⟩ = some (.slice none 0 0) := (blk_cell hbk 0).trans rfl; have h1 : w1.cell? ⟨w.heap.size + 1, 1, none⟩ = some (.int .i64 0) := (blk_cell hbk 1).trans rfl; have f0 := blk_frozen hbk 0; have f1 := blk_frozen hbk 1; clear hb1 hbk hok)
    refine bodyPost_ret (results_ct rfl _ _ (w.heap.size + 1) 28 #[.slice none 0 0, .int .i64 0] (0, 0) _ rfl (by refine blk_put (cs := #[.slice none 0 0, .int .i64 0]) ?_ 1 _ rfl; refine blk_put (cs := #[.slice none 0 0, .int .i64 0]) ?_ 0 _ rfl; exact HBK.out) Try.underlying28 rfl (by kernel_rfl)) rfl ?_
    exact ⟨_, rfl, Kd.R_nil _ _ _ _ _, below_set (below_set HB1.out (Nat.le_succ _)) (Nat.le_succ _)⟩
  | true =>
    rw [ho] at hok
    have HIN := Aside0.mk (fun W => inN_calls a1 0 (wrap64 ((l0_0.length : Int) - 1)) W)
    by_cases hin : 0 ≤ a1 ∧ a1 ≤ (l0_0.length : Int) - 1
    · have h2 : some (noteL l0_0 a0_1 a1, noteW a0_1, (0 : Int)) = some (r1, r2, r3) := by unfold spec_NoteWrite.f at h; rw [ho, if_pos rfl, if_pos hin] at h; exact h
      obtain ⟨rfl, h3⟩ := Prod.mk.inj (Option.some.inj h2)
      obtain ⟨rfl, rfl⟩ := Prod.mk.inj h3
      rw [decide_eq_true (show 0 ≤ a1 ∧ a1 ≤ wrap64 ((l0_0.length : Int) - 1) by rw [HBIG.out]; exact hin)] at HIN
      have HNT : Aside0 (∀ w1 : World, Below ((w.alloc (.cells #[.slice A0_0 l0_0.length c0_0, .int .i64 a0_1] 28)).alloc (.cells #[.slice none 0 0, .int .i64 0] 28)).heap.size ((w.alloc (.cells #[.slice A0_0 l0_0.length c0_0, .int .i64 a0_1] 28)).alloc (.cells #[.slice none 0 0, .int .i64 0] 28)) w1 → Calls Try.prog 54 #[.pointer (some ⟨w.heap.size, 0, none⟩), .int .i64 a1] w1 fun e w' => ∃ v0_ : Value, e = .returned (.agg #[v0_, .int .i64 (noteW a0_1)]) ∧ Kd.R (Kd.int .i64) 2 w' w1.heap.size (fun _ => True) v0_ (noteL l0_0 a0_1 a1) ∧ Below w1.heap.size w1 w') := ⟨fun w1 hb => by
        have hh := blk_below HH.out hb
        have hol := okHeat_len ho
        exact l13Note_calls w.heap.size A0_0 c0_0 l0_0 a0_1 a1 w1 ((blk_cell hh 0).trans rfl) ((blk_cell hh 1).trans rfl) (Kd.C_below HC.out hb) hc0_0 hin.1 (by omega) (by omega)⟩
      clear h h2 h3 hin ho hc0_0
      go_enter Try.func33, Try.ntmps33
      go_wp2_with (first | (go_at_call 45; refine hok.mono ?_; rintro e w1 ⟨rfl, hb1⟩; have HB1 := Aside0.mk hb1; have hcz0 : w1.cell? ⟨w.heap.size, 0, none⟩ = some (.slice A0_0 l0_0.length c0_0) := (blk_cell (blk_below HH.out hb1) 0).trans rfl; clear hb1 hok) | (go_at_call 53; refine (HIN.out _).mono ?_; rintro e w2 ⟨rfl, nn, hn⟩; have HB2 := Aside0.mk (HB1.out.trans ((show Below w1.heap.size w1 w2 by rw [hn]; exact pw_below_drewN (Below.refl _ _) nn).mono HB1.out.size)); have hd := HNT.out w2 HB2.out; clear hn hcz0) | (go_at_call 54; refine hd.mono ?_; rintro e w3 ⟨v2, rfl, hv2, hb2⟩; obtain ⟨A2, c2, eo⟩ := Kd.R_slice hv2; subst eo; have HBB := Aside0.mk (HB2.out.trans (hb2.mono HB2.out.size)); have hbk2 := blk_below HK.out HBB.out; have HBK2 := Aside0.mk hbk2; have HB3 := Aside0.mk (HB.out.trans (HBB.out.mono HB.out.size)); have HV2 := Aside0.mk (Kd.R_lower hv2 (Nat.le_trans HB.out.size HB2.out.size)); have h0 : w3.cell? ⟨w.heap.size + 1, 0, none⟩ = some (.slice none 0 0) := (blk_cell hbk2 0).trans rfl; have h1 : w3.cell? ⟨w.heap.size + 1, 1, none⟩ = some (.int .i64 0) := (blk_cell hbk2 1).trans rfl; have f0 := blk_frozen hbk2 0; have f1 := blk_frozen hbk2 1; clear hv2 hb2 hbk2 hd))
      refine bodyPost_ret (results_ct rfl _ _ (w.heap.size + 1) 28 #[.slice A2 (noteL l0_0 a0_1 a1).length c2, .int .i64 (noteW a0_1)] (0, 0) _ rfl (by refine blk_put (cs := #[.slice A2 (noteL l0_0 a0_1 a1).length c2, .int .i64 0]) ?_ 1 _ rfl; refine blk_put (cs := #[.slice none 0 0, .int .i64 0]) ?_ 0 _ rfl; exact HBK2.out) Try.underlying28 rfl (by kernel_rfl)) rfl ?_
      exact ⟨_, rfl, Kd.R_mono (Kd.R_far (p := ⟨w.heap.size + 1, 1, none⟩) (Kd.R_far (p := ⟨w.heap.size + 1, 0, none⟩) (Kd.R_types HV2.out HBK2.out (by decide)) (fun _ hk => hk.2) _) (fun _ hk => hk.2) _) (fun _ _ => trivial), below_set (below_set HB3.out (Nat.le_succ _)) (Nat.le_succ _)⟩
    · have h2 : some (([] : List Int), (0 : Int), (2 : Int)) = some (r1, r2, r3) := by unfold spec_NoteWrite.f at h; rw [ho, if_pos rfl, if_neg hin] at h; exact h
      obtain ⟨rfl, h3⟩ := Prod.mk.inj (Option.some.inj h2)
      obtain ⟨rfl, rfl⟩ := Prod.mk.inj h3
      rw [decide_eq_false (show ¬ (0 ≤ a1 ∧ a1 ≤ wrap64 ((l0_0.length : Int) - 1)) by rw [HBIG.out]; exact hin)] at HIN
      clear h h2 h3 hin ho hc0_0
      go_enter Try.func33, Try.ntmps33
      go_wp2_with (first | (go_at_call 45; refine hok.mono ?_; rintro e w1 ⟨rfl, hb1⟩; have HB1 := Aside0.mk hb1; have hcz0 : w1.cell? ⟨w.heap.size, 0, none⟩ = some (.slice A0_0 l0_0.length c0_0) := (blk_cell (blk_below HH.out hb1) 0).trans rfl; clear hb1 hok) | (go_at_call 53; refine (HIN.out _).mono ?_; rintro e w3 ⟨rfl, nn, hn⟩; have HBB := Aside0.mk (HB1.out.trans ((show Below w1.heap.size w1 w3 by rw [hn]; exact pw_below_drewN (Below.refl _ _) nn).mono HB1.out.size)); have hbk2 := blk_below HK.out HBB.out; have HBK2 := Aside0.mk hbk2; have HB3 := Aside0.mk (HB.out.trans (HBB.out.mono HB.out.size)); have h0 : w3.cell? ⟨w.heap.size + 1, 0, none⟩ = some (.slice none 0 0) := (blk_cell hbk2 0).trans rfl; have h1 : w3.cell? ⟨w.heap.size + 1, 1, none⟩ = some (.int .i64 0) := (blk_cell hbk2 1).trans rfl; have f0 := blk_frozen hbk2 0; have f1 := blk_frozen hbk2 1; clear hn hcz0 hbk2))
      refine bodyPost_ret (results_ct rfl _ _ (w.heap.size + 1) 28 #[.slice none 0 0, .int .i64 0] (0, 0) _ rfl (by refine blk_put (cs := #[.slice none 0 0, .int .i64 0]) ?_ 1 _ rfl; refine blk_put (cs := #[.slice none 0 0, .int .i64 0]) ?_ 0 _ rfl; exact HBK2.out) Try.underlying28 rfl (by kernel_rfl)) rfl ?_
      exact ⟨_, rfl, Kd.R_nil _ _ _ _ _, below_set (below_set HB3.out (Nat.le_succ _)) (Nat.le_succ _)⟩
end Go.Proofs.Ytobidghdmcobmaa.Q
