/- The contract of the program's GetRecord. Conditions: those before each theorem. -/
import Derived.Test.YtolffokfddjceaaQ3
import Derived.Test.YtolffokfddjceaaQ3
import Derived.Test.YtolffokfddjceaaRecOk
import Derived.Test.YtolffokfddjceaaDecNum
namespace Go.Proofs.Ytolffokfddjceaa.Q
open Go.RowKit Go.Proofs.YtolffokfddjceaaW.PrintWords Go.Proofs.YtolffokfddjceaaW.PrintMore Go.Proofs.YtolffokfddjceaaW.PrintLast
set_option linter.unusedVariables false
theorem validG_calls (a : ByteArray) (b c : Int) (d e : ByteArray) (w : World) : Calls Try.prog 52 #[.agg #[.string a, .int .i64 b, .int .i64 c, .string d, .string e]] w fun e_ w' => e_ = .returned (.bool (okRec a b c d e)) ∧ Below w.heap.size w w' :=
  impl_ValidRecord.calls 1 a b c d e _ w (implRec_eq 0 ..)
theorem idx_byteG (s : ByteArray) (i n : Nat) (hn : btN s i = n) : ∀ h : i < s.size, ((s[i]'h).toNat : Int) = (n : Int) := fun h => by rw [← bt_get s i h, btN_eq, hn]
abbrev T7 := ByteArray × Int × Int × ByteArray × ByteArray × Int × Bool
def zero7 : T7 := (⟨#[]⟩, 0, 0, ⟨#[]⟩, ⟨#[]⟩, 0, false)
/-- The answer out of the parts that were read. -/
def getR (key : ByteArray) (q z : Nat) (one : Bool) (ot : ByteArray) (two : Bool) (len : Int) : T7 :=
  if (one && two && okRec key (q : Int) (z : Int) (if (z : Int) = 3 then ((⟨#[]⟩ : ByteArray), ot) else (ot, (⟨#[]⟩ : ByteArray))).1 (if (z : Int) = 3 then ((⟨#[]⟩ : ByteArray), ot) else (ot, (⟨#[]⟩ : ByteArray))).2) = true
  then (key, (q : Int), (z : Int), (if (z : Int) = 3 then ((⟨#[]⟩ : ByteArray), ot) else (ot, (⟨#[]⟩ : ByteArray))).1, (if (z : Int) = 3 then ((⟨#[]⟩ : ByteArray), ot) else (ot, (⟨#[]⟩ : ByteArray))).2, len, true) else zero7
def impl_GetRecord.f (a0 : ByteArray) : Option T7 := if a0.size ≤ 1048576 then (if a0.size < 4 then some zero7 else (impl_getShort.f (a0.extract 4 a0.size)).bind fun t1 => (impl_getShort.f t1.2.1).bind fun t2 => some (getR t1.1 (numN (a0.extract 1 4) 3) (btN a0 0) t1.2.2 t2.1 t2.2.2 (wrap64 ((a0.size : Int) - (t2.2.1.size : Int))))) else none
set_option linter.unusedSimpArgs false in
set_option maxHeartbeats 8000000 in
set_option maxRecDepth 100000 in
theorem impl_GetRecord.calls (a0 : ByteArray) (r1 : ByteArray) (r2 r3 : Int) (r4 r5 : ByteArray) (r6 : Int) (r7 : Bool) (w : World) (h : impl_GetRecord.f a0 = some (r1, r2, r3, r4, r5, r6, r7)) :
    Calls Try.prog 24 #[.string a0] w fun e w' => e = .returned (.tuple #[.agg #[.string r1, .int .i64 r2, .int .i64 r3, .string r4, .string r5], .int .i64 r6, .bool r7]) ∧ Below w.heap.size w w' := by
  have hu := Try.underlying26
  unfold impl_GetRecord.f at h
  by_cases hs : a0.size ≤ 1048576
  · rw [if_pos hs] at h
    by_cases h4 : a0.size < 4
    · rw [if_pos h4] at h
      have hz := Option.some.inj h
      simp only [zero7, Prod.mk.injEq] at hz
      obtain ⟨rfl, rfl, rfl, rfl, rfl, rfl, rfl⟩ := hz
      have c4 : decide ((a0.size : Int) < 4) = true := decide_eq_true (by omega)
      have c4b : decide (a0.size < 4) = true := decide_eq_true h4
      clear h h4
      go_enter Try.func24, Try.ntmps24
      go_wp2
      refine bodyPost_ret (results_ctt rfl _ _ w.heap.size 26 #[.string (⟨#[]⟩ : ByteArray), .int .i64 0, .int .i64 0, .string (⟨#[]⟩ : ByteArray), .string (⟨#[]⟩ : ByteArray)] (0, 0) _ rfl (blk_new w _) Try.underlying26 rfl (by kernel_rfl)) rfl ?_
      exact ⟨rfl, (Below.refl _ w).alloc (Nat.le_refl _) _⟩
    · rw [if_neg h4] at h
      obtain ⟨⟨key, rst, one⟩, g1, h⟩ := Option.bind_eq_some_iff.1 h
      obtain ⟨⟨ot, rst2, two⟩, g2, h⟩ := Option.bind_eq_some_iff.1 h
      have hres : getR key (numN (a0.extract 1 4) 3) (btN a0 0) one ot two (wrap64 ((a0.size : Int) - (rst2.size : Int))) = (r1, r2, r3, r4, r5, r6, r7) := Option.some.inj h
      have h4z : (4 : Int) ≤ (a0.size : Int) := by omega
      have h4n : 4 ≤ a0.size := by omega
      have h0n : 0 < a0.size := by omega
      have c4 : decide ((a0.size : Int) < 4) = false := decide_eq_false (by omega)
      have c4b : decide (a0.size < 4) = false := decide_eq_false h4
      have hq3 : (a0.extract 1 4).size = 3 := by simp; omega
      obtain ⟨kd, hkd0⟩ := dec_ev (a0.extract 1 4) (by omega)
      have hkd : impl_DecodeFixed.f kd (a0.extract 1 4) = some ((numN (a0.extract 1 4) 3 : Nat) : Int) := by
        have := hkd0 kd (Nat.le_refl _)
        rw [hq3] at this
        exact this
      have hx0 := idx_byteG a0 0 (btN a0 0) rfl
      have hzl := btN_lt a0 0
      have hzw : wrap64 ((btN a0 0 : Nat) : Int) = ((btN a0 0 : Nat) : Int) := wrap64_id (by omega) (by omega)
      have HG1 : Aside0 (∀ W, Calls Try.prog 58 #[.string (a0.extract 4 a0.size)] W fun e w' => e = .returned (.tuple #[.string key, .string rst, .bool one]) ∧ Below W.heap.size W w') := ⟨fun W => (impl_getShort.calls _ key rst one W g1).mono fun e w' ⟨he, hd⟩ => ⟨he, hd.below⟩⟩
      have HG2 : Aside0 (∀ W, Calls Try.prog 58 #[.string rst] W fun e w' => e = .returned (.tuple #[.string ot, .string rst2, .bool two]) ∧ Below W.heap.size W w') := ⟨fun W => (impl_getShort.calls _ ot rst2 two W g2).mono fun e w' ⟨he, hd⟩ => ⟨he, hd.below⟩⟩
      have HBA : Aside0 (Below w.heap.size w (w.alloc (.cells #[.string (⟨#[]⟩ : ByteArray), .int .i64 0, .int .i64 0, .string (⟨#[]⟩ : ByteArray), .string (⟨#[]⟩ : ByteArray)] 26))) := ⟨(Below.refl _ w).alloc (Nat.le_refl _) _⟩
      have HRA : Aside0 ((w.alloc (.cells #[.string (⟨#[]⟩ : ByteArray), .int .i64 0, .int .i64 0, .string (⟨#[]⟩ : ByteArray), .string (⟨#[]⟩ : ByteArray)] 26)).heap[w.heap.size]? = some (.cells #[.string (⟨#[]⟩ : ByteArray), .int .i64 0, .int .i64 0, .string (⟨#[]⟩ : ByteArray), .string (⟨#[]⟩ : ByteArray)] 26 (0, 0))) := ⟨blk_new w _⟩
      clear h g1 g2 h4 hkd0 hq3 hzl
      have HKD := Aside0.mk hkd
      have HRS := Aside0.mk hres
      clear hkd hres
      generalize numN (a0.extract 1 4) 3 = q at HKD HRS
      generalize btN a0 0 = z at hx0 hzw HRS
      have hx := hx0 h0n
      go_enter Try.func24, Try.ntmps24
      go_wp2_with (first | (go_at_call 58; refine (HG1.out _).mono ?_; rintro e w1 ⟨rfl, hb1⟩; have HB1 := Aside0.mk (HBA.out.trans (hb1.mono HBA.out.size)); have HR1 := Aside0.mk (blk_below HRA.out hb1); clear hb1 HG1) | (go_at_call 58; refine (HG2.out _).mono ?_; rintro e w2 ⟨rfl, hb2⟩; have HB2 := Aside0.mk (HB1.out.trans (hb2.mono HB1.out.size)); have HR2 := Aside0.mk (blk_below HR1.out hb2); clear hb2 HG2))
      have HBD := Aside0.mk (below_drew1 HB2.out)
      have HRD := Aside0.mk (blk_drew HR2.out)
      clear HBA HRA HB1 HR1 HB2 HR2
      refine start_ (n := 11) (S := fun w' => True) (ds := []) #[false, false, false, false, false, false, false, false, false, false, false] (by kernel_rfl) rfl rfl trivial (fun hHeld => ?_)
      generalize w2.drew = w5 at HRD HBD hHeld ⊢
      refine pure_ (i := 0) (N := some 28) (v := ?_) (a' := ?_) #[true, false, false, false, false, false, false, false, false, false, false] rfl rfl (by kernel_rfl) (fun _ _ _ h => h) (Or.inl ⟨by rfl, ?_⟩) ?_ ?_
      rotate_left
      · intro w'
        go_simp
        with_reducible rfl
      rotate_left
      · simp only [Act.put, List.setIfInBounds_toArray, List.set_cons_zero, List.set_cons_succ, i64_w, i32_w]
        rfl
      refine pure_ (i := 1) (N := some 29) (v := ?_) (a' := ?_) #[true, true, false, false, false, false, false, false, false, false, false] rfl rfl (by kernel_rfl) (fun _ _ _ h => h) (Or.inl ⟨by rfl, ?_⟩) ?_ ?_
      rotate_left
      · intro w'
        go_simp
        with_reducible rfl
      rotate_left
      · simp only [Act.put, List.setIfInBounds_toArray, List.set_cons_zero, List.set_cons_succ, i64_w, i32_w]
        rfl
      refine pure_ (i := 2) (N := some 30) (v := ?_) (a' := ?_) #[true, true, true, false, false, false, false, false, false, false, false] rfl rfl (by kernel_rfl) (fun _ _ _ h => h) (Or.inl ⟨by rfl, ?_⟩) ?_ ?_
      rotate_left
      · intro w'
        go_simp
        with_reducible rfl
      rotate_left
      · simp only [Act.put, List.setIfInBounds_toArray, List.set_cons_zero, List.set_cons_succ, i64_w, i32_w]
        rfl
      refine pure_ (i := 4) (N := some 32) (v := ?_) (a' := ?_) #[true, true, true, false, true, false, false, false, false, false, false] rfl rfl (by kernel_rfl) (fun _ _ _ h => h) (Or.inl ⟨by rfl, ?_⟩) ?_ ?_
      rotate_left
      · intro w'
        go_simp
        with_reducible rfl
      rotate_left
      · simp only [Act.put, List.setIfInBounds_toArray, List.set_cons_zero, List.set_cons_succ, i64_w, i32_w]
        rfl
      refine pure_ (i := 7) (N := some 35) (v := ?_) (a' := ?_) #[true, true, true, false, true, false, false, true, false, false, false] rfl rfl (by kernel_rfl) (fun _ _ _ h => h) (Or.inl ⟨by rfl, ?_⟩) ?_ ?_
      rotate_left
      · intro w'
        go_simp
        with_reducible rfl
      rotate_left
      · simp only [Act.put, List.setIfInBounds_toArray, List.set_cons_zero, List.set_cons_succ, i64_w, i32_w]
        rfl
      refine take_ (i := 5) (N := some 33) (v := ?_) (a' := ?_) #[true, true, true, false, true, true, false, true, false, false, false] rfl rfl (by kernel_rfl) (fun _ _ _ h => h) (Or.inl ⟨by rfl, ?_⟩) hHeld ?_ ?_
      rotate_left
      · intro w' _
        go_simp
        with_reducible rfl
      rotate_left
      · simp only [Act.put, List.setIfInBounds_toArray, List.set_cons_zero, List.set_cons_succ, i64_w, i32_w]
        rfl
      refine pure_ (i := 6) (N := some 34) (v := ?_) (a' := ?_) #[true, true, true, false, true, true, true, true, false, false, false] rfl rfl (by kernel_rfl) (fun _ _ _ h => h) (Or.inl ⟨by rfl, ?_⟩) ?_ ?_
      rotate_left
      · intro w'
        go_simp
        with_reducible rfl
      rotate_left
      · simp only [Act.put, List.setIfInBounds_toArray, List.set_cons_zero, List.set_cons_succ, i64_w, i32_w]
        rfl
      refine join_ (σ := Nat) 1 #[true, true, true, true, true, true, true, true, true, true, false] (fun s_ => [(31, .int .i64 (q : Int)), (10, .pointer (some ⟨s_, 0, none⟩)), (36, .agg #[.string key, .int .i64 (q : Int), .int .i64 (z : Int), .string ot, .string (⟨#[]⟩ : ByteArray)])]) (fun s_ w' => (w'.heap[s_]? = some (.cells #[.string (⟨#[]⟩ : ByteArray), .int .i64 0, .int .i64 0, .string (⟨#[]⟩ : ByteArray), .string (⟨#[]⟩ : ByteArray)] 26 (0, 0))) ∧ (w.heap.size ≤ s_) ∧ (w.heap.size ≠ s_) ∧ (w'.heap[w.heap.size]? = some (.cells #[.string (⟨#[]⟩ : ByteArray), .int .i64 0, .int .i64 0, .string (⟨#[]⟩ : ByteArray), .string (⟨#[]⟩ : ByteArray)] 26 (0, 0))) ∧ (Below w.heap.size w w')) ?_ ?_
      rotate_left
      · intro hCont
        refine two_ (i := 3) (j := 9) (Ni := some 31) (Nj := some 10) #[true, true, true, true, true, true, true, true, false, false, false] #[true, true, true, false, true, true, true, true, false, true, false] rfl rfl rfl rfl (by kernel_rfl) (by decide) (by decide) (fun K hK => ?_) (fun K hK => ?_)
        · skip
          refine goes_ Try.func59 (by kernel_rfl) rfl #[.string (a0.extract 1 4)] (by rfl) rfl rfl (by (try simp only [List.map_toArray, List.map_cons, List.map_nil]); first | done | rfl) ?_
          with_reducible refine (impl_DecodeFixed.calls kd (a0.extract 1 4) (q : Int) _ HKD.out).mono ?_
          rintro e w' ⟨rfl, ⟨nd, rfl⟩⟩
          refine ⟨_, rfl, ?_⟩
          refine hK.out _ _ trivial (fun hHeld => ?_)
          clear hK K
          refine norm_ (a' := ?_) ?_ ?_
          rotate_left
          · show Act.put _ (some 31) _ = _
            simp only [Act.put, List.setIfInBounds_toArray, List.set_cons_zero, List.set_cons_succ, i64_w, i32_w]
            rfl
          refine pure_ (i := 8) (N := some 36) (v := ?_) (a' := ?_) #[true, true, true, true, true, true, true, true, true, false, false] rfl rfl (by kernel_rfl) (fun _ _ _ h => h) (Or.inl ⟨by rfl, ?_⟩) ?_ ?_
          rotate_left
          · intro w'
            go_simp
            with_reducible rfl
          rotate_left
          · simp only [Act.put, List.setIfInBounds_toArray, List.set_cons_zero, List.set_cons_succ, i64_w, i32_w]
            rfl
          refine one_ (i := 9) (N := some 10) #[true, true, true, true, true, true, true, true, true, true, false] rfl rfl (by kernel_rfl) (by decide) (fun K hK => ?_)
          refine box_step ?hg (N := 10) ?hd (cs := #[.string (⟨#[]⟩ : ByteArray), .int .i64 0, .int .i64 0, .string (⟨#[]⟩ : ByteArray), .string (⟨#[]⟩ : ByteArray)]) (t := 26) ?hr ?_; (case hd => rfl); (case hg => rfl); (case hr => first | (go_simp; done) | (go_simp; rfl))
          intro gb hg w7 hbox hb
          refine hK.out _ _ trivial (fun hHeld => ?_)
          clear hK K
          refine norm_ (a' := ?_) ?_ ?_
          rotate_left
          · show Act.put _ (some 10) _ = _
            simp only [Act.put, List.setIfInBounds_toArray, List.set_cons_zero, List.set_cons_succ, i64_w, i32_w]
            rfl
          exact norm_ (by simp only [putAll, Act.put, List.setIfInBounds_toArray, List.set_cons_zero, List.set_cons_succ]) (hCont gb _ ⟨hbox, (by rw [hg]; exact below_size (pw_below_drewN HBD.out nd)), (by rw [hg]; exact Nat.ne_of_lt (blk_lt (blk_drewN HRD.out nd))), (blk_below (blk_drewN HRD.out nd) hb), (below_step (pw_below_drewN HBD.out nd) hb)⟩)
        · skip
          refine box_step ?hg (N := 10) ?hd (cs := #[.string (⟨#[]⟩ : ByteArray), .int .i64 0, .int .i64 0, .string (⟨#[]⟩ : ByteArray), .string (⟨#[]⟩ : ByteArray)]) (t := 26) ?hr ?_; (case hd => rfl); (case hg => rfl); (case hr => first | (go_simp; done) | (go_simp; rfl))
          intro gb hg w7 hbox hb
          refine hK.out _ _ trivial (fun hHeld => ?_)
          clear hK K
          refine norm_ (a' := ?_) ?_ ?_
          rotate_left
          · show Act.put _ (some 10) _ = _
            simp only [Act.put, List.setIfInBounds_toArray, List.set_cons_zero, List.set_cons_succ, i64_w, i32_w]
            rfl
          refine one_ (i := 3) (N := some 31) #[true, true, true, true, true, true, true, true, false, true, false] rfl rfl (by kernel_rfl) (by decide) (fun K hK => ?_)
          refine goes_ Try.func59 (by kernel_rfl) rfl #[.string (a0.extract 1 4)] (by rfl) rfl rfl (by (try simp only [List.map_toArray, List.map_cons, List.map_nil]); first | done | rfl) ?_
          with_reducible refine (impl_DecodeFixed.calls kd (a0.extract 1 4) (q : Int) _ HKD.out).mono ?_
          rintro e w' ⟨rfl, ⟨nd, rfl⟩⟩
          refine ⟨_, rfl, ?_⟩
          refine hK.out _ _ trivial (fun hHeld => ?_)
          clear hK K
          refine norm_ (a' := ?_) ?_ ?_
          rotate_left
          · show Act.put _ (some 31) _ = _
            simp only [Act.put, List.setIfInBounds_toArray, List.set_cons_zero, List.set_cons_succ, i64_w, i32_w]
            rfl
          refine pure_ (i := 8) (N := some 36) (v := ?_) (a' := ?_) #[true, true, true, true, true, true, true, true, true, true, false] rfl rfl (by kernel_rfl) (fun _ _ _ h => h) (Or.inl ⟨by rfl, ?_⟩) ?_ ?_
          rotate_left
          · intro w'
            go_simp
            with_reducible rfl
          rotate_left
          · simp only [Act.put, List.setIfInBounds_toArray, List.set_cons_zero, List.set_cons_succ, i64_w, i32_w]
            rfl
          exact norm_ (by simp only [putAll, Act.put, List.setIfInBounds_toArray, List.set_cons_zero, List.set_cons_succ]) (hCont gb _ ⟨(blk_drewN hbox nd), (by rw [hg]; exact below_size HBD.out), (by rw [hg]; exact Nat.ne_of_lt (blk_lt HRD.out)), (blk_drewN (blk_below HRD.out hb) nd), (pw_below_drewN (below_step HBD.out hb) nd)⟩)
      rintro gb w7 ⟨hbx, hge, hne, hrx, hbw⟩
      clear HRD HBD
      have HBX := Aside0.mk hbx
      have HRX := Aside0.mk hrx
      have HGE := Aside0.mk hge
      have HNE := Aside0.mk hne
      have HBW := Aside0.mk hbw
      clear hbx hge hne hrx hbw
      have hHeld := trivial
      refine norm_ (a' := ?_) ?_ ?_
      rotate_left
      · simp only [putAll, Act.put, List.setIfInBounds_toArray, List.set_cons_zero, List.set_cons_succ]
        rfl
      refine one_ (i := 10) (N := none) #[true, true, true, true, true, true, true, true, true, true, true] rfl rfl (by kernel_rfl) (by decide) (fun K hK => ?_)
      have hs0 : w7.cell? ⟨gb, 0, none⟩ = some (.string (⟨#[]⟩ : ByteArray)) := (blk_cell HBX.out 0).trans rfl
      have hf0 := blk_frozen HBX.out 0
      have hs1 : w7.cell? ⟨gb, 1, none⟩ = some (.int .i64 0) := (blk_cell HBX.out 1).trans rfl
      have hf1 := blk_frozen HBX.out 1
      have hs2 : w7.cell? ⟨gb, 2, none⟩ = some (.int .i64 0) := (blk_cell HBX.out 2).trans rfl
      have hf2 := blk_frozen HBX.out 2
      have hs3 : w7.cell? ⟨gb, 3, none⟩ = some (.string (⟨#[]⟩ : ByteArray)) := (blk_cell HBX.out 3).trans rfl
      have hf3 := blk_frozen HBX.out 3
      have hs4 : w7.cell? ⟨gb, 4, none⟩ = some (.string (⟨#[]⟩ : ByteArray)) := (blk_cell HBX.out 4).trans rfl
      have hf4 := blk_frozen HBX.out 4
      refine skip_ (w1 := ?_) (by rfl) rfl ?_ ?_
      rotate_left
      · go_simp
        rfl
      refine hK.out _ _ trivial (fun hHeld => ?_)
      clear hK K
      refine done_ (by kernel_rfl) ?_
      have HK1 : Aside0 ((((((w7.setCell ⟨gb, 0, none⟩ (.string key)).setCell ⟨gb, 1, none⟩ (.int .i64 (q : Int))).setCell ⟨gb, 2, none⟩ (.int .i64 (z : Int))).setCell ⟨gb, 3, none⟩ (.string ot)).setCell ⟨gb, 4, none⟩ (.string (⟨#[]⟩ : ByteArray))).heap[gb]? = some (.cells #[.string key, .int .i64 (q : Int), .int .i64 (z : Int), .string ot, .string (⟨#[]⟩ : ByteArray)] 26 (0, 0))) := ⟨(blk_put (cs' := #[.string key, .int .i64 (q : Int), .int .i64 (z : Int), .string ot, .string (⟨#[]⟩ : ByteArray)]) (blk_put (cs' := #[.string key, .int .i64 (q : Int), .int .i64 (z : Int), .string ot, .string (⟨#[]⟩ : ByteArray)]) (blk_put (cs' := #[.string key, .int .i64 (q : Int), .int .i64 (z : Int), .string (⟨#[]⟩ : ByteArray), .string (⟨#[]⟩ : ByteArray)]) (blk_put (cs' := #[.string key, .int .i64 (q : Int), .int .i64 0, .string (⟨#[]⟩ : ByteArray), .string (⟨#[]⟩ : ByteArray)]) (blk_put (cs' := #[.string key, .int .i64 0, .int .i64 0, .string (⟨#[]⟩ : ByteArray), .string (⟨#[]⟩ : ByteArray)]) HBX.out 0 (.string key) rfl) 1 (.int .i64 (q : Int)) rfl) 2 (.int .i64 (z : Int)) rfl) 3 (.string ot) rfl) 4 (.string (⟨#[]⟩ : ByteArray)) rfl)⟩
      have HR1 : Aside0 ((((((w7.setCell ⟨gb, 0, none⟩ (.string key)).setCell ⟨gb, 1, none⟩ (.int .i64 (q : Int))).setCell ⟨gb, 2, none⟩ (.int .i64 (z : Int))).setCell ⟨gb, 3, none⟩ (.string ot)).setCell ⟨gb, 4, none⟩ (.string (⟨#[]⟩ : ByteArray))).heap[w.heap.size]? = some (.cells #[.string (⟨#[]⟩ : ByteArray), .int .i64 0, .int .i64 0, .string (⟨#[]⟩ : ByteArray), .string (⟨#[]⟩ : ByteArray)] 26 (0, 0))) := ⟨(blk_far (blk_far (blk_far (blk_far (blk_far HRX.out HNE.out _) HNE.out _) HNE.out _) HNE.out _) HNE.out _)⟩
      have HB1 : Aside0 (Below w.heap.size w (((((w7.setCell ⟨gb, 0, none⟩ (.string key)).setCell ⟨gb, 1, none⟩ (.int .i64 (q : Int))).setCell ⟨gb, 2, none⟩ (.int .i64 (z : Int))).setCell ⟨gb, 3, none⟩ (.string ot)).setCell ⟨gb, 4, none⟩ (.string (⟨#[]⟩ : ByteArray)))) := ⟨(below_set (below_set (below_set (below_set (below_set HBW.out HGE.out) HGE.out) HGE.out) HGE.out) HGE.out)⟩
      clear HBX HRX HBW hHeld hs0 hf0 hs1 hf1 hs2 hf2 hs3 hf3 hs4 hf4
      generalize (((((w7.setCell ⟨gb, 0, none⟩ (.string key)).setCell ⟨gb, 1, none⟩ (.int .i64 (q : Int))).setCell ⟨gb, 2, none⟩ (.int .i64 (z : Int))).setCell ⟨gb, 3, none⟩ (.string ot)).setCell ⟨gb, 4, none⟩ (.string (⟨#[]⟩ : ByteArray))) = W1 at HK1 HR1 HB1 ⊢
      have k0 : W1.cell? ⟨gb, 0, none⟩ = some (.string key) := (blk_cell HK1.out 0).trans rfl
      have g0 := blk_frozen HK1.out 0
      have k1 : W1.cell? ⟨gb, 1, none⟩ = some (.int .i64 (q : Int)) := (blk_cell HK1.out 1).trans rfl
      have g1 := blk_frozen HK1.out 1
      have k2 : W1.cell? ⟨gb, 2, none⟩ = some (.int .i64 (z : Int)) := (blk_cell HK1.out 2).trans rfl
      have g2 := blk_frozen HK1.out 2
      have k3 : W1.cell? ⟨gb, 3, none⟩ = some (.string ot) := (blk_cell HK1.out 3).trans rfl
      have g3 := blk_frozen HK1.out 3
      have k4 : W1.cell? ⟨gb, 4, none⟩ = some (.string (⟨#[]⟩ : ByteArray)) := (blk_cell HK1.out 4).trans rfl
      have g4 := blk_frozen HK1.out 4
      go_upto_if 39 with fail
      go_cut [] (fun wx => ∃ (v3 v4 : ByteArray), Aside0 ((if (z : Int) = 3 then ((⟨#[]⟩ : ByteArray), ot) else (ot, (⟨#[]⟩ : ByteArray))) = (v3, v4)) ∧ Aside0 (wx.heap[gb]? = some (.cells #[.string key, .int .i64 (q : Int), .int .i64 (z : Int), .string v3, .string v4] 26 (0, 0))) ∧ Aside0 (wx.heap[w.heap.size]? = some (.cells #[.string (⟨#[]⟩ : ByteArray), .int .i64 0, .int .i64 0, .string (⟨#[]⟩ : ByteArray), .string (⟨#[]⟩ : ByteArray)] 26 (0, 0))) ∧ Aside0 (Below w.heap.size w wx))
      case first =>
        by_cases z3 : (z : Int) = 3
        · have h39 : ((z : Int) == 3) = true := beq_iff_eq.2 z3
          go_wp2
          go_meet
          case rel => exact ⟨(⟨#[]⟩ : ByteArray), ot, ⟨if_pos z3⟩, ⟨blk_put (cs' := #[.string key, .int .i64 (q : Int), .int .i64 (z : Int), .string (⟨#[]⟩ : ByteArray), .string ot]) (blk_put (cs' := #[.string key, .int .i64 (q : Int), .int .i64 (z : Int), .string (⟨#[]⟩ : ByteArray), .string (⟨#[]⟩ : ByteArray)]) HK1.out 3 (.string (⟨#[]⟩ : ByteArray)) rfl) 4 (.string ot) rfl⟩, ⟨blk_far (blk_far HR1.out HNE.out _) HNE.out _⟩, ⟨below_set (below_set HB1.out HGE.out) HGE.out⟩⟩
        · have h39 : ((z : Int) == 3) = false := beq_eq_false_iff_ne.2 z3
          go_wp2
          go_meet
          case rel => exact ⟨ot, (⟨#[]⟩ : ByteArray), ⟨if_neg z3⟩, HK1, HR1, HB1⟩
      case rest =>
        obtain ⟨v3, v4, HV, HKx, HRr, HBr⟩ := hcut
        clear HK1 HR1 HB1 k0 g0 k1 g1 k2 g2 k3 g3 k4 g4
        obtain ⟨wv, hwv⟩ : ∃ b : Bool, okRec key (q : Int) (z : Int) v3 v4 = b := ⟨_, rfl⟩
        have HVAL := Aside0.mk (fun W => validG_calls key (q : Int) (z : Int) v3 v4 W)
        rw [hwv] at HVAL
        have HWV := Aside0.mk hwv
        clear hwv
        have k0 : _ = some (Value.string key) := (blk_cell HKx.out 0).trans rfl
        have k1 : _ = some (Value.int .i64 (q : Int)) := (blk_cell HKx.out 1).trans rfl
        have k2 : _ = some (Value.int .i64 (z : Int)) := (blk_cell HKx.out 2).trans rfl
        have k3 : _ = some (Value.string v3) := (blk_cell HKx.out 3).trans rfl
        have k4 : _ = some (Value.string v4) := (blk_cell HKx.out 4).trans rfl
        have HG : getR key q z one ot two (wrap64 ((a0.size : Int) - (rst2.size : Int))) = if (one && two && wv) = true then (key, (q : Int), (z : Int), v3, v4, wrap64 ((a0.size : Int) - (rst2.size : Int)), true) else zero7 := by unfold getR; rw [HV.out, HWV.out]
        rw [HRS.out] at HG
        clear HRS HV HWV
        have r0_ : _ = some (Value.string (⟨#[]⟩ : ByteArray)) := (blk_cell HRr.out 0).trans rfl
        have s0_ := blk_frozen HRr.out 0
        have r1_ : _ = some (Value.int .i64 0) := (blk_cell HRr.out 1).trans rfl
        have s1_ := blk_frozen HRr.out 1
        have r2_ : _ = some (Value.int .i64 0) := (blk_cell HRr.out 2).trans rfl
        have s2_ := blk_frozen HRr.out 2
        have r3_ : _ = some (Value.string (⟨#[]⟩ : ByteArray)) := (blk_cell HRr.out 3).trans rfl
        have s3_ := blk_frozen HRr.out 3
        have r4_ : _ = some (Value.string (⟨#[]⟩ : ByteArray)) := (blk_cell HRr.out 4).trans rfl
        have s4_ := blk_frozen HRr.out 4
        cases one with
        | false =>
          rw [if_neg (by simp)] at HG
          simp only [zero7, Prod.mk.injEq] at HG
          obtain ⟨rfl, rfl, rfl, rfl, rfl, rfl, rfl⟩ := HG
          go_wp2
          refine bodyPost_ret (results_ctt rfl _ _ w.heap.size 26 #[.string (⟨#[]⟩ : ByteArray), .int .i64 0, .int .i64 0, .string (⟨#[]⟩ : ByteArray), .string (⟨#[]⟩ : ByteArray)] (0, 0) _ rfl (blk_put (cs' := #[.string (⟨#[]⟩ : ByteArray), .int .i64 0, .int .i64 0, .string (⟨#[]⟩ : ByteArray), .string (⟨#[]⟩ : ByteArray)]) (blk_put (cs' := #[.string (⟨#[]⟩ : ByteArray), .int .i64 0, .int .i64 0, .string (⟨#[]⟩ : ByteArray), .string (⟨#[]⟩ : ByteArray)]) (blk_put (cs' := #[.string (⟨#[]⟩ : ByteArray), .int .i64 0, .int .i64 0, .string (⟨#[]⟩ : ByteArray), .string (⟨#[]⟩ : ByteArray)]) (blk_put (cs' := #[.string (⟨#[]⟩ : ByteArray), .int .i64 0, .int .i64 0, .string (⟨#[]⟩ : ByteArray), .string (⟨#[]⟩ : ByteArray)]) (blk_put (cs' := #[.string (⟨#[]⟩ : ByteArray), .int .i64 0, .int .i64 0, .string (⟨#[]⟩ : ByteArray), .string (⟨#[]⟩ : ByteArray)]) (HRr.out) 0 _ rfl) 1 _ rfl) 2 _ rfl) 3 _ rfl) 4 _ rfl) Try.underlying26 rfl (by kernel_rfl)) rfl ?_
          exact ⟨rfl, (below_set (below_set (below_set (below_set (below_set HBr.out (Nat.le_refl _)) (Nat.le_refl _)) (Nat.le_refl _)) (Nat.le_refl _)) (Nat.le_refl _))⟩
        | true =>
          cases two with
          | false =>
            rw [if_neg (by simp)] at HG
            simp only [zero7, Prod.mk.injEq] at HG
            obtain ⟨rfl, rfl, rfl, rfl, rfl, rfl, rfl⟩ := HG
            go_wp2
            refine bodyPost_ret (results_ctt rfl _ _ w.heap.size 26 #[.string (⟨#[]⟩ : ByteArray), .int .i64 0, .int .i64 0, .string (⟨#[]⟩ : ByteArray), .string (⟨#[]⟩ : ByteArray)] (0, 0) _ rfl (blk_put (cs' := #[.string (⟨#[]⟩ : ByteArray), .int .i64 0, .int .i64 0, .string (⟨#[]⟩ : ByteArray), .string (⟨#[]⟩ : ByteArray)]) (blk_put (cs' := #[.string (⟨#[]⟩ : ByteArray), .int .i64 0, .int .i64 0, .string (⟨#[]⟩ : ByteArray), .string (⟨#[]⟩ : ByteArray)]) (blk_put (cs' := #[.string (⟨#[]⟩ : ByteArray), .int .i64 0, .int .i64 0, .string (⟨#[]⟩ : ByteArray), .string (⟨#[]⟩ : ByteArray)]) (blk_put (cs' := #[.string (⟨#[]⟩ : ByteArray), .int .i64 0, .int .i64 0, .string (⟨#[]⟩ : ByteArray), .string (⟨#[]⟩ : ByteArray)]) (blk_put (cs' := #[.string (⟨#[]⟩ : ByteArray), .int .i64 0, .int .i64 0, .string (⟨#[]⟩ : ByteArray), .string (⟨#[]⟩ : ByteArray)]) (HRr.out) 0 _ rfl) 1 _ rfl) 2 _ rfl) 3 _ rfl) 4 _ rfl) Try.underlying26 rfl (by kernel_rfl)) rfl ?_
            exact ⟨rfl, (below_set (below_set (below_set (below_set (below_set HBr.out (Nat.le_refl _)) (Nat.le_refl _)) (Nat.le_refl _)) (Nat.le_refl _)) (Nat.le_refl _))⟩
          | true =>
            cases wv with
            | false =>
              rw [if_neg (by simp)] at HG
              simp only [zero7, Prod.mk.injEq] at HG
              obtain ⟨rfl, rfl, rfl, rfl, rfl, rfl, rfl⟩ := HG
              go_wp2_with (go_at_call 52; refine (HVAL.out _).mono ?_; rintro e wy ⟨rfl, hby⟩; have HRy := Aside0.mk (blk_below HRr.out hby); have HKy := Aside0.mk (blk_below HKx.out hby); have HBy := Aside0.mk (HBr.out.trans (hby.mono HBr.out.size)); have y0 : wy.cell? ⟨w.heap.size, 0, none⟩ = some (.string (⟨#[]⟩ : ByteArray)) := (blk_cell HRy.out 0).trans rfl; have z0_ := blk_frozen HRy.out 0; have y1 : wy.cell? ⟨w.heap.size, 1, none⟩ = some (.int .i64 0) := (blk_cell HRy.out 1).trans rfl; have z1_ := blk_frozen HRy.out 1; have y2 : wy.cell? ⟨w.heap.size, 2, none⟩ = some (.int .i64 0) := (blk_cell HRy.out 2).trans rfl; have z2_ := blk_frozen HRy.out 2; have y3 : wy.cell? ⟨w.heap.size, 3, none⟩ = some (.string (⟨#[]⟩ : ByteArray)) := (blk_cell HRy.out 3).trans rfl; have z3_ := blk_frozen HRy.out 3; have y4 : wy.cell? ⟨w.heap.size, 4, none⟩ = some (.string (⟨#[]⟩ : ByteArray)) := (blk_cell HRy.out 4).trans rfl; have z4_ := blk_frozen HRy.out 4; have x0 : wy.cell? ⟨gb, 0, none⟩ = some (.string key) := (blk_cell HKy.out 0).trans rfl; have x1 : wy.cell? ⟨gb, 1, none⟩ = some (.int .i64 (q : Int)) := (blk_cell HKy.out 1).trans rfl; have x2 : wy.cell? ⟨gb, 2, none⟩ = some (.int .i64 (z : Int)) := (blk_cell HKy.out 2).trans rfl; have x3 : wy.cell? ⟨gb, 3, none⟩ = some (.string v3) := (blk_cell HKy.out 3).trans rfl; have x4 : wy.cell? ⟨gb, 4, none⟩ = some (.string v4) := (blk_cell HKy.out 4).trans rfl; clear hby HRr HKx HBr)
              refine bodyPost_ret (results_ctt rfl _ _ w.heap.size 26 #[.string (⟨#[]⟩ : ByteArray), .int .i64 0, .int .i64 0, .string (⟨#[]⟩ : ByteArray), .string (⟨#[]⟩ : ByteArray)] (0, 0) _ rfl (blk_put (cs' := #[.string (⟨#[]⟩ : ByteArray), .int .i64 0, .int .i64 0, .string (⟨#[]⟩ : ByteArray), .string (⟨#[]⟩ : ByteArray)]) (blk_put (cs' := #[.string (⟨#[]⟩ : ByteArray), .int .i64 0, .int .i64 0, .string (⟨#[]⟩ : ByteArray), .string (⟨#[]⟩ : ByteArray)]) (blk_put (cs' := #[.string (⟨#[]⟩ : ByteArray), .int .i64 0, .int .i64 0, .string (⟨#[]⟩ : ByteArray), .string (⟨#[]⟩ : ByteArray)]) (blk_put (cs' := #[.string (⟨#[]⟩ : ByteArray), .int .i64 0, .int .i64 0, .string (⟨#[]⟩ : ByteArray), .string (⟨#[]⟩ : ByteArray)]) (blk_put (cs' := #[.string (⟨#[]⟩ : ByteArray), .int .i64 0, .int .i64 0, .string (⟨#[]⟩ : ByteArray), .string (⟨#[]⟩ : ByteArray)]) (HRy.out) 0 _ rfl) 1 _ rfl) 2 _ rfl) 3 _ rfl) 4 _ rfl) Try.underlying26 rfl (by kernel_rfl)) rfl ?_
              exact ⟨rfl, (below_set (below_set (below_set (below_set (below_set HBy.out (Nat.le_refl _)) (Nat.le_refl _)) (Nat.le_refl _)) (Nat.le_refl _)) (Nat.le_refl _))⟩
            | true =>
              rw [if_pos (show (true && true && true) = true from rfl)] at HG
              simp only [Prod.mk.injEq] at HG
              obtain ⟨e1, e2, e3, e4, e5, e6, e7⟩ := HG
              replace e1 := e1.symm
              subst e1
              replace e2 := e2.symm
              subst e2
              replace e3 := e3.symm
              subst e3
              replace e4 := e4.symm
              subst e4
              replace e5 := e5.symm
              subst e5
              replace e6 := e6.symm
              subst e6
              replace e7 := e7.symm
              subst e7
              go_wp2_with (go_at_call 52; refine (HVAL.out _).mono ?_; rintro e wy ⟨rfl, hby⟩; have HRy := Aside0.mk (blk_below HRr.out hby); have HKy := Aside0.mk (blk_below HKx.out hby); have HBy := Aside0.mk (HBr.out.trans (hby.mono HBr.out.size)); have y0 : wy.cell? ⟨w.heap.size, 0, none⟩ = some (.string (⟨#[]⟩ : ByteArray)) := (blk_cell HRy.out 0).trans rfl; have z0_ := blk_frozen HRy.out 0; have y1 : wy.cell? ⟨w.heap.size, 1, none⟩ = some (.int .i64 0) := (blk_cell HRy.out 1).trans rfl; have z1_ := blk_frozen HRy.out 1; have y2 : wy.cell? ⟨w.heap.size, 2, none⟩ = some (.int .i64 0) := (blk_cell HRy.out 2).trans rfl; have z2_ := blk_frozen HRy.out 2; have y3 : wy.cell? ⟨w.heap.size, 3, none⟩ = some (.string (⟨#[]⟩ : ByteArray)) := (blk_cell HRy.out 3).trans rfl; have z3_ := blk_frozen HRy.out 3; have y4 : wy.cell? ⟨w.heap.size, 4, none⟩ = some (.string (⟨#[]⟩ : ByteArray)) := (blk_cell HRy.out 4).trans rfl; have z4_ := blk_frozen HRy.out 4; have x0 : wy.cell? ⟨gb, 0, none⟩ = some (.string key) := (blk_cell HKy.out 0).trans rfl; have x1 : wy.cell? ⟨gb, 1, none⟩ = some (.int .i64 (q : Int)) := (blk_cell HKy.out 1).trans rfl; have x2 : wy.cell? ⟨gb, 2, none⟩ = some (.int .i64 (z : Int)) := (blk_cell HKy.out 2).trans rfl; have x3 : wy.cell? ⟨gb, 3, none⟩ = some (.string v3) := (blk_cell HKy.out 3).trans rfl; have x4 : wy.cell? ⟨gb, 4, none⟩ = some (.string v4) := (blk_cell HKy.out 4).trans rfl; clear hby HRr HKx HBr)
              refine bodyPost_ret (results_ctt rfl _ _ w.heap.size 26 #[.string key, .int .i64 (q : Int), .int .i64 (z : Int), .string v3, .string v4] (0, 0) _ rfl (blk_put (cs' := #[.string key, .int .i64 (q : Int), .int .i64 (z : Int), .string v3, .string v4]) (blk_put (cs' := #[.string key, .int .i64 (q : Int), .int .i64 (z : Int), .string v3, .string (⟨#[]⟩ : ByteArray)]) (blk_put (cs' := #[.string key, .int .i64 (q : Int), .int .i64 (z : Int), .string (⟨#[]⟩ : ByteArray), .string (⟨#[]⟩ : ByteArray)]) (blk_put (cs' := #[.string key, .int .i64 (q : Int), .int .i64 0, .string (⟨#[]⟩ : ByteArray), .string (⟨#[]⟩ : ByteArray)]) (blk_put (cs' := #[.string key, .int .i64 0, .int .i64 0, .string (⟨#[]⟩ : ByteArray), .string (⟨#[]⟩ : ByteArray)]) (HRy.out) 0 _ rfl) 1 _ rfl) 2 _ rfl) 3 _ rfl) 4 _ rfl) Try.underlying26 rfl (by kernel_rfl)) rfl ?_
              exact ⟨rfl, (below_set (below_set (below_set (below_set (below_set HBy.out (Nat.le_refl _)) (Nat.le_refl _)) (Nat.le_refl _)) (Nat.le_refl _)) (Nat.le_refl _))⟩
  · rw [if_neg hs] at h
    cases h
end Go.Proofs.Ytolffokfddjceaa.Q
