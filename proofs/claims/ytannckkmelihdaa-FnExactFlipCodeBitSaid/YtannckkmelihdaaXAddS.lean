/- The contract of the specification's l21Add: a filter with a key. Conditions: those before each theorem. -/
import Derived.Test.YtannckkmelihdaaXBytes
import Derived.Test.YtannckkmelihdaaNum
import Derived.Test.YtannckkmelihdaaQ1
namespace Go.Proofs.Ytannckkmelihdaa.Q
open Go.RowKit Go.Proofs.YtannckkmelihdaaW.PrintWords Go.Proofs.YtannckkmelihdaaW.PrintMore Go.Proofs.YtannckkmelihdaaW.PrintLast
set_option linter.unusedVariables false
/-- The bytes of a filter with one more bit. -/
def setB (bs : List Int) (p : Int) : List Int := bs.set (p / 8).toNat (Go.bits .or .u8 (bs.getD (p / 8).toNat 0) (IntKind.u8.wrap (2 ^ (p % 8).toNat)))
def addL (f : ByteArray) (l : List Int) (i : Nat) : List Int := (l.take i).foldl setB (bytesOf f)
theorem addL_succ (f : ByteArray) (l : List Int) (i : Nat) (h : i < l.length) : addL f l (i + 1) = setB (addL f l i) (rd l (i : Int)) := by
  unfold addL
  rw [List.take_succ_eq_append_getElem h, List.foldl_append]
  simp [rd, h]
/-- A filter with the bits of some places. -/
def addF (f : ByteArray) (l : List Int) : Option ByteArray := if f.size ≤ 1000000000 then (if (l.all fun b => decide (0 ≤ b ∧ b < 8 * (f.size : Int))) = true then some (strOfNums (addL f l l.length)) else none) else none
theorem u64_small : ∀ r : Nat, r < 8 → IntKind.u64.wrap (r : Int) = (r : Int) := by decide
theorem bit_place (p : Int) (n : Nat) (h0 : 0 ≤ p) (h1 : p < 8 * (n : Int)) (hn : n ≤ 1000000000) : ∃ q r : Nat, (p / 8).toNat = q ∧ (p % 8).toNat = r ∧ wrap64 (p.tdiv 8) = (q : Int) ∧ p.tmod 8 = (r : Int) ∧ q < n ∧ r < 8 := by
  refine ⟨(p / 8).toNat, (p % 8).toNat, rfl, rfl, ?_, ?_, by omega, by omega⟩
  · rw [Int.tdiv_eq_ediv_of_nonneg h0, wrap64_id (by omega) (by omega)]
    omega
  · rw [Int.tmod_eq_emod_of_nonneg h0]
    omega
def spec_l21Add.f (k : Nat) (a0 a1 : ByteArray) : Option ByteArray := (spec_l21Probes.f k a1 (a0.size : Int)).bind fun l => addF a0 l
theorem spec_l21Add.mono : ∀ a0 a1 k, LeO (spec_l21Add.f k a0 a1) (spec_l21Add.f (k + 1) a0 a1) := fun a0 a1 k => LeO.bind (spec_l21Probes.mono a1 (a0.size : Int) k) (fun _ => LeO.refl _)
set_option linter.unusedSimpArgs false in
set_option maxHeartbeats 2000000 in
set_option maxRecDepth 100000 in
theorem spec_l21Add.calls (k : Nat) (a0 a1 : ByteArray) (r : ByteArray) (w : World) (h : spec_l21Add.f k a0 a1 = some r) :
    Calls Try.prog 68 #[.string a0, .string a1] w fun e w' => e = .returned (.string r) ∧ Below w.heap.size w w' := by
  obtain ⟨l, h1, h2⟩ := Option.bind_eq_some_iff.1 h
  unfold addF at h2
  by_cases hsz : a0.size ≤ 1000000000
  · rw [if_pos hsz] at h2
    by_cases ha : (l.all fun b => decide (0 ≤ b ∧ b < 8 * (a0.size : Int))) = true
    · rw [if_pos ha] at h2
      obtain rfl := Option.some.inj h2
      have HIN : Aside0 (∀ b ∈ l, 0 ≤ b ∧ b < 8 * (a0.size : Int)) := ⟨fun b hb => by simpa using List.all_eq_true.1 ha b hb⟩
      have HPR : Aside0 (∀ W, Calls Try.prog 74 #[.string a1, .int .i64 (a0.size : Int)] W fun e w' => ∃ v0_ : Value, e = .returned v0_ ∧ Kd.R (Kd.int .i64) 2 w' W.heap.size (fun _ => True) v0_ l ∧ Below W.heap.size W w') := ⟨fun W => spec_l21Probes.calls k a1 (a0.size : Int) l W h1⟩
      have hszb : a0.size ≤ 9223372036854775807 := by omega
      have HB0 := Aside0.mk (bytes_below (Below.refl w.heap.size w) (Nat.le_refl _) 5 a0)
      have HR0 := Aside0.mk (brow_start w 5 a0)
      clear h h1 h2 ha
      have kb := fun W => print_bytes (P := Try.prog) 9 63 5 Try.underlying9 Try.underlying63 Try.underlying5 a0 W
      go_enter Try.func68, Try.ntmps68
      go_wp2_with (go_at_call 74; refine (HPR.out _).mono ?_; rintro e w3 ⟨v, rfl, hv, hb⟩; obtain ⟨A, c, rfl⟩ := Kd.R_slice hv; have HV := Aside0.mk hv; have HB3 := Aside0.mk hb; clear hv hb)
      have HR3 := Aside0.mk (brow_keep HR0.out HB3.out (brow_lt HR0.out))
      have HBW := Aside0.mk (HB0.out.trans (HB3.out.mono HB0.out.size))
      have HLT := Aside0.mk (brow_lt HR0.out)
      generalize hW1 : Lib.bytesWorld w 5 a0 = W1 at HV HB3 HLT
      have hcapl := (Kd.R_reads' HV.out).2.2.2.1
      clear kb hW1
      go_loopg [7] l.length (fun gg s7 wr => ∃ kk : Nat, s7 = .int .i64 (kk : Int) ∧ kk ≤ l.length ∧ l.length - kk ≤ gg ∧ Aside0 (Below w.heap.size w wr) ∧ Aside0 (∀ q, q < w3.heap.size → q ≠ w.heap.size → wr.heap[q]? = w3.heap[q]?) ∧ Aside0 (BRow wr w.heap.size 5 a0.size (addL a0 l kk)))
      case atStart => exact ⟨0, rfl, Nat.zero_le _, by omega, HBW, ⟨fun q _ _ => rfl⟩, HR3⟩
      case round =>
        obtain ⟨kk, rfl, hkk, hgg, HB, HK, HR⟩ := hrel
        clear HR3 HBW
        by_cases hlt : kk < l.length
        · have hlti : (kk : Int) < (l.length : Int) := by omega
          obtain ⟨gb, rfl⟩ : ∃ gb, A = some ⟨gb, 0, none⟩ := by
            obtain ⟨gb, cb, hv, _⟩ := Kd.R_form HV.out (by omega)
            injection hv with ha
            exact ⟨gb, ha⟩
          have hbg : W1.heap.size ≤ gb := Kd.R_base HV.out gb (by simp [Value.ownBlock])
          obtain ⟨ad, hA, hcell⟩ := Kd.at_int (Kd.R_reads' HV.out).2.2 (kk : Int) (by omega) (by omega)
          obtain rfl := Option.some.inj hA
          rw [Int.toNat_natCast, add_plain] at hcell
          have hgb3 := World.block_lt_of_cell? w3 _ hcell
          have hcellr : wr.cell? ⟨gb, kk, none⟩ = some (.int .i64 (rd l (kk : Int))) := (World.cell?_of_block (a := ⟨gb, kk, none⟩) (HK.out gb hgb3 (by have := HLT.out; omega))).trans hcell
          have hp := HIN.out (rd l (kk : Int)) (by rw [show rd l (kk : Int) = l[kk] from by simp [rd, hlt]]; exact List.getElem_mem hlt)
          have HS := Aside0.mk (addL_succ a0 l kk hlt)
          clear hcell
          generalize rd l (kk : Int) = p at hcellr hp HS
          obtain ⟨hp0, hp1⟩ := hp
          obtain ⟨qn, rn, hq, hr, hq2, hr2, hqn, hrn⟩ := bit_place p a0.size hp0 hp1 hsz
          have hqz : (qn : Int) < (a0.size : Int) := by omega
          have hr3 := u64_small rn hrn
          have hr4 : min rn 8 = rn := by omega
          have hS : (addL a0 l kk).set qn (Go.bits .or .u8 ((addL a0 l kk).getD qn 0) (IntKind.u8.wrap (2 ^ rn))) = addL a0 l (kk + 1) := by rw [HS.out]; unfold setB; rw [hq, hr]
          have HS2 := Aside0.mk hS
          obtain ⟨e0, f0⟩ := brow_cell HR.out qn hqn
          have HN := Aside0.mk (brow_set HR.out qn hqn (Go.bits .or .u8 ((addL a0 l kk).getD qn 0) (IntKind.u8.wrap (2 ^ rn))))
          have HW2 := Aside0.mk (fun v => brow_below (g := w.heap.size) (j := qn) (v := v) HB.out (Nat.le_refl _))
          have HK2 : Aside0 (∀ v q, q < w3.heap.size → q ≠ w.heap.size → (wr.setCell ⟨w.heap.size, qn, none⟩ v).heap[q]? = w3.heap[q]?) := ⟨fun v q h1 h2 => (heap_setCell_other wr _ q v h2).trans (HK.out q h1 h2)⟩
          clear HS hS hp0 hp1 hq hr
          generalize (addL a0 l kk).getD qn 0 = y at e0 HN HS2
          go_wp2_with fail
          refine start_ (n := 18) (S := fun w' => w'.cell? ⟨gb, kk, none⟩ = some (.int .i64 p) ∧ w'.cell? ⟨w.heap.size, qn, none⟩ = some (.int .u8 y) ∧ w'.frozen? ⟨w.heap.size, qn, none⟩ = false) (ds := [17]) #[false, false, false, false, false, false, false, false, false, false, false, false, false, false, false, false, false, false] (by kernel_rfl) rfl rfl ⟨hcellr, e0, f0⟩ (fun hHeld => ?_)
          refine pure_ (i := 0) (N := some 20) (v := ?_) (a' := ?_) #[true, false, false, false, false, false, false, false, false, false, false, false, false, false, false, false, false, false] rfl rfl (by kernel_rfl) (fun _ _ _ h => h) (Or.inl ⟨by rfl, ?_⟩) ?_ ?_
          rotate_left
          · intro w'
            go_simp
            with_reducible rfl
          rotate_left
          · simp only [Act.put, List.setIfInBounds_toArray, List.set_cons_zero, List.set_cons_succ, i64_w, i32_w]
            rfl
          refine pure_ (i := 1) (N := some 21) (v := ?_) (a' := ?_) #[true, true, false, false, false, false, false, false, false, false, false, false, false, false, false, false, false, false] rfl rfl (by kernel_rfl) (fun _ _ _ h => h) (Or.inl ⟨by rfl, ?_⟩) ?_ ?_
          rotate_left
          · intro w'
            go_simp
            with_reducible rfl
          rotate_left
          · simp only [Act.put, List.setIfInBounds_toArray, List.set_cons_zero, List.set_cons_succ, i64_w, i32_w]
            rfl
          refine pure_ (i := 2) (N := some 22) (v := ?_) (a' := ?_) #[true, true, true, false, false, false, false, false, false, false, false, false, false, false, false, false, false, false] rfl rfl (by kernel_rfl) (fun _ _ _ h => h) (Or.inl ⟨by rfl, ?_⟩) ?_ ?_
          rotate_left
          · intro w'
            go_simp
            with_reducible rfl
          rotate_left
          · simp only [Act.put, List.setIfInBounds_toArray, List.set_cons_zero, List.set_cons_succ, i64_w, i32_w]
            rfl
          refine pure_ (i := 3) (N := some 23) (v := ?_) (a' := ?_) #[true, true, true, true, false, false, false, false, false, false, false, false, false, false, false, false, false, false] rfl rfl (by kernel_rfl) (fun _ _ _ h => h) (Or.inl ⟨by rfl, ?_⟩) ?_ ?_
          rotate_left
          · intro w'
            go_simp
            with_reducible rfl
          rotate_left
          · simp only [Act.put, List.setIfInBounds_toArray, List.set_cons_zero, List.set_cons_succ, i64_w, i32_w]
            rfl
          refine pure_ (i := 8) (N := some 28) (v := ?_) (a' := ?_) #[true, true, true, true, false, false, false, false, true, false, false, false, false, false, false, false, false, false] rfl rfl (by kernel_rfl) (fun _ _ _ h => h) (Or.inl ⟨by rfl, ?_⟩) ?_ ?_
          rotate_left
          · intro w'
            go_simp
            with_reducible rfl
          rotate_left
          · simp only [Act.put, List.setIfInBounds_toArray, List.set_cons_zero, List.set_cons_succ, i64_w, i32_w]
            rfl
          refine pure_ (i := 9) (N := some 29) (v := ?_) (a' := ?_) #[true, true, true, true, false, false, false, false, true, true, false, false, false, false, false, false, false, false] rfl rfl (by kernel_rfl) (fun _ _ _ h => h) (Or.inl ⟨by rfl, ?_⟩) ?_ ?_
          rotate_left
          · intro w'
            go_simp
            with_reducible rfl
          rotate_left
          · simp only [Act.put, List.setIfInBounds_toArray, List.set_cons_zero, List.set_cons_succ, i64_w, i32_w]
            rfl
          refine pure_ (i := 10) (N := some 30) (v := ?_) (a' := ?_) #[true, true, true, true, false, false, false, false, true, true, true, false, false, false, false, false, false, false] rfl rfl (by kernel_rfl) (fun _ _ _ h => h) (Or.inl ⟨by rfl, ?_⟩) ?_ ?_
          rotate_left
          · intro w'
            go_simp
            with_reducible rfl
          rotate_left
          · simp only [Act.put, List.setIfInBounds_toArray, List.set_cons_zero, List.set_cons_succ, i64_w, i32_w]
            rfl
          refine take_ (i := 4) (N := some 24) (v := ?_) (a' := ?_) #[true, true, true, true, true, false, false, false, true, true, true, false, false, false, false, false, false, false] rfl rfl (by kernel_rfl) (fun _ _ _ h => h) (Or.inl ⟨by rfl, ?_⟩) hHeld ?_ ?_
          rotate_left
          · rintro w' ⟨s0, s1, s2⟩
            go_simp
            with_reducible rfl
          rotate_left
          · simp only [Act.put, List.setIfInBounds_toArray, List.set_cons_zero, List.set_cons_succ, i64_w, i32_w]
            rfl
          refine pure_ (i := 5) (N := some 25) (v := ?_) (a' := ?_) #[true, true, true, true, true, true, false, false, true, true, true, false, false, false, false, false, false, false] rfl rfl (by kernel_rfl) (fun _ _ _ h => h) (Or.inl ⟨by rfl, ?_⟩) ?_ ?_
          rotate_left
          · intro w'
            go_simp
            with_reducible rfl
          rotate_left
          · simp only [Act.put, List.setIfInBounds_toArray, List.set_cons_zero, List.set_cons_succ, i64_w, i32_w]
            rfl
          refine pure_ (i := 6) (N := some 26) (v := ?_) (a' := ?_) #[true, true, true, true, true, true, true, false, true, true, true, false, false, false, false, false, false, false] rfl rfl (by kernel_rfl) (fun _ _ _ h => h) (Or.inl ⟨by rfl, ?_⟩) ?_ ?_
          rotate_left
          · intro w'
            go_simp
            with_reducible rfl
          rotate_left
          · simp only [Act.put, List.setIfInBounds_toArray, List.set_cons_zero, List.set_cons_succ, i64_w, i32_w]
            rfl
          refine take_ (i := 7) (N := some 27) (v := ?_) (a' := ?_) #[true, true, true, true, true, true, true, true, true, true, true, false, false, false, false, false, false, false] rfl rfl (by kernel_rfl) (fun _ _ _ h => h) (Or.inl ⟨by rfl, ?_⟩) hHeld ?_ ?_
          rotate_left
          · rintro w' ⟨s0, s1, s2⟩
            go_simp
            with_reducible rfl
          rotate_left
          · simp only [Act.put, List.setIfInBounds_toArray, List.set_cons_zero, List.set_cons_succ, i64_w, i32_w]
            rfl
          refine take_ (i := 11) (N := some 31) (v := ?_) (a' := ?_) #[true, true, true, true, true, true, true, true, true, true, true, true, false, false, false, false, false, false] rfl rfl (by kernel_rfl) (fun _ _ _ h => h) (Or.inl ⟨by rfl, ?_⟩) hHeld ?_ ?_
          rotate_left
          · rintro w' ⟨s0, s1, s2⟩
            go_simp
            with_reducible rfl
          rotate_left
          · simp only [Act.put, List.setIfInBounds_toArray, List.set_cons_zero, List.set_cons_succ, i64_w, i32_w]
            rfl
          refine pure_ (i := 12) (N := some 32) (v := ?_) (a' := ?_) #[true, true, true, true, true, true, true, true, true, true, true, true, true, false, false, false, false, false] rfl rfl (by kernel_rfl) (fun _ _ _ h => h) (Or.inl ⟨by rfl, ?_⟩) ?_ ?_
          rotate_left
          · intro w'
            go_simp
            with_reducible rfl
          rotate_left
          · simp only [Act.put, List.setIfInBounds_toArray, List.set_cons_zero, List.set_cons_succ, i64_w, i32_w]
            rfl
          refine pure_ (i := 13) (N := some 33) (v := ?_) (a' := ?_) #[true, true, true, true, true, true, true, true, true, true, true, true, true, true, false, false, false, false] rfl rfl (by kernel_rfl) (fun _ _ _ h => h) (Or.inl ⟨by rfl, ?_⟩) ?_ ?_
          rotate_left
          · intro w'
            go_simp
            with_reducible rfl
          rotate_left
          · simp only [Act.put, List.setIfInBounds_toArray, List.set_cons_zero, List.set_cons_succ, i64_w, i32_w]
            rfl
          refine pure_ (i := 14) (N := some 34) (v := ?_) (a' := ?_) #[true, true, true, true, true, true, true, true, true, true, true, true, true, true, true, false, false, false] rfl rfl (by kernel_rfl) (fun _ _ _ h => h) (Or.inl ⟨by rfl, ?_⟩) ?_ ?_
          rotate_left
          · intro w'
            go_simp
            with_reducible rfl
          rotate_left
          · simp only [Act.put, List.setIfInBounds_toArray, List.set_cons_zero, List.set_cons_succ, i64_w, i32_w]
            rfl
          refine pure_ (i := 15) (N := some 35) (v := ?_) (a' := ?_) #[true, true, true, true, true, true, true, true, true, true, true, true, true, true, true, true, false, false] rfl rfl (by kernel_rfl) (fun _ _ _ h => h) (Or.inl ⟨by rfl, ?_⟩) ?_ ?_
          rotate_left
          · intro w'
            go_simp
            with_reducible rfl
          rotate_left
          · simp only [Act.put, List.setIfInBounds_toArray, List.set_cons_zero, List.set_cons_succ, i64_w, i32_w]
            rfl
          refine pure_ (i := 16) (N := some 36) (v := ?_) (a' := ?_) #[true, true, true, true, true, true, true, true, true, true, true, true, true, true, true, true, true, false] rfl rfl (by kernel_rfl) (fun _ _ _ h => h) (Or.inl ⟨by rfl, ?_⟩) ?_ ?_
          rotate_left
          · intro w'
            go_simp
            with_reducible rfl
          rotate_left
          · simp only [Act.put, List.setIfInBounds_toArray, List.set_cons_zero, List.set_cons_succ, i64_w, i32_w]
            rfl
          refine last_ (i := 17) (N := none) #[true, true, true, true, true, true, true, true, true, true, true, true, true, true, true, true, true, true] rfl rfl (by kernel_rfl) (by decide) (fun K hK => ?_)
          refine skip_ (w1 := ?_) (by rfl) rfl ?_ ?_
          rotate_left
          · go_simp
            rfl
          refine hK.out _ _ ?_
          clear hK K
          refine done_ (by kernel_rfl) ?_
          have HN2 : Aside0 (BRow (wr.setCell ⟨w.heap.size, qn, none⟩ (.int .u8 (Go.bits .or .u8 y (IntKind.u8.wrap (2 ^ rn))))).drew w.heap.size 5 a0.size (addL a0 l (kk + 1))) := ⟨by rw [← HS2.out]; exact HN.out⟩
          have HB4 : Aside0 (Below w.heap.size w (wr.setCell ⟨w.heap.size, qn, none⟩ (.int .u8 (Go.bits .or .u8 y (IntKind.u8.wrap (2 ^ rn))))).drew) := ⟨below_drew (HW2.out _)⟩
          have HK4 : Aside0 (∀ q, q < w3.heap.size → q ≠ w.heap.size → (wr.setCell ⟨w.heap.size, qn, none⟩ (.int .u8 (Go.bits .or .u8 y (IntKind.u8.wrap (2 ^ rn))))).drew.heap[q]? = w3.heap[q]?) := ⟨fun q h1 h2 => HK2.out _ q h1 h2⟩
          clear hHeld e0 f0 HN HW2 HK2 HS2 hcellr
          generalize (wr.setCell ⟨w.heap.size, qn, none⟩ (.int .u8 (Go.bits .or .u8 y (IntKind.u8.wrap (2 ^ rn))))).drew = wz at HN2 HB4 HK4 ⊢
          clear hr3 hr4 hr2 hq2
          go_wp2
          go_roundg (l.length - (kk + 1))
          case measure => omega
          case rel => exact ⟨kk + 1, by go_num, by omega, Nat.le_refl _, HB4, HK4, HN2⟩
        · have hlti : ¬ (kk : Int) < (l.length : Int) := by omega
          obtain rfl : kk = l.length := by omega
          have hcv := fun cc => string_of_reads (P := Try.prog) (src := 63) (dst := 9) (e := 5) (c := cc) Try.underlying63 Try.underlying5 Try.underlying9 (brow_reads HR.out hszb)
          go_wp2
          go_ret
          exact ⟨rfl, HB.out⟩
    · rw [if_neg ha] at h2
      cases h2
  · rw [if_neg hsz] at h2
    cases h2
end Go.Proofs.Ytannckkmelihdaa.Q
