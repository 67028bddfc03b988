/- The contract of the program's ErasePasses. Conditions: those before each theorem. -/
import Derived.Test.YtlafegjmmbkkpaaQ1
import Derived.Test.YtlafegjmmbkkpaaErasedOk
import Derived.Test.YtlafegjmmbkkpaaXAllW
namespace Go.Proofs.Ytlafegjmmbkkpaa.Q
open Go.RowKit Go.Proofs.YtlafegjmmbkkpaaW.PrintWords Go.Proofs.YtlafegjmmbkkpaaW.PrintMore
set_option linter.unusedVariables false
/-- How many erases until no cell reaches a level; at most a number of them. -/
def passL (lev : Int) : Nat → List Int → Int
  | 0, _ => 0
  | d + 1, l => if (l.any fun x => decide (x ≥ lev)) = true then 1 + passL lev d (l.map quarter) else 0
def impl_ErasePasses.f (l0 : List Int) (a1 : Int) : Option Int := some (if okCells l0 = true then (if 1 ≤ a1 ∧ a1 ≤ 255 then passL a1 255 l0 else -1) else -1)
theorem quarter_small (x b : Int) (h0 : 0 ≤ x) (h1 : x ≤ b) (hb : b ≤ 255) : 0 ≤ quarter x ∧ quarter x ≤ b / 4 := by
  unfold quarter wrap64
  rw [Int.tdiv_eq_ediv_of_nonneg h0]
  omega
theorem map_small (l : List Int) (b : Nat) (hb : b ≤ 255) (h : ∀ x ∈ l, 0 ≤ x ∧ x ≤ (b : Int)) : ∀ x ∈ l.map quarter, 0 ≤ x ∧ x ≤ ((b / 4 : Nat) : Int) := by
  intro x hx
  obtain ⟨y, hy, rfl⟩ := List.mem_map.1 hx
  have := quarter_small y b (h y hy).1 (h y hy).2 (by omega)
  omega
theorem passes_pred (x lev : Int) (B : Nat) (W : World) (h : W.cell? ⟨B, 0, none⟩ = some (.int .i64 lev)) :
    Calls Try.prog 35 #[.int .i64 x, .pointer (some ⟨B, 0, none⟩)] W fun e w' => e = .returned (.bool (decide (x ≥ lev))) ∧ w' = W := by
  go_enter Try.func35, Try.ntmps35
  go_wp2
  go_ret
  exact ⟨rfl, rfl⟩
theorem okCells_mem {l : List Int} (h : okCells l = true) : ∀ x ∈ l, 0 ≤ x ∧ x ≤ 255 := by
  unfold okCells at h
  simp only [Bool.and_eq_true] at h
  exact allIn_mem h.2
theorem passL_none (lev : Int) (l : List Int) (h : (l.any fun x => decide (x ≥ lev)) = false) : ∀ d, passL lev d l = 0
  | 0 => rfl
  | d + 1 => by unfold passL; rw [h]; rfl
theorem passL_some (lev : Int) (l : List Int) (h : (l.any fun x => decide (x ≥ lev)) = true) (d : Nat) : passL lev (d + 1) l = 1 + passL lev d (l.map quarter) := by
  show (if _ then _ else _) = _
  rw [if_pos h]
theorem valid_calls (A0 : Option Addr) (c0 : Nat) (l0 : List Int) (w : World) (hr0 : Kd.C (Kd.int .i64) w A0 l0.length l0) (hc0 : l0.length ≤ c0) :
    Calls Try.prog 12 #[.agg #[.slice A0 l0.length c0]] w fun e w' => e = .returned (.bool (okCells l0)) ∧ Below w.heap.size w w' :=
  impl_ValidCells.calls A0 c0 l0 _ w hr0 hc0 (implCells_eq l0)
theorem erased_calls (A0 : Option Addr) (c0 : Nat) (l0 : List Int) (w : World) (hr0 : Kd.C (Kd.int .i64) w A0 l0.length l0) (hc0 : l0.length ≤ c0) (hl : l0.length ≤ 1000000) :
    Calls Try.prog 36 #[.agg #[.slice A0 l0.length c0]] w fun e w' => ∃ v0_ : Value, e = .returned (.agg #[v0_]) ∧ Kd.R (Kd.int .i64) 2 w' w.heap.size (fun _ => True) v0_ (l0.map quarter) ∧ Below w.heap.size w w' := by
  obtain ⟨K, h⟩ := erased_ev l0 hl
  exact impl_Cells_erased.calls K A0 c0 l0 _ w hr0 hc0 (h K (Nat.le_refl _))
set_option maxHeartbeats 2000000 in
theorem impl_ErasePasses.calls (A0 : Option Addr) (c0 : Nat) (l0 : List Int) (a1 : Int) (r : Int) (w : World) (hr0 : Kd.C (Kd.int .i64) w A0 l0.length l0) (hc0 : l0.length ≤ c0) (h : impl_ErasePasses.f l0 a1 = some r) :
    Calls Try.prog 19 #[.agg #[.slice A0 l0.length c0], .int .i64 a1] w fun e w' => e = .returned (.int .i64 r) ∧ Below w.heap.size w w' := by
  obtain rfl := Option.some.inj h
  have hu := Try.underlying27
  have hB : Below w.heap.size w ((w.alloc (.cells #[.slice A0 l0.length c0] 27)).alloc (.cells #[.int .i64 a1] 2)) := ((Below.refl _ w).alloc (Nat.le_refl _) _).alloc (by simp) _
  have HR := Aside0.mk hr0
  have HC := Aside0.mk hc0
  have HBW := Aside0.mk hB
  have HV : Aside0 (∀ W, Below w.heap.size w W → Calls Try.prog 12 #[.agg #[.slice A0 l0.length c0]] W fun e w' => e = .returned (.bool (okCells l0)) ∧ Below W.heap.size W w') := ⟨fun W hb => valid_calls A0 c0 l0 W (Kd.C_below hr0 hb) hc0⟩
  clear hr0 hc0 hB h
  cases hok : okCells l0 with
  | false =>
    rw [hok] at HV
    rw [if_neg (by decide)]
    clear hok
    go_enter Try.func19, Try.ntmps19
    go_wp2_with (go_at_call 12; refine (HV.out _ HBW.out).mono ?_; rintro e w1 ⟨rfl, hb1⟩)
    go_ret
    exact ⟨rfl, HBW.out.trans (hb1.mono (by simp; omega))⟩
  | true =>
    have HK := Aside0.mk hok
    rw [hok] at HV
    rw [if_pos rfl]
    clear hok
    by_cases hin : 1 ≤ a1 ∧ a1 ≤ 255
    · rw [if_pos hin]
      have HW : Aside0 (∀ W, Calls Try.prog 34 #[.int .i64 a1, .int .i64 1, .int .i64 255] W fun e w' => e = .returned (.bool true) ∧ w' = W) := ⟨fun W => by have := within_any a1 1 255 W; rw [decide_eq_true hin] at this; exact this⟩
      have h1 := hin.1
      clear hin
      go_enter Try.func19, Try.ntmps19
      go_wp2_with (first | (go_at_call 12; refine (HV.out _ HBW.out).mono ?_; rintro e w1 ⟨rfl, hb1⟩; have hlev : w1.cell? ⟨w.heap.size + 1, 0, none⟩ = some (.int .i64 a1) := (hb1.cell (p := ⟨w.heap.size + 1, 0, none⟩) (by simp)).trans (by simp); have HB1 := Aside0.mk hb1; clear hb1) | (go_at_call 34; refine (HW.out _).mono ?_; rintro e w2 ⟨rfl, hw2⟩; have hw3 := hw2.symm; subst hw3))
      have HBO := Aside0.mk (HBW.out.trans (HB1.out.mono (by simp; omega : w.heap.size ≤ _)))
      have HC1 : Aside0 (w1.heap[w.heap.size]? = some (.cells #[.slice A0 l0.length c0] 27 (0, 0))) := ⟨(HB1.out.block w.heap.size (by simp; omega)).trans ((((Below.refl (w.alloc (.cells #[.slice A0 l0.length c0] 27)).heap.size (w.alloc (.cells #[.slice A0 l0.length c0] 27))).alloc (Nat.le_refl _) (.cells #[.int .i64 a1] 2)).block w.heap.size (by simp)).trans (blk_new w _))⟩
      have HC2 : Aside0 (w1.heap[w.heap.size + 1]? = some (.cells #[.int .i64 a1] 2 (0, 0))) := ⟨(HB1.out.block (w.heap.size + 1) (by simp)).trans (by have := blk_new (w.alloc (.cells #[.slice A0 l0.length c0] 27)) (.cells #[.int .i64 a1] 2 (0, 0)); rw [show (w.alloc (.cells #[.slice A0 l0.length c0] 27)).heap.size = w.heap.size + 1 from by simp] at this; exact this)⟩
      have HS : Aside0 (∀ x ∈ l0, 0 ≤ x ∧ x ≤ ((255 : Nat) : Int)) := ⟨fun x hx => by have := okCells_mem HK.out x hx; omega⟩
      have HL : Aside0 (l0.length ≤ 64) := ⟨okCells_len HK.out⟩
      have HRW := Aside0.mk (Kd.C_below HR.out HBO.out)
      clear HB1 hlev HV HW HK HR HBW
      go_loopg [5] 256 (fun gg s5 wr => ∃ (lj : List Int) (p : Int) (A : Option Addr) (c : Nat) (b f : Nat), Aside0 (b ≤ 255 ∧ b ≤ f ∧ f ≤ gg ∧ (∀ x ∈ lj, 0 ≤ x ∧ x ≤ (b : Int)) ∧ p + passL a1 f lj = passL a1 255 l0 ∧ 0 ≤ p ∧ p + f ≤ 255) ∧ s5 = .int .i64 p ∧ Aside0 (lj.length ≤ c) ∧ Aside0 (lj.length ≤ 64)
        ∧ Aside0 (Kd.C (Kd.int .i64) wr A lj.length lj) ∧ Aside0 (wr.heap[w.heap.size]? = some (.cells #[.slice A lj.length c] 27 (0, 0))) ∧ Aside0 (wr.heap[w.heap.size + 1]? = some (.cells #[.int .i64 a1] 2 (0, 0))) ∧ Aside0 (Below w.heap.size w wr))
      case atStart => exact ⟨l0, 0, A0, c0, 255, 255, ⟨by omega, by omega, by omega, HS.out, by omega, by omega, by omega⟩, rfl, HC, HL, HRW, HC1, HC2, HBO⟩
      case round =>
        clear HC HC1 HC2 HS HL HRW HBO
        obtain ⟨lj, p, A, c, b, f, HP, rfl, HC, HL, HR, HC1, HC2, HB⟩ := hrel
        have hs : w.heap.size + 1 < wr.heap.size := (Array.getElem?_eq_some_iff.1 HC2.out).1
        have hcell : wr.cell? ⟨w.heap.size, 0, none⟩ = some (.slice A lj.length c) := by simp [World.cell?, HC1.out]
        have hcell2 : wr.cell? ⟨w.heap.size + 1, 0, none⟩ = some (.int .i64 a1) := by simp [World.cell?, HC2.out]
        have eg : ∀ args w, (callFunc 35 args).run Try.prog w = .ok (.enter 35 args) w := enters_of Try.func35 (by kernel_rfl) rfl
        have hcon := anyI_calls A c lj wr HR.out HC.out 35 #[.pointer (some ⟨w.heap.size + 1, 0, none⟩)] (fun x => decide (x ≥ a1)) eg
          (fun W x _ hb => (passes_pred x a1 (w.heap.size + 1) W ((hb.cell (p := ⟨w.heap.size + 1, 0, none⟩) hs).trans hcell2)).mono fun e w' ⟨he, hw⟩ => ⟨he, by rw [hw]; exact hb⟩)
        clear eg
        cases hq : lj.any fun x => decide (x ≥ a1) with
        | false =>
          rw [hq] at hcon
          have HE : Aside0 (p = passL a1 255 l0) := ⟨by have := HP.out.2.2.2.2.1; rw [passL_none a1 lj hq f] at this; omega⟩
          clear hq
          go_wp2_with (go_at_call 31; refine hcon.mono ?_; rintro e w2 ⟨rfl, hb2⟩)
          go_ret
          exact ⟨by rw [HE.out]; rfl, HB.out.trans (hb2.mono HB.out.size)⟩
        | true =>
          rw [hq] at hcon
          have HQ := Aside0.mk hq
          clear hq
          have HER : Aside0 (∀ w2, Below wr.heap.size wr w2 → Calls Try.prog 36 #[.agg #[.slice A lj.length c]] w2 fun e w' => ∃ v0_ : Value, e = .returned (.agg #[v0_]) ∧ Kd.R (Kd.int .i64) 2 w' w2.heap.size (fun _ => True) v0_ (lj.map quarter) ∧ Below w2.heap.size w2 w') := ⟨fun w2 hb => erased_calls A c lj w2 (Kd.C_below HR.out hb) HC.out (by have := HL.out; omega)⟩
          clear hcell2
          have HCC := Aside0.mk hcell
          go_wp2_with (first | (go_at_call 31; refine hcon.mono ?_; rintro e w2 ⟨rfl, hb2⟩; have hcell3 : w2.cell? ⟨w.heap.size, 0, none⟩ = some (.slice A lj.length c) := (hb2.cell (p := ⟨w.heap.size, 0, none⟩) (by show w.heap.size < wr.heap.size; omega)).trans HCC.out; have HB2 := Aside0.mk hb2; clear hb2) | fail)
          refine (HER.out _ HB2.out).mono ?_
          rintro e w3 ⟨v, rfl, hv, hb3⟩
          have hh3 : w3.heap[w.heap.size]? = some (.cells #[.slice A lj.length c] 27 (0, 0)) := (hb3.block w.heap.size (by have := HB2.out.size; omega)).trans ((HB2.out.block w.heap.size (by omega)).trans HC1.out)
          have hh4 : w3.heap[w.heap.size + 1]? = some (.cells #[.int .i64 a1] 2 (0, 0)) := (hb3.block (w.heap.size + 1) (by have := HB2.out.size; omega)).trans ((HB2.out.block (w.heap.size + 1) (by omega)).trans HC2.out)
          have hc3 : w3.cell? ⟨w.heap.size, 0, none⟩ = some (.slice A lj.length c) := by simp [World.cell?, hh3]
          have hf3 : w3.frozen? ⟨w.heap.size, 0, none⟩ = false := by simp [World.frozen?, hh3]
          have hk : 1 ≤ f := by
            obtain ⟨x, hx, hx2⟩ := List.any_eq_true.1 HQ.out
            have hx3 := HP.out.2.2.2.1 x hx
            have hx4 : x ≥ a1 := by simpa using hx2
            have := HP.out.2.1
            omega
          obtain ⟨f', rfl⟩ : ∃ f', f = f' + 1 := ⟨f - 1, by omega⟩
          have hlenq : (lj.map quarter).length = lj.length := by simp
          have HPN : Aside0 ((b / 4 ≤ 255 ∧ b / 4 ≤ f' ∧ f' ≤ f' ∧ (∀ x ∈ lj.map quarter, 0 ≤ x ∧ x ≤ ((b / 4 : Nat) : Int)) ∧ (p + 1) + passL a1 f' (lj.map quarter) = passL a1 255 l0 ∧ 0 ≤ p + 1 ∧ (p + 1) + f' ≤ 255)) := ⟨by
            obtain ⟨q1, q2, q3, q4, q5, q6, q7⟩ := HP.out
            rw [passL_some a1 lj HQ.out] at q5
            exact ⟨by omega, by omega, by omega, map_small lj b q1 q4, by omega, by omega, by omega⟩⟩
          have HG : Aside0 (f' + 1 ≤ gk) := ⟨HP.out.2.2.1⟩
          have hp1 := HP.out.2.2.2.2.2.1
          have hp2 := HP.out.2.2.2.2.2.2
          have HL4 : Aside0 ((lj.map quarter).length ≤ 64) := ⟨by rw [hlenq]; exact HL.out⟩
          have hlv := hv
          clear hlv
          revert hv HPN HL4
          generalize lj.map quarter = l4
          intro hv HPN HL4
          have hv4 := Kd.R_set hv hh3 (fun q hq => by have q2 : q = 2 := (by simpa [Kd.int, Kd.scalar] using hq); rw [q2]; decide) 0 v
          have HB4 := Aside0.mk (HB.out.trans ((HB2.out.trans (hb3.mono HB2.out.size)).mono HB.out.size))
          obtain ⟨A4, c4, rfl, hcap4, hcc4⟩ := Kd.R_reads hv4
          have HCAP4 := Aside0.mk hcap4
          have HCC4 := Aside0.mk hcc4
          have HBS : Aside0 (Below w.heap.size w (w3.setCell ⟨w.heap.size, 0, none⟩ (.slice A4 l4.length c4))) := ⟨HB4.out.setCell (Nat.le_refl _) _⟩
          have HH5 : Aside0 ((w3.setCell ⟨w.heap.size, 0, none⟩ (.slice A4 l4.length c4)).heap[w.heap.size]? = some (.cells #[.slice A4 l4.length c4] 27 (0, 0))) := ⟨by simp [World.setCell, Array.getElem?_modify, hh3]⟩
          have HH6 : Aside0 ((w3.setCell ⟨w.heap.size, 0, none⟩ (.slice A4 l4.length c4)).heap[w.heap.size + 1]? = some (.cells #[.int .i64 a1] 2 (0, 0))) := ⟨by rw [Below.heap_setCell w3 _ _ _ (by simp)]; exact hh4⟩
          clear hh3 hh4 hv4 hv hcap4 hcc4 HP HQ HER hcon HB2 HB4 hb3
          go_wp2
          go_roundg f'
          case measure => have := HG.out; omega
          case rel => exact ⟨l4, p + 1, A4, c4, b / 4, f', HPN, rfl, HCAP4, HL4, HCC4, HH5, HH6, HBS⟩
    · rw [if_neg hin]
      have HW : Aside0 (∀ W, Calls Try.prog 34 #[.int .i64 a1, .int .i64 1, .int .i64 255] W fun e w' => e = .returned (.bool false) ∧ w' = W) := ⟨fun W => by have := within_any a1 1 255 W; rw [decide_eq_false hin] at this; exact this⟩
      clear hin
      go_enter Try.func19, Try.ntmps19
      go_wp2_with (first | (go_at_call 12; refine (HV.out _ HBW.out).mono ?_; rintro e w1 ⟨rfl, hb1⟩; have hlev : w1.cell? ⟨w.heap.size + 1, 0, none⟩ = some (.int .i64 a1) := (hb1.cell (p := ⟨w.heap.size + 1, 0, none⟩) (by simp)).trans (by simp); have HB1 := Aside0.mk hb1; clear hb1) | (go_at_call 34; refine (HW.out _).mono ?_; rintro e w2 ⟨rfl, rfl⟩))
      go_ret
      exact ⟨rfl, HBW.out.trans (HB1.out.mono (by simp; omega))⟩
end Go.Proofs.Ytlafegjmmbkkpaa.Q
