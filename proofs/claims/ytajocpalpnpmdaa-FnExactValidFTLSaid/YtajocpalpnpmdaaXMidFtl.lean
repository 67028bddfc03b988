/- The contracts of the specification's l14Ok and ValidFTL. Conditions: those before each theorem. -/
import Derived.Test.YtajocpalpnpmdaaXMidCore
import Derived.Test.YtajocpalpnpmdaaFlashS
namespace Go.Proofs.Ytajocpalpnpmdaa.Q
open Go.RowKit Go.Proofs.YtajocpalpnpmdaaW.PrintWords Go.Proofs.YtajocpalpnpmdaaW.PrintMore Go.Proofs.YtajocpalpnpmdaaW.PrintLast
set_option linter.unusedVariables false
set_option linter.unusedSimpArgs false
def ftlS (d b p : Int) (L : List (S92)) (u v z mb mp : Int) (M : List Int) (T : List Bool) (H : List Int) (hn sq : Int) (O X : List Int) (bd po : Int) : Bool :=
  flashB d b p L u v z && (mapB mb mp M T && ((mb == (L.length : Int)) && ((mp == p) && (okHeat H hn && (((H.length : Int) == (M.length : Int)) && (decide (1 ≤ sq ∧ sq ≤ 1000001) && (((O.length : Int) == 2) && (((X.length : Int) == (L.length : Int)) && (decide (1 ≤ bd ∧ bd ≤ 100) && (decide (1 ≤ po ∧ po ≤ 2) && (decide (-1 ≤ rd O 0 ∧ rd O 0 ≤ wrap64 ((L.length : Int) - 1)) && (decide (-1 ≤ rd O 1 ∧ rd O 1 ≤ wrap64 ((L.length : Int) - 1)) && (!(decide (0 ≤ rd O 0) && (rd O 0 == rd O 1)) && allIn X 0 1000000)))))))))))))
theorem elS2 {w : World} {A : Option Addr} {O : List Int} (h : Kd.C (Kd.int .i64) w A O.length O) (hl : O.length = 2) : ∃ ad, A = some ad ∧ w.cell? ad = some (.int .i64 (rd O 0)) ∧ w.cell? ⟨ad.block, ad.off + 1, none⟩ = some (.int .i64 (rd O 1)) := by
  obtain ⟨ad, e0, h0⟩ := Kd.at_int h 0 (by omega) (by omega)
  obtain ⟨ad1, e1, h1⟩ := Kd.at_int h 1 (by omega) (by omega)
  rw [e0] at e1
  injection e1 with e1
  subst e1
  refine ⟨ad, e0, ?_, ?_⟩
  · rw [show ((0 : Int).toNat) = 0 from rfl, Addr.add_zero'] at h0
    exact h0
  · simp only [show (1 : Int).toNat = 1 from rfl, Nat.reduceMul, Nat.reduceEqDiff, Go.Addr.add, ↓reduceIte] at h1
    exact h1
theorem l14Ok_calls (g : Nat) (a0_0 : Int) (a0_1 : Int) (a0_2 : Int) (A0_3 : Option Addr) (c0_3 : Nat) (l0_3 : List (S92)) (a0_4 : Int) (a0_5 : Int) (a0_6 : Bool) (a0_7 : Int) (a0_8 : Int) (a0_9 : Int) (A0_10 : Option Addr) (c0_10 : Nat) (l0_10 : List Int) (A0_11 : Option Addr) (c0_11 : Nat) (l0_11 : List Bool) (A0_12 : Option Addr) (c0_12 : Nat) (l0_12 : List Int) (a0_13 : Int) (a0_14 : Int) (A0_15 : Option Addr) (c0_15 : Nat) (l0_15 : List Int) (A0_16 : Option Addr) (c0_16 : Nat) (l0_16 : List Int) (a0_17 : Int) (a0_18 : Int) (r : Bool) (w : World) (hr0_3 : Kd.C k92 w A0_3 l0_3.length l0_3) (hc0_3 : l0_3.length ≤ c0_3) (hr0_10 : Kd.C (Kd.int .i64) w A0_10 l0_10.length l0_10) (hc0_10 : l0_10.length ≤ c0_10) (hr0_11 : Kd.C Kd.bool w A0_11 l0_11.length l0_11) (hc0_11 : l0_11.length ≤ c0_11) (hr0_12 : Kd.C (Kd.int .i64) w A0_12 l0_12.length l0_12) (hc0_12 : l0_12.length ≤ c0_12) (hr0_15 : Kd.C (Kd.int .i64) w A0_15 l0_15.length l0_15) (hc0_15 : l0_15.length ≤ c0_15) (hr0_16 : Kd.C (Kd.int .i64) w A0_16 l0_16.length l0_16) (hc0_16 : l0_16.length ≤ c0_16) (h : ftlS a0_0 a0_1 a0_2 l0_3 a0_4 a0_5 a0_7 a0_8 a0_9 l0_10 l0_11 l0_12 a0_13 a0_14 l0_15 l0_16 a0_17 a0_18 = r)
    (hs : ∀ x ∈ l0_3, x.f3.length ≤ 9223372036854775807) (hgl : l0_3.length ≤ 9223372036854775806) (BK : w.heap[g]? = some (.cells #[.int .i64 a0_0, .int .i64 a0_1, .int .i64 a0_2, .slice A0_3 l0_3.length c0_3, .int .i64 a0_4, .int .i64 a0_5, .bool a0_6, .int .i64 a0_7, .int .i64 a0_8, .int .i64 a0_9, .slice A0_10 l0_10.length c0_10, .slice A0_11 l0_11.length c0_11, .slice A0_12 l0_12.length c0_12, .int .i64 a0_13, .int .i64 a0_14, .slice A0_15 l0_15.length c0_15, .slice A0_16 l0_16.length c0_16, .int .i64 a0_17, .int .i64 a0_18] 44 (0, 0))) :
    Calls Try.prog 20 #[.pointer (some ⟨g, 0, none⟩)] w fun e w' => e = .returned (.bool r) ∧ Below w.heap.size w w' := by
  have LG := blk_lt BK
  obtain ⟨k, hf⟩ := sflash_ev a0_0 a0_1 a0_2 l0_3 a0_4 a0_5 a0_6 a0_7 hs hgl
  refine l14Ok_core g a0_0 a0_1 a0_2 A0_3 l0_3.length c0_3 a0_4 a0_5 a0_6 a0_7 a0_8 a0_9 A0_10 l0_10.length c0_10 A0_11 l0_11.length c0_11 A0_12 l0_12.length c0_12 a0_13 a0_14 A0_15 l0_15.length c0_15 A0_16 l0_16.length c0_16 a0_17 a0_18 (rd l0_15 0) (rd l0_15 1) l0_16 _ _ _ _ _ _ _ _ _ _ _ _ _ _ _ r w rfl BK ?_ ?_ ?_ rfl rfl rfl rfl rfl rfl rfl rfl ?_ hr0_16 rfl rfl rfl rfl h
  · exact fun W hb => spec_ValidFlash.calls k a0_0 a0_1 a0_2 A0_3 c0_3 l0_3 a0_4 a0_5 a0_6 a0_7 _ W (Kd.C_below hr0_3 hb) hc0_3 (hf k (Nat.le_refl _))
  · exact fun W hb => mapM_calls g a0_8 a0_9 A0_10 c0_10 l0_10 A0_11 c0_11 l0_11 W ((hb.cell LG).trans ((blk_cell BK 8).trans rfl)) ((hb.cell LG).trans ((blk_cell BK 9).trans rfl)) ((hb.cell LG).trans ((blk_cell BK 10).trans rfl)) ((hb.cell LG).trans ((blk_cell BK 11).trans rfl)) (Kd.C_below hr0_10 hb) hc0_10 (Kd.C_below hr0_11 hb) hc0_11
  · exact fun W hb => heatM_calls g A0_12 c0_12 l0_12 a0_13 W ((hb.cell LG).trans ((blk_cell BK 12).trans rfl)) ((hb.cell LG).trans ((blk_cell BK 13).trans rfl)) (Kd.C_below hr0_12 hb) hc0_12
  · exact fun hl => elS2 hr0_15 hl
def spec_ValidFTL.f (a0_0 : Int) (a0_1 : Int) (a0_2 : Int) (l0_3 : List (S92)) (a0_4 : Int) (a0_5 : Int) (a0_6 : Bool) (a0_7 : Int) (a0_8 : Int) (a0_9 : Int) (l0_10 : List Int) (l0_11 : List Bool) (l0_12 : List Int) (a0_13 : Int) (a0_14 : Int) (l0_15 : List Int) (l0_16 : List Int) (a0_17 : Int) (a0_18 : Int) : Option Bool := if l0_3.length ≤ 9223372036854775806 ∧ (l0_3.all fun x => decide (x.f3.length ≤ 8796093022208)) = true then some (ftlS a0_0 a0_1 a0_2 l0_3 a0_4 a0_5 a0_7 a0_8 a0_9 l0_10 l0_11 l0_12 a0_13 a0_14 l0_15 l0_16 a0_17 a0_18) else none
set_option maxHeartbeats 4000000 in
set_option maxRecDepth 100000 in
theorem spec_ValidFTL.calls (a0_0 : Int) (a0_1 : Int) (a0_2 : Int) (A0_3 : Option Addr) (c0_3 : Nat) (l0_3 : List (S92)) (a0_4 : Int) (a0_5 : Int) (a0_6 : Bool) (a0_7 : Int) (a0_8 : Int) (a0_9 : Int) (A0_10 : Option Addr) (c0_10 : Nat) (l0_10 : List Int) (A0_11 : Option Addr) (c0_11 : Nat) (l0_11 : List Bool) (A0_12 : Option Addr) (c0_12 : Nat) (l0_12 : List Int) (a0_13 : Int) (a0_14 : Int) (A0_15 : Option Addr) (c0_15 : Nat) (l0_15 : List Int) (A0_16 : Option Addr) (c0_16 : Nat) (l0_16 : List Int) (a0_17 : Int) (a0_18 : Int) (r : Bool) (w : World) (hr0_3 : Kd.C k92 w A0_3 l0_3.length l0_3) (hc0_3 : l0_3.length ≤ c0_3) (hr0_10 : Kd.C (Kd.int .i64) w A0_10 l0_10.length l0_10) (hc0_10 : l0_10.length ≤ c0_10) (hr0_11 : Kd.C Kd.bool w A0_11 l0_11.length l0_11) (hc0_11 : l0_11.length ≤ c0_11) (hr0_12 : Kd.C (Kd.int .i64) w A0_12 l0_12.length l0_12) (hc0_12 : l0_12.length ≤ c0_12) (hr0_15 : Kd.C (Kd.int .i64) w A0_15 l0_15.length l0_15) (hc0_15 : l0_15.length ≤ c0_15) (hr0_16 : Kd.C (Kd.int .i64) w A0_16 l0_16.length l0_16) (hc0_16 : l0_16.length ≤ c0_16) (h : spec_ValidFTL.f a0_0 a0_1 a0_2 l0_3 a0_4 a0_5 a0_6 a0_7 a0_8 a0_9 l0_10 l0_11 l0_12 a0_13 a0_14 l0_15 l0_16 a0_17 a0_18 = some r) :
    Calls Try.prog 6 #[.agg #[.int .i64 a0_0, .int .i64 a0_1, .int .i64 a0_2, .slice A0_3 l0_3.length c0_3, .int .i64 a0_4, .int .i64 a0_5, .bool a0_6, .int .i64 a0_7, .int .i64 a0_8, .int .i64 a0_9, .slice A0_10 l0_10.length c0_10, .slice A0_11 l0_11.length c0_11, .slice A0_12 l0_12.length c0_12, .int .i64 a0_13, .int .i64 a0_14, .slice A0_15 l0_15.length c0_15, .slice A0_16 l0_16.length c0_16, .int .i64 a0_17, .int .i64 a0_18]] w fun e w' => e = .returned (.bool r) ∧ Below w.heap.size w w' := by
  unfold spec_ValidFTL.f at h
  split at h
  rotate_left
  · cases h
  rename_i hg
  obtain ⟨hgl, hgs⟩ := hg
  have hs : ∀ x ∈ l0_3, x.f3.length ≤ 9223372036854775807 := fun x hx => by
    have := List.all_eq_true.1 hgs x hx
    simp only [decide_eq_true_eq] at this
    omega
  have hcon : ∀ g W, Below w.heap.size w W → W.heap[g]? = some (.cells #[.int .i64 a0_0, .int .i64 a0_1, .int .i64 a0_2, .slice A0_3 l0_3.length c0_3, .int .i64 a0_4, .int .i64 a0_5, .bool a0_6, .int .i64 a0_7, .int .i64 a0_8, .int .i64 a0_9, .slice A0_10 l0_10.length c0_10, .slice A0_11 l0_11.length c0_11, .slice A0_12 l0_12.length c0_12, .int .i64 a0_13, .int .i64 a0_14, .slice A0_15 l0_15.length c0_15, .slice A0_16 l0_16.length c0_16, .int .i64 a0_17, .int .i64 a0_18] 44 (0, 0)) → Calls Try.prog 20 #[.pointer (some ⟨g, 0, none⟩)] W fun e w' => e = .returned (.bool r) ∧ Below W.heap.size W w' :=
    fun g W hb BK => l14Ok_calls g a0_0 a0_1 a0_2 A0_3 c0_3 l0_3 a0_4 a0_5 a0_6 a0_7 a0_8 a0_9 A0_10 c0_10 l0_10 A0_11 c0_11 l0_11 A0_12 c0_12 l0_12 a0_13 a0_14 A0_15 c0_15 l0_15 A0_16 c0_16 l0_16 a0_17 a0_18 r W (Kd.C_below hr0_3 hb) hc0_3 (Kd.C_below hr0_10 hb) hc0_10 (Kd.C_below hr0_11 hb) hc0_11 (Kd.C_below hr0_12 hb) hc0_12 (Kd.C_below hr0_15 hb) hc0_15 (Kd.C_below hr0_16 hb) hc0_16 (Option.some.inj h) hs hgl BK
  have HCON := Aside0.mk hcon
  clear hcon hs hgl hgs h hr0_3 hc0_3 hr0_10 hc0_10 hr0_11 hc0_11 hr0_12 hc0_12 hr0_15 hc0_15 hr0_16 hc0_16
  go_enter Try.func6, Try.ntmps6
  go_wp2_with (first
    | ((with_reducible refine gate_dst (N := 1) rfl ?_); (try (refine gate_guard (by rfl) ?_; dsimp only)); refine box_event ?hg (N := 1) ?hd (cs := #[.int .i64 a0_0, .int .i64 a0_1, .int .i64 a0_2, .slice A0_3 l0_3.length c0_3, .int .i64 a0_4, .int .i64 a0_5, .bool a0_6, .int .i64 a0_7, .int .i64 a0_8, .int .i64 a0_9, .slice A0_10 l0_10.length c0_10, .slice A0_11 l0_11.length c0_11, .slice A0_12 l0_12.length c0_12, .int .i64 a0_13, .int .i64 a0_14, .slice A0_15 l0_15.length c0_15, .slice A0_16 l0_16.length c0_16, .int .i64 a0_17, .int .i64 a0_18]) (t := 44) ?hr ?_; (case hd => rfl); (case hg => rfl); (case hr => first | (go_simp; done) | (go_simp; rfl)); intro gb hg W1 hbox hb; have HB := Aside0.mk hb; have HBX := Aside0.mk hbox; clear hb hbox hg)
    | (go_at_call 20; with_reducible refine Calls.mono (HCON.out gb W1 HB.out HBX.out) ?_; rintro e W2 ⟨rfl, hb⟩; have HB2 := Aside0.mk (HB.out.trans (hb.mono HB.out.size)); clear hb))
  go_ret
  exact ⟨rfl, HB2.out⟩
end Go.Proofs.Ytajocpalpnpmdaa.Q
