/- The contracts of the specification's l14Ok and ValidFTL. Conditions: those before each theorem. -/
import Derived.Test.YtajocpalpnpmdaaFlashV
import Derived.Test.YtajocpalpnpmdaaQ3
import Derived.Test.YtajocpalpnpmdaaXMidCoreB
namespace Go.Proofs.Ytajocpalpnpmdaa.Q
open Go.RowKit Go.Proofs.YtajocpalpnpmdaaW.PrintWords
set_option linter.unusedVariables false
theorem sgeo_eq (d b p : Int) : spec_ValidGeometry.f d b p = some (geoB d b p) := by
  unfold spec_ValidGeometry.f geoB
  rw [l00In_eq, Option.bind_some, l00In_eq]
  by_cases c1 : 2 ≤ d ∧ d ≤ 3
  · rw [decide_eq_true c1, if_pos rfl, Bool.true_and, Option.bind_some]
    by_cases c2 : 4 ≤ b ∧ b ≤ 12
    · rw [decide_eq_true c2, if_pos rfl, Bool.true_and]
      by_cases c3 : p = 8
      · rw [if_pos c3, decide_eq_true c3, Bool.true_or]
      · rw [if_neg c3, decide_eq_false c3, Bool.false_or]
        rfl
    · rw [decide_eq_false c2, if_neg (by decide), Bool.false_and]
  · rw [decide_eq_false c1, if_neg (by decide), Bool.false_and]
theorem sflash_loop (d b p : Int) (l : List S92) (u v : Int) (o : Bool) (z : Int) (hs : ∀ x ∈ l, x.f3.length ≤ 9223372036854775807) (hl : l.length ≤ 9223372036854775806) (dd : Nat) : ∀ i : Nat, i ≤ l.length → l.length - i = dd →
    Ev (fun k => spec_ValidFlash.l0 k i d b p l u v o z) ((l.drop i).all (blkB p)) := by
  induction dd with
  | zero =>
    intro i h1 h2
    rw [List.drop_of_length_le (by omega)]
    refine Ev.step (f := fun _ => some true) (fun k => ?_) (Ev.now _)
    rw [spec_ValidFlash.l0, if_neg (by omega)]
  | succ dd ih =>
    intro i h1 h2
    have hi : i < l.length := by omega
    rw [List.drop_eq_getElem_cons hi, List.all_cons]
    have e1 := sblk_ev p l[i] (hs _ (List.getElem_mem _))
    have hstep : ∀ k, spec_ValidFlash.l0 (k + 1) i d b p l u v o z = (spec_l06Block.f k (l[i].f0) (l[i].f1) (l[i].f2) (l[i].f3) p).bind fun t => if t = true then spec_ValidFlash.l0 k ((i + 1 : Nat) : Int) d b p l u v o z else some false := by
      intro k
      rw [spec_ValidFlash.l0, if_pos (by omega), if_pos (by omega), show rd_T92 l (i : Int) = l[i] from by simp [rd_T92, hi], wrap64_id (by omega) (by omega)]
      rfl
    cases hb : blkB p l[i] with
    | true =>
      rw [hb] at e1
      rw [Bool.true_and]
      exact Ev.step hstep (Ev.bind e1 (Ev.if_pos rfl (ih (i + 1) (by omega) (by omega))))
    | false =>
      rw [hb] at e1
      rw [Bool.false_and]
      exact Ev.step hstep (Ev.bind e1 (Ev.if_neg (by decide) (Ev.now _)))
theorem sflash_ev (d b p : Int) (l : List S92) (u v : Int) (o : Bool) (z : Int) (hs : ∀ x ∈ l, x.f3.length ≤ 9223372036854775807) (hl : l.length ≤ 9223372036854775806) :
    Ev (fun k => spec_ValidFlash.f k d b p l u v o z) (flashB d b p l u v z) := by
  have off : Ev (fun k => spec_ValidFlash.j0 k true d b p l u v o z) false := Ev.step (f := fun _ => some false) (fun k => by rw [spec_ValidFlash.j0, if_pos rfl]) (Ev.now _)
  unfold spec_ValidFlash.f flashB
  rw [sgeo_eq]
  cases hg : geoB d b p with
  | false => exact Ev.bind1 rfl (Ev.if_neg (by decide) off)
  | true =>
    rw [Bool.true_and]
    refine Ev.bind1 rfl (Ev.if_pos rfl ?_)
    by_cases c1 : (l.length : Int) = wrap64 (d * b)
    · rw [decide_eq_true c1, Bool.true_and]
      refine Ev.if_pos c1 ?_
      rw [l00In_eq]
      by_cases c2 : -1 ≤ u ∧ u ≤ 1000000
      · rw [decide_eq_true c2, Bool.true_and]
        refine Ev.bind1 rfl (Ev.if_pos rfl ?_)
        rw [l00In_eq]
        by_cases c3 : 0 ≤ v ∧ v ≤ 91
        · rw [decide_eq_true c3, Bool.true_and]
          refine Ev.bind1 rfl (Ev.if_pos rfl ?_)
          by_cases c4 : 0 ≤ z
          · rw [decide_eq_true c4, Bool.true_and, decide_eq_false (show ¬ z < 0 from by omega)]
            have := sflash_loop d b p l u v o z hs hl l.length 0 (by omega) (by omega)
            rw [List.drop_zero] at this
            refine Ev.step (fun k => ?_) this
            rw [spec_ValidFlash.j0, if_neg (by decide)]
            rfl
          · rw [decide_eq_false c4, Bool.false_and, decide_eq_true (show z < 0 from by omega)]
            exact off
        · rw [decide_eq_false c3, Bool.false_and]
          exact Ev.bind1 rfl (Ev.if_neg (by decide) off)
      · rw [decide_eq_false c2, Bool.false_and]
        exact Ev.bind1 rfl (Ev.if_neg (by decide) off)
    · rw [decide_eq_false c1, Bool.false_and]
      exact Ev.if_neg c1 off
end Go.Proofs.Ytajocpalpnpmdaa.Q
namespace Go.Proofs.Ytajocpalpnpmdaa.Q
open Go.RowKit Go.Proofs.YtajocpalpnpmdaaW.PrintWords Go.Proofs.YtajocpalpnpmdaaW.PrintMore Go.Proofs.YtajocpalpnpmdaaW.PrintLast
set_option linter.unusedVariables false
set_option linter.unusedSimpArgs false
theorem l14Ok_core (g : Nat) (d b p : Int) (A3 : Option Addr) (n3 c3 : Nat) (u v : Int) (o : Bool) (z mb mp : Int) (A10 : Option Addr) (n10 c10 : Nat) (A11 : Option Addr) (n11 c11 : Nat) (A12 : Option Addr) (n12 c12 : Nat) (hn sq : Int) (A15 : Option Addr) (n15 c15 : Nat) (A16 : Option Addr) (n16 c16 : Nat) (bd po : Int) (o0 o1 : Int) (X : List Int) (bF bM bE bQ bH bL bS bK bN bB bP bI bJ bG bZ r : Bool) (w : World) (hX : n16 = X.length)
    (BK : w.heap[g]? = some (.cells #[.int .i64 d, .int .i64 b, .int .i64 p, .slice A3 n3 c3, .int .i64 u, .int .i64 v, .bool o, .int .i64 z, .int .i64 mb, .int .i64 mp, .slice A10 n10 c10, .slice A11 n11 c11, .slice A12 n12 c12, .int .i64 hn, .int .i64 sq, .slice A15 n15 c15, .slice A16 n16 c16, .int .i64 bd, .int .i64 po] 44 (0, 0)))
    (hF : ∀ W, Below w.heap.size w W → Calls Try.prog 44 #[.agg #[.int .i64 d, .int .i64 b, .int .i64 p, .slice A3 n3 c3, .int .i64 u, .int .i64 v, .bool o, .int .i64 z]] W fun e w' => e = .returned (.bool bF) ∧ Below W.heap.size W w')
    (hM : ∀ W, Below w.heap.size w W → Calls Try.prog 45 #[.pointer (some ⟨g, 8, none⟩)] W fun e w' => e = .returned (.bool bM) ∧ Below W.heap.size W w')
    (hH : ∀ W, Below w.heap.size w W → Calls Try.prog 46 #[.pointer (some ⟨g, 12, none⟩)] W fun e w' => e = .returned (.bool bH) ∧ Below W.heap.size W w')
    (qE : (mb == (n3 : Int)) = bE)
    (qQ : (mp == p) = bQ)
    (qL : ((n12 : Int) == (n10 : Int)) = bL)
    (qS : decide (1 ≤ sq ∧ sq ≤ 1000001) = bS)
    (qK : ((n15 : Int) == 2) = bK)
    (qN : ((n16 : Int) == (n3 : Int)) = bN)
    (qB : decide (1 ≤ bd ∧ bd ≤ 100) = bB)
    (qP : decide (1 ≤ po ∧ po ≤ 2) = bP)
    (hel : n15 = 2 → ∃ ad, A15 = some ad ∧ w.cell? ad = some (.int .i64 o0) ∧ w.cell? ⟨ad.block, ad.off + 1, none⟩ = some (.int .i64 o1))
    (hrX : Kd.C (Kd.int .i64) w A16 X.length X)
    (qI : decide (-1 ≤ o0 ∧ o0 ≤ wrap64 ((n3 : Int) - 1)) = bI)
    (qJ : decide (-1 ≤ o1 ∧ o1 ≤ wrap64 ((n3 : Int) - 1)) = bJ)
    (qG : decide (0 ≤ o0) = bG)
    (qZ : (o0 == o1) = bZ)
    (hr : (bF && (bM && (bE && (bQ && (bH && (bL && (bS && (bK && (bN && (bB && (bP && (bI && (bJ && (!(bG && bZ) && allIn X 0 1000000)))))))))))))) = r) :
    Calls Try.prog 20 #[.pointer (some ⟨g, 0, none⟩)] w fun e w' => e = .returned (.bool r) ∧ Below w.heap.size w w' := by
  cases hx : (bF && (bM && (bE && (bQ && (bH && bL))))) with
  | false =>
    have e : r = false := by rw [← hr]; revert hx; cases bF <;> cases bM <;> cases bE <;> cases bQ <;> cases bH <;> cases bL <;> simp
    subst e
    exact l14Ok_no g d b p A3 n3 c3 u v o z mb mp A10 n10 c10 A11 n11 c11 A12 n12 c12 hn sq A15 n15 c15 A16 n16 c16 bd po o0 o1 X bF bM bE bQ bH bL bS bK bN bB bP bI bJ bG bZ true w hX BK hF hM hH qE qQ qL qS qK qN qB qP hel hrX qI qJ qG qZ hx
  | true =>
    have e1 : bF = true := by revert hx; cases bF <;> simp
    have e2 : bM = true := by revert hx; cases bM <;> simp
    have e3 : bE = true := by revert hx; cases bE <;> simp
    have e4 : bQ = true := by revert hx; cases bQ <;> simp
    have e5 : bH = true := by revert hx; cases bH <;> simp
    have e6 : bL = true := by revert hx; cases bL <;> simp
    subst e1 e2 e3 e4 e5 e6
    exact l14Ok_on g d b p A3 n3 c3 u v o z mb mp A10 n10 c10 A11 n11 c11 A12 n12 c12 hn sq A15 n15 c15 A16 n16 c16 bd po o0 o1 X bS bK bN bB bP bI bJ bG bZ r w hX BK hF hM hH qE qQ qL qS qK qN qB qP hel hrX qI qJ qG qZ hr
end Go.Proofs.Ytajocpalpnpmdaa.Q
namespace Go.Proofs.Ytajocpalpnpmdaa.Q
open Go.RowKit Go.Proofs.YtajocpalpnpmdaaW.PrintWords Go.Proofs.YtajocpalpnpmdaaW.PrintMore Go.Proofs.YtajocpalpnpmdaaW.PrintLast
set_option linter.unusedVariables false
set_option linter.unusedSimpArgs false
def ftlS (d b p : Int) (L : List (S92)) (u v z mb mp : Int) (M : List Int) (T : List Bool) (H : List Int) (hn sq : Int) (O X : List Int) (bd po : Int) : Bool :=
  flashB d b p L u v z && (mapB mb mp M T && ((mb == (L.length : Int)) && ((mp == p) && (okHeat H hn && (((H.length : Int) == (M.length : Int)) && (decide (1 ≤ sq ∧ sq ≤ 1000001) && (((O.length : Int) == 2) && (((X.length : Int) == (L.length : Int)) && (decide (1 ≤ bd ∧ bd ≤ 100) && (decide (1 ≤ po ∧ po ≤ 2) && (decide (-1 ≤ rd O 0 ∧ rd O 0 ≤ wrap64 ((L.length : Int) - 1)) && (decide (-1 ≤ rd O 1 ∧ rd O 1 ≤ wrap64 ((L.length : Int) - 1)) && (!(decide (0 ≤ rd O 0) && (rd O 0 == rd O 1)) && allIn X 0 1000000)))))))))))))
theorem elS2 {w : World} {A : Option Addr} {O : List Int} (h : Kd.C (Kd.int .i64) w A O.length O) (hl : O.length = 2) : ∃ ad, A = some ad ∧ w.cell? ad = some (.int .i64 (rd O 0)) ∧ w.cell? ⟨ad.block, ad.off + 1, none⟩ = some (.int .i64 (rd O 1)) := by
  obtain ⟨ad, e0, h0⟩ := Kd.at_int h 0 (by omega) (by omega)
  obtain ⟨ad1, e1, h1⟩ := Kd.at_int h 1 (by omega) (by omega)
  rw [e0] at e1
  injection e1 with e1
  subst e1
  refine ⟨ad, e0, ?_, ?_⟩
  · rw [show ((0 : Int).toNat) = 0 from rfl, Addr.add_zero'] at h0
    exact h0
  · simp only [show (1 : Int).toNat = 1 from rfl, Nat.reduceMul, Nat.reduceEqDiff, Go.Addr.add, ↓reduceIte] at h1
    exact h1
theorem l14Ok_calls (g : Nat) (a0_0 : Int) (a0_1 : Int) (a0_2 : Int) (A0_3 : Option Addr) (c0_3 : Nat) (l0_3 : List (S92)) (a0_4 : Int) (a0_5 : Int) (a0_6 : Bool) (a0_7 : Int) (a0_8 : Int) (a0_9 : Int) (A0_10 : Option Addr) (c0_10 : Nat) (l0_10 : List Int) (A0_11 : Option Addr) (c0_11 : Nat) (l0_11 : List Bool) (A0_12 : Option Addr) (c0_12 : Nat) (l0_12 : List Int) (a0_13 : Int) (a0_14 : Int) (A0_15 : Option Addr) (c0_15 : Nat) (l0_15 : List Int) (A0_16 : Option Addr) (c0_16 : Nat) (l0_16 : List Int) (a0_17 : Int) (a0_18 : Int) (r : Bool) (w : World) (hr0_3 : Kd.C k92 w A0_3 l0_3.length l0_3) (hc0_3 : l0_3.length ≤ c0_3) (hr0_10 : Kd.C (Kd.int .i64) w A0_10 l0_10.length l0_10) (hc0_10 : l0_10.length ≤ c0_10) (hr0_11 : Kd.C Kd.bool w A0_11 l0_11.length l0_11) (hc0_11 : l0_11.length ≤ c0_11) (hr0_12 : Kd.C (Kd.int .i64) w A0_12 l0_12.length l0_12) (hc0_12 : l0_12.length ≤ c0_12) (hr0_15 : Kd.C (Kd.int .i64) w A0_15 l0_15.length l0_15) (hc0_15 : l0_15.length ≤ c0_15) (hr0_16 : Kd.C (Kd.int .i64) w A0_16 l0_16.length l0_16) (hc0_16 : l0_16.length ≤ c0_16) (h : ftlS a0_0 a0_1 a0_2 l0_3 a0_4 a0_5 a0_7 a0_8 a0_9 l0_10 l0_11 l0_12 a0_13 a0_14 l0_15 l0_16 a0_17 a0_18 = r)
    (hs : ∀ x ∈ l0_3, x.f3.length ≤ 9223372036854775807) (hgl : l0_3.length ≤ 9223372036854775806) (BK : w.heap[g]? = some (.cells #[.int .i64 a0_0, .int .i64 a0_1, .int .i64 a0_2, .slice A0_3 l0_3.length c0_3, .int .i64 a0_4, .int .i64 a0_5, .bool a0_6, .int .i64 a0_7, .int .i64 a0_8, .int .i64 a0_9, .slice A0_10 l0_10.length c0_10, .slice A0_11 l0_11.length c0_11, .slice A0_12 l0_12.length c0_12, .int .i64 a0_13, .int .i64 a0_14, .slice A0_15 l0_15.length c0_15, .slice A0_16 l0_16.length c0_16, .int .i64 a0_17, .int .i64 a0_18] 44 (0, 0))) :
    Calls Try.prog 20 #[.pointer (some ⟨g, 0, none⟩)] w fun e w' => e = .returned (.bool r) ∧ Below w.heap.size w w' := by
  have LG := blk_lt BK
  obtain ⟨k, hf⟩ := sflash_ev a0_0 a0_1 a0_2 l0_3 a0_4 a0_5 a0_6 a0_7 hs hgl
  refine l14Ok_core g a0_0 a0_1 a0_2 A0_3 l0_3.length c0_3 a0_4 a0_5 a0_6 a0_7 a0_8 a0_9 A0_10 l0_10.length c0_10 A0_11 l0_11.length c0_11 A0_12 l0_12.length c0_12 a0_13 a0_14 A0_15 l0_15.length c0_15 A0_16 l0_16.length c0_16 a0_17 a0_18 (rd l0_15 0) (rd l0_15 1) l0_16 _ _ _ _ _ _ _ _ _ _ _ _ _ _ _ r w rfl BK ?_ ?_ ?_ rfl rfl rfl rfl rfl rfl rfl rfl ?_ hr0_16 rfl rfl rfl rfl h
  · exact fun W hb => spec_ValidFlash.calls k a0_0 a0_1 a0_2 A0_3 c0_3 l0_3 a0_4 a0_5 a0_6 a0_7 _ W (Kd.C_below hr0_3 hb) hc0_3 (hf k (Nat.le_refl _))
  · exact fun W hb => mapM_calls g a0_8 a0_9 A0_10 c0_10 l0_10 A0_11 c0_11 l0_11 W ((hb.cell LG).trans ((blk_cell BK 8).trans rfl)) ((hb.cell LG).trans ((blk_cell BK 9).trans rfl)) ((hb.cell LG).trans ((blk_cell BK 10).trans rfl)) ((hb.cell LG).trans ((blk_cell BK 11).trans rfl)) (Kd.C_below hr0_10 hb) hc0_10 (Kd.C_below hr0_11 hb) hc0_11
  · exact fun W hb => heatM_calls g A0_12 c0_12 l0_12 a0_13 W ((hb.cell LG).trans ((blk_cell BK 12).trans rfl)) ((hb.cell LG).trans ((blk_cell BK 13).trans rfl)) (Kd.C_below hr0_12 hb) hc0_12
  · exact fun hl => elS2 hr0_15 hl
def spec_ValidFTL.f (a0_0 : Int) (a0_1 : Int) (a0_2 : Int) (l0_3 : List (S92)) (a0_4 : Int) (a0_5 : Int) (a0_6 : Bool) (a0_7 : Int) (a0_8 : Int) (a0_9 : Int) (l0_10 : List Int) (l0_11 : List Bool) (l0_12 : List Int) (a0_13 : Int) (a0_14 : Int) (l0_15 : List Int) (l0_16 : List Int) (a0_17 : Int) (a0_18 : Int) : Option Bool := if l0_3.length ≤ 9223372036854775806 ∧ (l0_3.all fun x => decide (x.f3.length ≤ 8796093022208)) = true then some (ftlS a0_0 a0_1 a0_2 l0_3 a0_4 a0_5 a0_7 a0_8 a0_9 l0_10 l0_11 l0_12 a0_13 a0_14 l0_15 l0_16 a0_17 a0_18) else none
end Go.Proofs.Ytajocpalpnpmdaa.Q
