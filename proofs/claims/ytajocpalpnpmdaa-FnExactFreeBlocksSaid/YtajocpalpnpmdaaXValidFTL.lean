/- The contract of the program's ValidFTL. Conditions: those before each theorem. -/
import Derived.Test.YtajocpalpnpmdaaXFtlCoreB
import Derived.Test.YtajocpalpnpmdaaXFlash
import Derived.Test.YtajocpalpnpmdaaXIMap
import Derived.Test.YtajocpalpnpmdaaXOpenI
import Derived.Test.YtajocpalpnpmdaaHeatV
import Derived.Test.YtajocpalpnpmdaaQ5
namespace Go.Proofs.Ytajocpalpnpmdaa.Q
open Go.RowKit Go.Proofs.YtajocpalpnpmdaaW.PrintWords Go.Proofs.YtajocpalpnpmdaaW.PrintMore Go.Proofs.YtajocpalpnpmdaaW.PrintLast
set_option linter.unusedVariables false
set_option linter.unusedSimpArgs false
theorem ftlI_core (d b p : Int) (A3 : Option Addr) (n3 c3 : Nat) (u v : Int) (o : Bool) (z mb mp : Int) (A10 : Option Addr) (n10 c10 : Nat) (A11 : Option Addr) (n11 c11 : Nat) (A12 : Option Addr) (n12 c12 : Nat) (hn sq : Int) (A15 : Option Addr) (n15 c15 : Nat) (A16 : Option Addr) (n16 c16 : Nat) (bd po : Int) (bP : Bool) (bF bM bE bQ bH bL bS bO bN bX r : Bool) (w : World)
    (hF : ∀ W, Below w.heap.size w W → Calls Try.prog 25 #[.agg #[.int .i64 d, .int .i64 b, .int .i64 p, .slice A3 n3 c3, .int .i64 u, .int .i64 v, .bool o, .int .i64 z]] W fun e w' => e = .returned (.bool bF) ∧ Below W.heap.size W w')
    (hM : ∀ W, Below w.heap.size w W → Calls Try.prog 26 #[.agg #[.int .i64 mb, .int .i64 mp, .slice A10 n10 c10, .slice A11 n11 c11]] W fun e w' => e = .returned (.bool bM) ∧ Below W.heap.size W w')
    (hA : ∀ W, Calls Try.prog 27 #[.agg #[.int .i64 d, .int .i64 b, .int .i64 p]] W fun e w' => e = .returned (.int .i64 (wrap64 (d * b))) ∧ Below W.heap.size W w')
    (hH : ∀ W, Below w.heap.size w W → Calls Try.prog 28 #[.agg #[.slice A12 n12 c12, .int .i64 hn]] W fun e w' => e = .returned (.bool bH) ∧ Below W.heap.size W w')
    (hS : ∀ W, Calls Try.prog 29 #[.int .i64 sq, .int .i64 1, .int .i64 1000001] W fun e w' => e = .returned (.bool bS) ∧ Below W.heap.size W w')
    (hO : ∀ W, Below w.heap.size w W → Calls Try.prog 30 #[.agg #[.int .i64 d, .int .i64 b, .int .i64 p, .slice A3 n3 c3, .int .i64 u, .int .i64 v, .bool o, .int .i64 z, .int .i64 mb, .int .i64 mp, .slice A10 n10 c10, .slice A11 n11 c11, .slice A12 n12 c12, .int .i64 hn, .int .i64 sq, .slice A15 n15 c15, .slice A16 n16 c16, .int .i64 bd, .int .i64 po]] W fun e w' => e = .returned (.bool bO) ∧ Below W.heap.size W w')
    (hX : ∀ W, Below w.heap.size w W → Calls Try.prog 31 #[.slice A16 n16 c16, .int .i64 0, .int .i64 1000000] W fun e w' => e = .returned (.bool bX) ∧ Below W.heap.size W w')
    (hP : ∀ W, Calls Try.prog 32 #[.int .i64 bd, .int .i64 po] W fun e w' => e = .returned (.bool bP) ∧ Below W.heap.size W w')
    (qE : (mb == wrap64 (d * b)) = bE)
    (qQ : (mp == p) = bQ)
    (qL : ((n12 : Int) == (n10 : Int)) = bL)
    (qN : ((n16 : Int) == wrap64 (d * b)) = bN)
    (hr : (bF && (bM && (bE && (bQ && (bH && (bL && (bS && (bO && (bN && (bX && bP)))))))))) = r) :
    Calls Try.prog 8 #[.agg #[.int .i64 d, .int .i64 b, .int .i64 p, .slice A3 n3 c3, .int .i64 u, .int .i64 v, .bool o, .int .i64 z, .int .i64 mb, .int .i64 mp, .slice A10 n10 c10, .slice A11 n11 c11, .slice A12 n12 c12, .int .i64 hn, .int .i64 sq, .slice A15 n15 c15, .slice A16 n16 c16, .int .i64 bd, .int .i64 po]] w fun e w' => e = .returned (.bool r) ∧ Below w.heap.size w w' := by
  cases hx : (bF && (bM && (bE && bQ))) with
  | false =>
    have e : r = false := by rw [← hr]; revert hx; cases bF <;> cases bM <;> cases bE <;> cases bQ <;> simp
    subst e
    exact ftlI_no d b p A3 n3 c3 u v o z mb mp A10 n10 c10 A11 n11 c11 A12 n12 c12 hn sq A15 n15 c15 A16 n16 c16 bd po bP bF bM bE bQ bH bL bS bO bN bX true w hF hM hA hH hS hO hX hP qE qQ qL qN hx
  | true =>
    have e1 : bF = true := by revert hx; cases bF <;> simp
    have e2 : bM = true := by revert hx; cases bM <;> simp
    have e3 : bE = true := by revert hx; cases bE <;> simp
    have e4 : bQ = true := by revert hx; cases bQ <;> simp
    subst e1 e2 e3 e4
    exact ftlI_on d b p A3 n3 c3 u v o z mb mp A10 n10 c10 A11 n11 c11 A12 n12 c12 hn sq A15 n15 c15 A16 n16 c16 bd po bP bH bL bS bO bN bX r w hF hM hA hH hS hO hX hP qE qQ qL qN hr
end Go.Proofs.Ytajocpalpnpmdaa.Q
namespace Go.Proofs.Ytajocpalpnpmdaa.Q
open Go.RowKit Go.Proofs.YtajocpalpnpmdaaW.PrintWords Go.Proofs.YtajocpalpnpmdaaW.PrintMore Go.Proofs.YtajocpalpnpmdaaW.PrintLast
set_option linter.unusedVariables false
set_option linter.unusedSimpArgs false
theorem toBelow {w w' : World} (h : Drawn0 w w') : Below w.heap.size w w' := by
  obtain ⟨nn, rfl⟩ := h.out
  exact pw_below_drewN (Below.refl _ _) nn
def ftlI (d b p : Int) (L : List (S92)) (u v z mb mp : Int) (M : List Int) (T : List Bool) (H : List Int) (hn sq : Int) (O X : List Int) (bd po : Int) : Bool :=
  flashB d b p L u v z && (mapB mb mp M T && ((mb == wrap64 (d * b)) && ((mp == p) && (okHeat H hn && (((H.length : Int) == (M.length : Int)) && (decide (1 ≤ sq ∧ sq ≤ 1000001) && (openB O (wrap64 (d * b)) && (((X.length : Int) == wrap64 (d * b)) && (allIn X 0 1000000 && (decide (1 ≤ bd ∧ bd ≤ 100) && decide (1 ≤ po ∧ po ≤ 2)))))))))))
def impl_ValidFTL.f (a0_0 : Int) (a0_1 : Int) (a0_2 : Int) (l0_3 : List (S92)) (a0_4 : Int) (a0_5 : Int) (a0_6 : Bool) (a0_7 : Int) (a0_8 : Int) (a0_9 : Int) (l0_10 : List Int) (l0_11 : List Bool) (l0_12 : List Int) (a0_13 : Int) (a0_14 : Int) (l0_15 : List Int) (l0_16 : List Int) (a0_17 : Int) (a0_18 : Int) : Option Bool := some (ftlI a0_0 a0_1 a0_2 l0_3 a0_4 a0_5 a0_7 a0_8 a0_9 l0_10 l0_11 l0_12 a0_13 a0_14 l0_15 l0_16 a0_17 a0_18)
theorem policyOk_eq (a b : Int) : impl_policyOk.f a b = some (decide (1 ≤ a ∧ a ≤ 100) && decide (1 ≤ b ∧ b ≤ 2)) := by
  unfold impl_policyOk.f
  rw [within_eq, within_eq]
  cases decide (1 ≤ a ∧ a ≤ 100) <;> rfl
theorem impl_ValidFTL.calls (a0_0 : Int) (a0_1 : Int) (a0_2 : Int) (A0_3 : Option Addr) (c0_3 : Nat) (l0_3 : List (S92)) (a0_4 : Int) (a0_5 : Int) (a0_6 : Bool) (a0_7 : Int) (a0_8 : Int) (a0_9 : Int) (A0_10 : Option Addr) (c0_10 : Nat) (l0_10 : List Int) (A0_11 : Option Addr) (c0_11 : Nat) (l0_11 : List Bool) (A0_12 : Option Addr) (c0_12 : Nat) (l0_12 : List Int) (a0_13 : Int) (a0_14 : Int) (A0_15 : Option Addr) (c0_15 : Nat) (l0_15 : List Int) (A0_16 : Option Addr) (c0_16 : Nat) (l0_16 : List Int) (a0_17 : Int) (a0_18 : Int) (r : Bool) (w : World) (hr0_3 : Kd.C k92 w A0_3 l0_3.length l0_3) (hc0_3 : l0_3.length ≤ c0_3) (hr0_10 : Kd.C (Kd.int .i64) w A0_10 l0_10.length l0_10) (hc0_10 : l0_10.length ≤ c0_10) (hr0_11 : Kd.C Kd.bool w A0_11 l0_11.length l0_11) (hc0_11 : l0_11.length ≤ c0_11) (hr0_12 : Kd.C (Kd.int .i64) w A0_12 l0_12.length l0_12) (hc0_12 : l0_12.length ≤ c0_12) (hr0_15 : Kd.C (Kd.int .i64) w A0_15 l0_15.length l0_15) (hc0_15 : l0_15.length ≤ c0_15) (hr0_16 : Kd.C (Kd.int .i64) w A0_16 l0_16.length l0_16) (hc0_16 : l0_16.length ≤ c0_16) (h : impl_ValidFTL.f a0_0 a0_1 a0_2 l0_3 a0_4 a0_5 a0_6 a0_7 a0_8 a0_9 l0_10 l0_11 l0_12 a0_13 a0_14 l0_15 l0_16 a0_17 a0_18 = some r) :
    Calls Try.prog 8 #[.agg #[.int .i64 a0_0, .int .i64 a0_1, .int .i64 a0_2, .slice A0_3 l0_3.length c0_3, .int .i64 a0_4, .int .i64 a0_5, .bool a0_6, .int .i64 a0_7, .int .i64 a0_8, .int .i64 a0_9, .slice A0_10 l0_10.length c0_10, .slice A0_11 l0_11.length c0_11, .slice A0_12 l0_12.length c0_12, .int .i64 a0_13, .int .i64 a0_14, .slice A0_15 l0_15.length c0_15, .slice A0_16 l0_16.length c0_16, .int .i64 a0_17, .int .i64 a0_18]] w fun e w' => e = .returned (.bool r) ∧ Below w.heap.size w w' := by
  have h := Option.some.inj h
  refine ftlI_core a0_0 a0_1 a0_2 A0_3 l0_3.length c0_3 a0_4 a0_5 a0_6 a0_7 a0_8 a0_9 A0_10 l0_10.length c0_10 A0_11 l0_11.length c0_11 A0_12 l0_12.length c0_12 a0_13 a0_14 A0_15 l0_15.length c0_15 A0_16 l0_16.length c0_16 a0_17 a0_18 _ _ _ _ _ _ _ _ _ _ _ r w ?_ ?_ ?_ ?_ ?_ ?_ ?_ ?_ rfl rfl rfl rfl h
  · exact fun W hb => impl_ValidFlash.calls a0_0 a0_1 a0_2 A0_3 c0_3 l0_3 a0_4 a0_5 a0_6 a0_7 _ W (Kd.C_below hr0_3 hb) hc0_3 rfl
  · exact fun W hb => iMap_calls a0_8 a0_9 A0_10 c0_10 l0_10 A0_11 c0_11 l0_11 W (Kd.C_below hr0_10 hb) hc0_10 (Kd.C_below hr0_11 hb) hc0_11
  · exact fun W => impl_Geometry_all.calls a0_0 a0_1 a0_2 _ W rfl
  · exact fun W hb => (impl_ValidHeat.calls A0_12 c0_12 l0_12 a0_13 _ W (Kd.C_below hr0_12 hb) hc0_12 (implHeat_eq _ _))
  · exact fun W => (impl_within.calls a0_14 1 1000001 _ W (within_eq _ _ _)).mono fun e w' ⟨he, hd⟩ => ⟨he, toBelow hd⟩
  · exact fun W hb => impl_FTL_openOk.calls a0_0 a0_1 a0_2 A0_3 c0_3 l0_3 a0_4 a0_5 a0_6 a0_7 a0_8 a0_9 A0_10 c0_10 l0_10 A0_11 c0_11 l0_11 A0_12 c0_12 l0_12 a0_13 a0_14 A0_15 c0_15 l0_15 A0_16 c0_16 l0_16 a0_17 a0_18 _ W (Kd.C_below hr0_3 hb) hc0_3 (Kd.C_below hr0_10 hb) hc0_10 (Kd.C_below hr0_11 hb) hc0_11 (Kd.C_below hr0_12 hb) hc0_12 (Kd.C_below hr0_15 hb) hc0_15 (Kd.C_below hr0_16 hb) hc0_16 rfl
  · exact fun W hb => impl_allWithin.calls A0_16 c0_16 l0_16 0 1000000 _ W (Kd.C_below hr0_16 hb) hc0_16 rfl
  · exact fun W => (impl_policyOk.calls a0_17 a0_18 _ W (policyOk_eq _ _)).mono fun e w' ⟨he, hd⟩ => ⟨he, toBelow hd⟩
end Go.Proofs.Ytajocpalpnpmdaa.Q
