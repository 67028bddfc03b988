/- The specification's test of a flash translation layer, over the known answers of its calls. Conditions: those before each theorem. -/
import Derived.Test.YtajocpalpnpmdaaXMidCoreB
namespace Go.Proofs.Ytajocpalpnpmdaa.Q
open Go.RowKit Go.Proofs.YtajocpalpnpmdaaW.PrintWords Go.Proofs.YtajocpalpnpmdaaW.PrintMore Go.Proofs.YtajocpalpnpmdaaW.PrintLast
set_option linter.unusedVariables false
set_option linter.unusedSimpArgs false
theorem l14Ok_core (g : Nat) (d b p : Int) (A3 : Option Addr) (n3 c3 : Nat) (u v : Int) (o : Bool) (z mb mp : Int) (A10 : Option Addr) (n10 c10 : Nat) (A11 : Option Addr) (n11 c11 : Nat) (A12 : Option Addr) (n12 c12 : Nat) (hn sq : Int) (A15 : Option Addr) (n15 c15 : Nat) (A16 : Option Addr) (n16 c16 : Nat) (bd po : Int) (o0 o1 : Int) (X : List Int) (bF bM bE bQ bH bL bS bK bN bB bP bI bJ bG bZ r : Bool) (w : World) (hX : n16 = X.length)
    (BK : w.heap[g]? = some (.cells #[.int .i64 d, .int .i64 b, .int .i64 p, .slice A3 n3 c3, .int .i64 u, .int .i64 v, .bool o, .int .i64 z, .int .i64 mb, .int .i64 mp, .slice A10 n10 c10, .slice A11 n11 c11, .slice A12 n12 c12, .int .i64 hn, .int .i64 sq, .slice A15 n15 c15, .slice A16 n16 c16, .int .i64 bd, .int .i64 po] 44 (0, 0)))
    (hF : ∀ W, Below w.heap.size w W → Calls Try.prog 44 #[.agg #[.int .i64 d, .int .i64 b, .int .i64 p, .slice A3 n3 c3, .int .i64 u, .int .i64 v, .bool o, .int .i64 z]] W fun e w' => e = .returned (.bool bF) ∧ Below W.heap.size W w')
    (hM : ∀ W, Below w.heap.size w W → Calls Try.prog 45 #[.pointer (some ⟨g, 8, none⟩)] W fun e w' => e = .returned (.bool bM) ∧ Below W.heap.size W w')
    (hH : ∀ W, Below w.heap.size w W → Calls Try.prog 46 #[.pointer (some ⟨g, 12, none⟩)] W fun e w' => e = .returned (.bool bH) ∧ Below W.heap.size W w')
    (qE : (mb == (n3 : Int)) = bE)
    (qQ : (mp == p) = bQ)
    (qL : ((n12 : Int) == (n10 : Int)) = bL)
    (qS : decide (1 ≤ sq ∧ sq ≤ 1000001) = bS)
    (qK : ((n15 : Int) == 2) = bK)
    (qN : ((n16 : Int) == (n3 : Int)) = bN)
    (qB : decide (1 ≤ bd ∧ bd ≤ 100) = bB)
    (qP : decide (1 ≤ po ∧ po ≤ 2) = bP)
    (hel : n15 = 2 → ∃ ad, A15 = some ad ∧ w.cell? ad = some (.int .i64 o0) ∧ w.cell? ⟨ad.block, ad.off + 1, none⟩ = some (.int .i64 o1))
    (hrX : Kd.C (Kd.int .i64) w A16 X.length X)
    (qI : decide (-1 ≤ o0 ∧ o0 ≤ wrap64 ((n3 : Int) - 1)) = bI)
    (qJ : decide (-1 ≤ o1 ∧ o1 ≤ wrap64 ((n3 : Int) - 1)) = bJ)
    (qG : decide (0 ≤ o0) = bG)
    (qZ : (o0 == o1) = bZ)
    (hr : (bF && (bM && (bE && (bQ && (bH && (bL && (bS && (bK && (bN && (bB && (bP && (bI && (bJ && (!(bG && bZ) && allIn X 0 1000000)))))))))))))) = r) :
    Calls Try.prog 20 #[.pointer (some ⟨g, 0, none⟩)] w fun e w' => e = .returned (.bool r) ∧ Below w.heap.size w w' := by
  cases hx : (bF && (bM && (bE && (bQ && (bH && bL))))) with
  | false =>
    have e : r = false := by rw [← hr]; revert hx; cases bF <;> cases bM <;> cases bE <;> cases bQ <;> cases bH <;> cases bL <;> simp
    subst e
    exact l14Ok_no g d b p A3 n3 c3 u v o z mb mp A10 n10 c10 A11 n11 c11 A12 n12 c12 hn sq A15 n15 c15 A16 n16 c16 bd po o0 o1 X bF bM bE bQ bH bL bS bK bN bB bP bI bJ bG bZ true w hX BK hF hM hH qE qQ qL qS qK qN qB qP hel hrX qI qJ qG qZ hx
  | true =>
    have e1 : bF = true := by revert hx; cases bF <;> simp
    have e2 : bM = true := by revert hx; cases bM <;> simp
    have e3 : bE = true := by revert hx; cases bE <;> simp
    have e4 : bQ = true := by revert hx; cases bQ <;> simp
    have e5 : bH = true := by revert hx; cases bH <;> simp
    have e6 : bL = true := by revert hx; cases bL <;> simp
    subst e1 e2 e3 e4 e5 e6
    exact l14Ok_on g d b p A3 n3 c3 u v o z mb mp A10 n10 c10 A11 n11 c11 A12 n12 c12 hn sq A15 n15 c15 A16 n16 c16 bd po o0 o1 X bS bK bN bB bP bI bJ bG bZ r w hX BK hF hM hH qE qQ qL qS qK qN qB qP hel hrX qI qJ qG qZ hr
end Go.Proofs.Ytajocpalpnpmdaa.Q
