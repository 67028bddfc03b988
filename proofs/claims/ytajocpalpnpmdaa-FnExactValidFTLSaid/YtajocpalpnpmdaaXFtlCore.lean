/- The program's ValidFTL, over the known answers of its calls. Conditions: those before each theorem. -/
import Derived.Test.YtajocpalpnpmdaaXFtlCoreB
namespace Go.Proofs.Ytajocpalpnpmdaa.Q
open Go.RowKit Go.Proofs.YtajocpalpnpmdaaW.PrintWords Go.Proofs.YtajocpalpnpmdaaW.PrintMore Go.Proofs.YtajocpalpnpmdaaW.PrintLast
set_option linter.unusedVariables false
set_option linter.unusedSimpArgs false
theorem ftlI_core (d b p : Int) (A3 : Option Addr) (n3 c3 : Nat) (u v : Int) (o : Bool) (z mb mp : Int) (A10 : Option Addr) (n10 c10 : Nat) (A11 : Option Addr) (n11 c11 : Nat) (A12 : Option Addr) (n12 c12 : Nat) (hn sq : Int) (A15 : Option Addr) (n15 c15 : Nat) (A16 : Option Addr) (n16 c16 : Nat) (bd po : Int) (bP : Bool) (bF bM bE bQ bH bL bS bO bN bX r : Bool) (w : World)
    (hF : ∀ W, Below w.heap.size w W → Calls Try.prog 25 #[.agg #[.int .i64 d, .int .i64 b, .int .i64 p, .slice A3 n3 c3, .int .i64 u, .int .i64 v, .bool o, .int .i64 z]] W fun e w' => e = .returned (.bool bF) ∧ Below W.heap.size W w')
    (hM : ∀ W, Below w.heap.size w W → Calls Try.prog 26 #[.agg #[.int .i64 mb, .int .i64 mp, .slice A10 n10 c10, .slice A11 n11 c11]] W fun e w' => e = .returned (.bool bM) ∧ Below W.heap.size W w')
    (hA : ∀ W, Calls Try.prog 27 #[.agg #[.int .i64 d, .int .i64 b, .int .i64 p]] W fun e w' => e = .returned (.int .i64 (wrap64 (d * b))) ∧ Below W.heap.size W w')
    (hH : ∀ W, Below w.heap.size w W → Calls Try.prog 28 #[.agg #[.slice A12 n12 c12, .int .i64 hn]] W fun e w' => e = .returned (.bool bH) ∧ Below W.heap.size W w')
    (hS : ∀ W, Calls Try.prog 29 #[.int .i64 sq, .int .i64 1, .int .i64 1000001] W fun e w' => e = .returned (.bool bS) ∧ Below W.heap.size W w')
    (hO : ∀ W, Below w.heap.size w W → Calls Try.prog 30 #[.agg #[.int .i64 d, .int .i64 b, .int .i64 p, .slice A3 n3 c3, .int .i64 u, .int .i64 v, .bool o, .int .i64 z, .int .i64 mb, .int .i64 mp, .slice A10 n10 c10, .slice A11 n11 c11, .slice A12 n12 c12, .int .i64 hn, .int .i64 sq, .slice A15 n15 c15, .slice A16 n16 c16, .int .i64 bd, .int .i64 po]] W fun e w' => e = .returned (.bool bO) ∧ Below W.heap.size W w')
    (hX : ∀ W, Below w.heap.size w W → Calls Try.prog 31 #[.slice A16 n16 c16, .int .i64 0, .int .i64 1000000] W fun e w' => e = .returned (.bool bX) ∧ Below W.heap.size W w')
    (hP : ∀ W, Calls Try.prog 32 #[.int .i64 bd, .int .i64 po] W fun e w' => e = .returned (.bool bP) ∧ Below W.heap.size W w')
    (qE : (mb == wrap64 (d * b)) = bE)
    (qQ : (mp == p) = bQ)
    (qL : ((n12 : Int) == (n10 : Int)) = bL)
    (qN : ((n16 : Int) == wrap64 (d * b)) = bN)
    (hr : (bF && (bM && (bE && (bQ && (bH && (bL && (bS && (bO && (bN && (bX && bP)))))))))) = r) :
    Calls Try.prog 8 #[.agg #[.int .i64 d, .int .i64 b, .int .i64 p, .slice A3 n3 c3, .int .i64 u, .int .i64 v, .bool o, .int .i64 z, .int .i64 mb, .int .i64 mp, .slice A10 n10 c10, .slice A11 n11 c11, .slice A12 n12 c12, .int .i64 hn, .int .i64 sq, .slice A15 n15 c15, .slice A16 n16 c16, .int .i64 bd, .int .i64 po]] w fun e w' => e = .returned (.bool r) ∧ Below w.heap.size w w' := by
  cases hx : (bF && (bM && (bE && bQ))) with
  | false =>
    have e : r = false := by rw [← hr]; revert hx; cases bF <;> cases bM <;> cases bE <;> cases bQ <;> simp
    subst e
    exact ftlI_no d b p A3 n3 c3 u v o z mb mp A10 n10 c10 A11 n11 c11 A12 n12 c12 hn sq A15 n15 c15 A16 n16 c16 bd po bP bF bM bE bQ bH bL bS bO bN bX true w hF hM hA hH hS hO hX hP qE qQ qL qN hx
  | true =>
    have e1 : bF = true := by revert hx; cases bF <;> simp
    have e2 : bM = true := by revert hx; cases bM <;> simp
    have e3 : bE = true := by revert hx; cases bE <;> simp
    have e4 : bQ = true := by revert hx; cases bQ <;> simp
    subst e1 e2 e3 e4
    exact ftlI_on d b p A3 n3 c3 u v o z mb mp A10 n10 c10 A11 n11 c11 A12 n12 c12 hn sq A15 n15 c15 A16 n16 c16 bd po bP bH bL bS bO bN bX r w hF hM hA hH hS hO hX hP qE qQ qL qN hr
end Go.Proofs.Ytajocpalpnpmdaa.Q
