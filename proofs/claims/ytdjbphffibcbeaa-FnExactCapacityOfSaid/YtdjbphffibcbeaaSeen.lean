/- A set of whole numbers kept as a map to bools that the call makes: 'seen[x]' read and written. Conditions: those before each theorem. -/
import Derived.Test.YtdjbphffibcbeaaQ0
import Derived.Maps.Own
import Derived.Maps.OwnOps
import Derived.Maps.Views
namespace Go.Proofs.Ytdjbphffibcbeaa.Q
open Go.RowKit Go.Maps Go.Proofs.YtdjbphffibcbeaaW.PrintWords
set_option linter.unusedVariables false
theorem plainElem_bool_inv {H : Type} {P : Program} {e : TypeId} (he : P.underlying e = some .bool) {v : Value} {z : DataW H × List MemPlace} (h : plainElem P e v = some z) : ∃ a, v = .bool a ∧ z = (.lit (.bool a), []) := by
  unfold plainElem at h
  rw [he] at h
  cases v <;> simp at h
  exact ⟨_, rfl, h.symm⟩
theorem lookup_bool {H : Type} {P : Program} {w : World} {k : TypeId} {b n : Nat} {D : DataW H} {t e : TypeId} (h : w.ownsMap P k (plainElem P e) b n D) (K : Keyed P k) (ht : P.underlying t = some (.map k e)) (he : P.underlying e = some .bool) (hz : (zeroValue e).run P w = .ok (.bool false) w)
    {key : Value} {kl : Lit} (hkey : keyOf P k key = some kl) : ∃ c, (Instr.lookup t (.map (some b)) key false).run P w = .ok (.bool c) w ∧ D.atKey kl (.lit (.bool false)) = .lit (.bool c) := by
  obtain ⟨v, ps, hrun, hv⟩ := h.lookup K ht hz (plainElem_bool he false) hkey
  obtain ⟨c, rfl, hc⟩ := plainElem_bool_inv he hv
  simp only [Prod.mk.injEq] at hc
  exact ⟨c, hrun, hc.1⟩
def seenD (xs : List Int) : DataW Unit := xs.foldl (fun m x => m.put (.int .i64 x) (.lit (.bool true))) (.map [])
theorem seenD_snoc (xs : List Int) (x : Int) : seenD (xs ++ [x]) = (seenD xs).put (.int .i64 x) (.lit (.bool true)) := by simp [seenD, List.foldl_append]
theorem seen_fold (s : Int) : ∀ (xs : List Int) (m : DataW Unit) (c : Bool), IsMap m → m.atKey (.int .i64 s) (.lit (.bool false)) = .lit (.bool c) →
    (xs.foldl (fun m x => m.put (.int .i64 x) (.lit (.bool true))) m).atKey (.int .i64 s) (.lit (.bool false)) = .lit (.bool (c || xs.any fun x => x == s))
  | [], m, c, _, h => by simpa using h
  | x :: xs, m, c, hm, h => by
    rw [List.foldl_cons, List.any_cons, ← Bool.or_assoc]
    refine seen_fold s xs _ _ (hm.put _ _) ?_
    by_cases e : x = s
    · subst e
      rw [atKey_put_same hm (by simp [WideAt.IsKeyLit])]
      simp
    · rw [atKey_put_other (by intro q; injection q with _ q2; exact e q2.symm), h, show (x == s) = false from by simpa using e, Bool.or_false]
theorem seen_at (xs : List Int) (s : Int) : (seenD xs).atKey (.int .i64 s) (.lit (.bool false)) = .lit (.bool (xs.any fun x => x == s)) := by
  have h := seen_fold s xs (.map []) false isMap_empty rfl
  simpa [seenD] using h
end Go.Proofs.Ytdjbphffibcbeaa.Q
