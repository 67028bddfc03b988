/- A struct's cells stored at once, in a region that draws its order. Conditions: those before each theorem. -/
import Derived.Test.YtaecdlhomihejaaOpaque
import Derived.Test.YtaecdlhomihejaaWLast
import Derived.Test.YtaecdlhomihejaaWMore
namespace Go.Proofs.Ytaecdlhomihejaa.Q
open Go.RowKit Go.Proofs.YtaecdlhomihejaaW.PrintWords Go.Proofs.YtaecdlhomihejaaW.PrintLast Go.Proofs.YtaecdlhomihejaaW.PrintMore
set_option linter.unusedVariables false
theorem store_seg_step {P : Program} {ops : Array Oper} {Q : Exit → Act → World → Prop} {oi : Oper} {a : Act} {W : World} {K : Act → World → Prop} (t : TypeId) (p x : Operand) (hw : Region.wanted oi (yielded ops a.tmps) = true) (hdst : oi.dst = none) (ho : oi.op = .store t p x)
    (g off : Nat) (hp : a.eval p = .pointer (some ⟨g, off, none⟩)) (cur : List Value) {e : TypeId} (hh : W.heap[g]? = some (.cells cur.toArray e (0, 0))) (seg : List Value) (hx : (a.eval x).cells.toList = seg)
    (ht : (P.info? t).map (·.size) = some seg.length) (hfit : off + seg.length ≤ cur.length) (h1 : ∀ q ∈ seg, q.oneCell' = true) (new : List Value) (hnew : cur.take off ++ seg ++ cur.drop (off + seg.length) = new)
    (h : ∀ w1, w1.heap[g]? = some (.cells new.toArray e (0, 0)) → W.grownBy w1 (some g) → K a w1) : if Region.wanted oi (yielded ops a.tmps) = true then Oper.wp P oi a W K Q else K (a.put none undef) W := by
  subst hnew
  have hrun := run_store_run (P := P) (w := W) (g := g) (o := off) t (a.eval x) seg hh hx ht (by simpa using hfit) h1
  obtain ⟨cur', h3, h4, h5⟩ := setCells_row seg off W cur.toArray hh (by simpa using hfit)
  obtain ⟨s1, s2, s3, s4⟩ := setCells_same g seg off W
  have he : cur' = (cur.take off ++ seg ++ cur.drop (off + seg.length)).toArray := by rw [← h5]
  rw [he] at h3
  refine skip_ (w1 := W.setCells g off seg) hw hdst ?_ (h (W.setCells g off seg) h3 ⟨s1, s2, s3, by rw [s4]; exact Nat.le_refl _, fun k _ hk => setCells_far seg off k (fun e => hk (by rw [e]))⟩)
  unfold execOp
  simp only [ho, hp, Sem.run_bind, Sem.run_pure, Result.andThen_ok, hrun]
theorem below_grown2 {w W w1 : World} {g : Nat} (h : Below w.heap.size w W) (hg : W.grownBy w1 (some g)) (hb : w.heap.size ≤ g) : Below w.heap.size w w1 := below_grown h hg hb
theorem allOne19 {v0 v1 v2 v3 v4 v5 v6 v7 v8 v9 v10 v11 v12 v13 v14 v15 v16 v17 v18 : Value} (h0 : v0.oneCell' = true) (h1 : v1.oneCell' = true) (h2 : v2.oneCell' = true) (h3 : v3.oneCell' = true) (h4 : v4.oneCell' = true) (h5 : v5.oneCell' = true) (h6 : v6.oneCell' = true) (h7 : v7.oneCell' = true) (h8 : v8.oneCell' = true) (h9 : v9.oneCell' = true) (h10 : v10.oneCell' = true) (h11 : v11.oneCell' = true) (h12 : v12.oneCell' = true) (h13 : v13.oneCell' = true) (h14 : v14.oneCell' = true) (h15 : v15.oneCell' = true) (h16 : v16.oneCell' = true) (h17 : v17.oneCell' = true) (h18 : v18.oneCell' = true) : ∀ q ∈ [v0, v1, v2, v3, v4, v5, v6, v7, v8, v9, v10, v11, v12, v13, v14, v15, v16, v17, v18], q.oneCell' = true := by
  intro q hq
  simp only [List.mem_cons, List.not_mem_nil, or_false] at hq
  rcases hq with rfl | rfl | rfl | rfl | rfl | rfl | rfl | rfl | rfl | rfl | rfl | rfl | rfl | rfl | rfl | rfl | rfl | rfl | rfl <;> assumption
end Go.Proofs.Ytaecdlhomihejaa.Q
