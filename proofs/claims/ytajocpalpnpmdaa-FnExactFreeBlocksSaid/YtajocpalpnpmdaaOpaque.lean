/- Structs as opaque rows of cells: a load of a block's cells, a new variable and the store into it. Conditions: those before each theorem. -/
import Derived.Test.YtajocpalpnpmdaaQ0
import Derived.Deep.MidRow
import Derived.Deep.WholeRow
namespace Go.Proofs.Ytajocpalpnpmdaa.Q
open Go.RowKit Go.Proofs.YtajocpalpnpmdaaW.PrintWords
set_option linter.unusedVariables false
theorem range_of_blk {w : World} {g : Nat} {cs : List Value} {t : TypeId} (h : w.heap[g]? = some (.cells cs.toArray t (0, 0))) : w.rangeAt g 0 cs := by
  intro j v hj
  rw [cell_of_row w g _ cs.toArray t (0, 0) h]
  simpa using hj
theorem alloc_store_event {P : Program} {ops : Array Oper} {rest : List Oper} {o1 o2 : Oper} {a : Act} {Q : Exit → Act → World → Prop} {W : World} (N : Tmp) (t : TypeId) (y : Operand) (hd : o1.dst = some N) (g1 : o1.guard = none) (ho1 : o1.op = .alloc t)
    (g2 : o2.guard = none) (ho2 : o2.op = .store t (.tmp N) y) {cs : List Value} (hy : (a.put (some N) (.pointer (some ⟨W.heap.size, 0, none⟩))).eval y = .agg cs.toArray)
    (hp : (a.put (some N) (.pointer (some ⟨W.heap.size, 0, none⟩))).eval (.tmp N) = .pointer (some ⟨W.heap.size, 0, none⟩)) (h1 : ∀ q ∈ cs, q.oneCell' = true)
    {z : Value} (hz : (P.info? t).map (fun i => (i.zero, i.size)) = some (some z, cs.length)) (hzc : z.cells.size = cs.length)
    (h : ∀ g, g = W.heap.size → ∀ w1, w1.heap[g]? = some (.cells cs.toArray t (0, 0)) → Below W.heap.size W w1 → wpList P ops Q rest ((a.put o1.dst (.pointer (some ⟨g, 0, none⟩))).put o2.dst undef) w1) : wpList P ops Q (o1 :: o2 :: rest) a W := by
  obtain ⟨i, hi, hii⟩ := Option.map_eq_some_iff.1 hz
  have hiz : i.zero = some z := congrArg Prod.fst hii
  have his : i.size = cs.length := congrArg Prod.snd hii
  have hrun : (execOp a.eval o1).run P W = .ok (.value (.pointer (some ⟨W.heap.size, 0, none⟩))) (W.alloc (.cells z.cells t (0, 0))) := by
    unfold execOp
    simp [ho1, Instr.alloc, zeroValue, typeInfo, hi, hiz, newVar, newRow]
  refine Kd.event_run g1 hrun ?_
  refine wpList_plain g2 fun K hK => ?_
  have hst := run_storeAt_new (P := P) W t z.cells cs.toArray (by rw [hi]; simp [his]) (by rw [hzc]; simp) (by simpa using h1)
  rw [hd]
  unfold Oper.wp execOp
  simp only [ho2, hy, hp, Sem.run_bind, Sem.run_pure, Result.andThen_ok, hst]
  have := h W.heap.size rfl (W.alloc (.cells cs.toArray t (0, 0))) (heap_alloc_new W _) (below_alloc (Below.refl _ _) _)
  rw [hd] at this
  exact hK _ _ this
theorem range_part {w : World} {g : Nat} {t : TypeId} (all : List Value) (h : w.heap[g]? = some (.cells all.toArray t (0, 0))) (off : Nat) (cs : List Value) (hcs : (all.drop off).take cs.length = cs) : w.rangeAt g off cs := by
  intro j v hj
  have hl := (List.getElem?_eq_some_iff.1 hj).1
  rw [← hcs, List.getElem?_take, if_pos hl, List.getElem?_drop] at hj
  rw [cell_of_row w g _ all.toArray t (0, 0) h]
  simpa using hj
theorem alloc_event {P : Program} {ops : Array Oper} {rest : List Oper} {o : Oper} {a : Act} {Q : Exit → Act → World → Prop} {W : World} (N : Tmp) (t : TypeId) (_hd : o.dst = some N) (g1 : o.guard = none) (ho : o.op = .alloc t)
    (zs : List Value) (hz : (P.info? t).map (fun i => i.zero) = some (some (.agg zs.toArray)))
    (h : ∀ g, g = W.heap.size → ∀ w1, w1.heap[g]? = some (.cells zs.toArray t (0, 0)) → Below W.heap.size W w1 → wpList P ops Q rest (a.put o.dst (.pointer (some ⟨g, 0, none⟩))) w1) : wpList P ops Q (o :: rest) a W := by
  obtain ⟨i, hi, hiz⟩ := Option.map_eq_some_iff.1 hz
  have hrun : (execOp a.eval o).run P W = .ok (.value (.pointer (some ⟨W.heap.size, 0, none⟩))) (W.alloc (.cells zs.toArray t (0, 0))) := by
    unfold execOp
    simp [ho, Instr.alloc, zeroValue, typeInfo, hi, hiz, newVar, newRow, Value.cells]
  exact Kd.event_run g1 hrun (h _ rfl _ (heap_alloc_new W _) (below_alloc (Below.refl _ _) _))
theorem store_seg_event {P : Program} {ops : Array Oper} {rest : List Oper} {o : Oper} {a : Act} {Q : Exit → Act → World → Prop} {W : World} (t : TypeId) (p x : Operand) (hdst : o.dst = none) (hgd : o.guard = none) (ho : o.op = .store t p x)
    (g off : Nat) (hp : a.eval p = .pointer (some ⟨g, off, none⟩)) (cur : List Value) {e : TypeId} (hh : W.heap[g]? = some (.cells cur.toArray e (0, 0))) (seg : List Value) (hx : (a.eval x).cells.toList = seg)
    (ht : (P.info? t).map (·.size) = some seg.length) (hfit : off + seg.length ≤ cur.length) (h1 : ∀ q ∈ seg, q.oneCell' = true) (new : List Value) (hnew : cur.take off ++ seg ++ cur.drop (off + seg.length) = new)
    (h : ∀ w1, w1.heap[g]? = some (.cells new.toArray e (0, 0)) → W.grownBy w1 (some g) → wpList P ops Q rest a w1) : wpList P ops Q (o :: rest) a W := by
  subst hnew
  refine wpList_plain hgd fun K hK => ?_
  have hrun := run_store_run (P := P) (w := W) (g := g) (o := off) t (a.eval x) seg hh hx ht (by simpa using hfit) h1
  unfold Oper.wp execOp
  simp only [ho, hp, Sem.run_bind, Sem.run_pure, Result.andThen_ok, hrun]
  obtain ⟨cur', h3, h4, h5⟩ := setCells_row seg off W cur.toArray hh (by simpa using hfit)
  obtain ⟨s1, s2, s3, s4⟩ := setCells_same g seg off W
  have he : cur' = (cur.take off ++ seg ++ cur.drop (off + seg.length)).toArray := by rw [← h5]
  rw [he] at h3
  have hk := hK _ _ (h (W.setCells g off seg) h3 ⟨s1, s2, s3, by rw [s4]; exact Nat.le_refl _, fun k _ hk => setCells_far seg off k (fun e => hk (by rw [e]))⟩)
  show K (a.put o.dst undef) _
  rw [hdst]
  exact hk
theorem below_grown {w W w1 : World} {g : Nat} (h : Below w.heap.size w W) (hg : W.grownBy w1 (some g)) (hb : w.heap.size ≤ g) : Below w.heap.size w w1 :=
  h.trans ⟨hg.os, hg.tape, hg.output, hg.size, fun k hk => hg.block k (Nat.lt_of_lt_of_le hk h.size) (fun e => by injection e with e; omega)⟩
end Go.Proofs.Ytajocpalpnpmdaa.Q
