/- A flash array marked, a device marked. Conditions: those before each theorem. -/
import Derived.Test.YtaecdlhomihejaaXMarkZ
namespace Go.Proofs.Ytaecdlhomihejaa.Q
open Go.RowKit Go.Proofs.YtaecdlhomihejaaW.PrintWords Go.Proofs.YtaecdlhomihejaaW.PrintMore Go.Proofs.YtaecdlhomihejaaW.PrintLast
set_option linter.unusedVariables false
set_option linter.unusedSimpArgs false
set_option maxHeartbeats 4000000 in
set_option maxRecDepth 100000 in
theorem markFlash_calls (k : Nat) (P0_ : Nat → Prop) (a0_0 a0_1 a0_2 : Int) (v3 : Value) (l0 : List (S120)) (a0_4 a0_5 : Int) (a0_6 : Bool) (a0_7 : Int) (a1 : Int) (r1 : Int) (r2 : List (S120)) (w0 w : World) (hB : Below w0.heap.size w0 w) (ho0 : Kd.S k120 120 w w0.heap.size P0_ v3 l0) (h : laws_markBlockS.f k l0 a1 = some (r1, r2)) :
    Calls Try.prog 70 #[.agg #[.int .i64 a0_0, .int .i64 a0_1, .int .i64 a0_2, v3, .int .i64 a0_4, .int .i64 a0_5, .bool a0_6, .int .i64 a0_7], .int .i64 a1] w fun e w' => e = .returned (.int .i64 r1) ∧ Kd.S k120 120 w' w0.heap.size (fun k_ => (P0_ k_ ∨ w.heap.size ≤ k_)) v3 r2 ∧ Below w0.heap.size w0 w' ∧ Kept w w' (fun k_ => P0_ k_) := by
  obtain ⟨A3, c3, e3⟩ := Kd.S_slice ho0
  subst e3
  have hu := Try.underlying40
  have HS := Aside0.mk (Kd.S_alloc ho0 (.cells #[.int .i64 a0_0, .int .i64 a0_1, .int .i64 a0_2, .slice A3 l0.length c3, .int .i64 a0_4, .int .i64 a0_5, .bool a0_6, .int .i64 a0_7] 40 (0, 0)))
  have HB := Aside0.mk (below_alloc hB (.cells #[.int .i64 a0_0, .int .i64 a0_1, .int .i64 a0_2, .slice A3 l0.length c3, .int .i64 a0_4, .int .i64 a0_5, .bool a0_6, .int .i64 a0_7] 40 (0, 0)))
  have HN := Aside0.mk (below_size (below_alloc (Below.refl w.heap.size w) (.cells #[.int .i64 a0_0, .int .i64 a0_1, .int .i64 a0_2, .slice A3 l0.length c3, .int .i64 a0_4, .int .i64 a0_5, .bool a0_6, .int .i64 a0_7] 40 (0, 0))))
  have HKK := Aside0.mk (Kept.alloc (Kept.refl w (fun k_ => P0_ k_)) (.cells #[.int .i64 a0_0, .int .i64 a0_1, .int .i64 a0_2, .slice A3 l0.length c3, .int .i64 a0_4, .int .i64 a0_5, .bool a0_6, .int .i64 a0_7] 40 (0, 0)))
  have H := Aside0.mk h
  clear hB ho0 h
  go_enter Try.func70, Try.ntmps70
  go_wp2_with (go_at_call 147; refine (laws_markBlockS.calls k P0_ _ l0 a1 r1 r2 w0 _ HB.out HS.out H.out).mono ?_; rintro e w2 ⟨rfl, hs, hb, hk⟩)
  go_ret
  exact ⟨rfl, Kd.S_mono hs (fun k_ hz => hz.imp_right (fun hq => Nat.le_trans HN.out hq)), hb, HKK.out.then_ hk (fun k_ hz => .inl hz)⟩
theorem apart_types {w : World} {k e1 e2 : Nat} {E1 E2 : List Nat} (h : ∀ q ∈ e1 :: E1, q ∉ e2 :: E2) (h1 : ∃ q, q ∈ e1 :: E1 ∧ ∃ cells, w.heap[k]? = some (.cells cells q (0, 0))) (h2 : ∃ q, q ∈ e2 :: E2 ∧ ∃ cells, w.heap[k]? = some (.cells cells q (0, 0))) : False := by
  obtain ⟨q, hq, c, hc⟩ := h1
  obtain ⟨q', hq', c', hc'⟩ := h2
  rw [hc] at hc'
  injection hc' with hc'
  injection hc' with _ he
  subst he
  exact h q hq hq'
set_option maxHeartbeats 4000000 in
set_option maxRecDepth 100000 in
theorem markDevice_calls (k : Nat) (Q : Nat → Prop) (a0_0 a0_1 a0_2 : Int) (v3 : Value) (L : List (S120)) (a0_4 a0_5 : Int) (a0_6 : Bool) (a0_7 : Int) (v8 : Value) (Z : List (S132)) (a1 m1 r1 : Int) (L' : List (S120)) (Z' : List (S132)) (w0 w : World) (hB : Below w0.heap.size w0 w) (h3 : Kd.S k120 120 w w0.heap.size Q v3 L) (h8 : Kd.S kz 132 w w0.heap.size Q v8 Z) (hm : laws_markBlockS.f k L a1 = some (m1, L')) (hz : laws_markZoneS.f k Z m1 = some (r1, Z')) :
    Calls Try.prog 42 #[.agg #[.int .i64 a0_0, .int .i64 a0_1, .int .i64 a0_2, v3, .int .i64 a0_4, .int .i64 a0_5, .bool a0_6, .int .i64 a0_7, v8], .int .i64 a1] w fun e w' => e = .returned (.int .i64 r1) ∧ Kd.S k120 120 w' w0.heap.size (fun k_ => (Q k_ ∨ w.heap.size ≤ k_)) v3 L' ∧ Kd.S kz 132 w' w0.heap.size (fun k_ => (Q k_ ∨ w.heap.size ≤ k_)) v8 Z' ∧ Below w0.heap.size w0 w' ∧ Kept w w' Q := by
  obtain ⟨A3, c3, e3⟩ := Kd.S_slice h3
  subst e3
  obtain ⟨A8, c8, e8⟩ := Kd.S_slice h8
  subst e8
  have hu := Try.underlying75
  have h3 := Kd.S_bound h3
  have h8 := Kd.S_bound h8
  generalize ho : Obj.cells #[.int .i64 a0_0, .int .i64 a0_1, .int .i64 a0_2, .slice A3 L.length c3, .int .i64 a0_4, .int .i64 a0_5, .bool a0_6, .int .i64 a0_7, .slice A8 Z.length c8] 75 (0, 0) = o
  have HN := Aside0.mk (World.size_alloc w o)
  have S3 := Aside0.mk (Kd.S_alloc h3 o)
  have S8 := Aside0.mk (Kd.S_alloc h8 o)
  have HB := Aside0.mk (below_alloc hB o)
  have BK := Aside0.mk (blk_new w o)
  have HKK := Aside0.mk (Kept.alloc (Kept.refl w Q) o)
  have HM := Aside0.mk hm
  have HZ := Aside0.mk hz
  subst ho
  clear hB h3 h8 hm hz
  go_enter Try.func42, Try.ntmps42
  go_wp2_with (first
    | (go_at_call 70; refine (markFlash_calls k _ a0_0 a0_1 a0_2 _ L a0_4 a0_5 a0_6 a0_7 a1 m1 L' w0 _ HB.out S3.out HM.out).mono ?_; rintro e w2 ⟨rfl, hs, hb, hk⟩; have N3 := Aside0.mk hs; have N8 := Aside0.mk (Kd.S_kept S8.out hk (fun k_ z8 z3 => apart_types (by decide) z8.2.2.2 z3.2.2.2)); have NK := Aside0.mk (HKK.out.then_ hk (fun k_ z => .inl z.1)); have NB := Aside0.mk (blk_kept BK.out hk (fun z => Nat.lt_irrefl _ z.2.2.1)); have NBB := Aside0.mk hb; have NLE := Aside0.mk hk.1; clear hs hb hk S3 S8 HKK BK HB HM; have hz8 := (blk_cell NB.out 8).trans rfl; (try simp only [Act.put, List.setIfInBounds_toArray, List.set_cons_zero, List.set_cons_succ]))
    | (go_at_call 100; refine (laws_markZoneS.calls k _ _ Z m1 r1 Z' w0 _ NBB.out N8.out HZ.out).mono ?_; rintro e w3 ⟨rfl, hs, hb, hk⟩; (try simp only [Act.put, List.setIfInBounds_toArray, List.set_cons_zero, List.set_cons_succ])))
  go_ret
  have hn := HN.out
  have hle := NLE.out
  exact ⟨rfl, Kd.S_mono (Kd.S_kept N3.out hk (fun k_ z3 z8 => z3.elim (fun z => apart_types (by decide) z8.2.2.2 z.2.2.2) (fun z => by have := z8.2.2.1; rw [hn] at z; omega))) (fun k_ z => z.elim (fun q => .inl q.1) (fun q => .inr (by rw [hn] at q; omega))), Kd.S_mono hs (fun k_ z => z.elim (fun q => .inl q.1) (fun q => .inr (by omega))), hb, NK.out.then_ hk (fun k_ z => .inl z.1)⟩
end Go.Proofs.Ytaecdlhomihejaa.Q
