/- Blocks, a flash array marked: the element that is written is lent out of its row, and put back. Conditions: those before each theorem. -/
import Derived.Test.YtajocpalpnpmdaaQ8
namespace Go.Proofs.Ytajocpalpnpmdaa.Q
open Go.RowKit Go.Proofs.YtajocpalpnpmdaaW.PrintWords Go.Proofs.YtajocpalpnpmdaaW.PrintMore Go.Proofs.YtajocpalpnpmdaaW.PrintLast
set_option linter.unusedVariables false
set_option linter.unusedSimpArgs false
section
variable {α : Type} {d : Kd α} {e g n cap : Nat} {W : World} {base : Nat} {ok oki : Nat → Prop} {xs : List α} {i : Int} {c : List Value}
theorem H_cells (h : Kd.H d e W base ok (.slice (some ⟨g, 0, none⟩) n cap) xs i oki c) (h0 : 0 ≤ i) (h1 : i < n) : (∀ j u, c[j]? = some u → W.cell? ⟨g, i.toNat * d.sz + j, none⟩ = some u) ∧ (∀ j, W.frozen? ⟨g, i.toNat * d.sz + j, none⟩ = false) := by
  obtain ⟨rows, _, hraw, _, _, hcc, _⟩ := Kd.H_raw h h0 h1
  obtain ⟨_, _, _, _, hfr⟩ := Kd.R_elem hraw [] i h0 h1
  exact ⟨hcc, hfr⟩
theorem H_put (h : Kd.H d e W base ok (.slice (some ⟨g, 0, none⟩) n cap) xs i oki c) (h0 : 0 ≤ i) (h1 : i < n) (j : Nat) (u : Value) (hj : j + 1 ≤ d.sz) (hone : u.oneCell' = true) :
    Kd.H d e (W.setCell ⟨g, i.toNat * d.sz + j, none⟩ u) base ok (.slice (some ⟨g, 0, none⟩) n cap) xs i oki (c.take j ++ [u] ++ c.drop (j + 1)) ∧ W.grownBy (W.setCell ⟨g, i.toNat * d.sz + j, none⟩ u) (some g) :=
  Kd.H_seg h h0 h1 (seg := [u]) (j := j) hj (fun q hq => by rw [List.mem_singleton.1 hq]; exact hone)
end
def laws_markBlockS.l0 : Nat → List (S92) → Int → Int → Option (Int × List (S92))
  | 0, _, _, _ => none
  | k + 1, x0, x1, x5 => if x5 < (x0.length : Int) then (if 0 ≤ x5 then ((laws_markStringS.f k ((rd_T92 x0 x5).f3) (wrap64 (wrap64 (wrap64 (x1 + 1) + 1) + 1))).bind fun bt => laws_markBlockS.l0 k (x0.set (x5 : Int).toNat (⟨x1, wrap64 (x1 + 1), Int.tmod (wrap64 (wrap64 (x1 + 1) + 1)) 3 == 0, bt.2⟩ : S92)) bt.1 (wrap64 (x5 + 1))) else (none)) else (some (x1, x0))
def laws_markBlockS.f (k : Nat) (l0 : List (S92)) (a1 : Int) : Option (Int × List (S92)) := laws_markBlockS.l0 k l0 a1 0
set_option maxHeartbeats 8000000 in
set_option maxRecDepth 100000 in
theorem laws_markBlockS.calls (k : Nat) (P0_ : Nat → Prop) (u9000_ : Value) (l0 : List (S92)) (a1 : Int) (r1 : Int) (r2 : List (S92)) (w0 w : World) (hB : Below w0.heap.size w0 w) (ho0 : Kd.S k92 92 w w0.heap.size P0_ u9000_ l0) (h : laws_markBlockS.f k l0 a1 = some (r1, r2)) :
    Calls Try.prog 65 #[u9000_, .int .i64 a1] w fun e w' => e = .returned (.int .i64 r1) ∧ Kd.S k92 92 w' w0.heap.size (fun k_ => (P0_ k_ ∨ w.heap.size ≤ k_)) u9000_ r2 ∧ Below w0.heap.size w0 w' ∧ Kept w w' (fun k_ => P0_ k_) := by
  have hu := Try.underlying92
  have HO0 := Aside0.mk (show Kd.S k92 92 w w0.heap.size (fun k_ => (P0_ k_ ∨ w.heap.size ≤ k_)) u9000_ l0 from Kd.S_mono ho0 (fun k_ hk => (.inl hk)))
  have HK := Aside0.mk (Kept.refl w (fun k_ => P0_ k_))
  have HB := Aside0.mk hB
  clear hB ho0
  have H' := Aside0.mk (show laws_markBlockS.l0 k l0 a1 0 = some (r1, r2) from h)
  clear h
  go_enter Try.func65, Try.ntmps65
  go_wp2
  go_loopg [1, 5] k (fun kq v1 v5 w' => ∃ (x0 : List (S92)) (x1 : Int) (x5 : Int), v1 = .int .i64 x1 ∧ v5 = .int .i64 x5 ∧ Aside0 (laws_markBlockS.l0 kq x0 x1 x5 = some (r1, r2)) ∧ Aside0 (kq ≤ k) ∧ Aside0 (Kd.S k92 92 w' w0.heap.size (fun k_ => (P0_ k_ ∨ w.heap.size ≤ k_)) u9000_ x0) ∧ Aside0 (Kept w w' (fun k_ => P0_ k_)) ∧ Aside0 (Below w0.heap.size w0 w'))
  case atStart => exact ⟨l0, a1, 0, rfl, rfl, H', ⟨Nat.le_refl _⟩, HO0, HK, HB⟩
  case round =>
    clear H'
    obtain ⟨x0, x1, x5, rfl, rfl, HA, HK1, HO, HK, HB⟩ := hrel
    cases gk with
    | zero => exact absurd HA.out (by simp [laws_markBlockS.l0])
    | succ k1 =>
      have H := HA.out
      clear HA
      simp only [laws_markBlockS.l0] at H
      by_cases c3 : x5 < (x0.length : Int)
      · rw [if_pos c3] at H
        by_cases c5 : 0 ≤ x5
        · rw [if_pos c5] at H
          replace H := Option.bind_eq_some_iff.mp H
          obtain ⟨⟨t, l'⟩, A0, H⟩ := H
          have A := Aside0.mk A0
          clear A0
          have H' := Aside0.mk H
          clear H
          obtain ⟨g, co, eu, gb, gl, cl, hcl⟩ := Kd.S_form HO.out (by omega)
          subst eu
          have GB := Aside0.mk gb
          have GO : Aside0 (P0_ g ∨ w.heap.size ≤ g) := ⟨(Kd.S_R HO.out).1 g rfl⟩
          clear gb gl hcl
          obtain ⟨oki, c, hcl, hM, hcc, hfr, hoki, hH⟩ := Kd.S_elem HO.out z92 x5 c5 c3
          obtain ⟨v3, rfl, hR⟩ := k92_openM hM
          have hx0 : wr.cell? ⟨g, (x5 : Int).toNat * 4, none⟩ = some (.int .i64 (rd_T92 x0 x5).f0) := hcc 0 _ rfl
          have hf0 : wr.frozen? ⟨g, (x5 : Int).toNat * 4, none⟩ = false := hfr 0
          have HOK := Aside0.mk hoki
          have HH := Aside0.mk hH
          have HR := Aside0.mk (show Kd.R Kd.string 9 wr w0.heap.size oki v3 (rd_T92 x0 x5).f3 from hR)
          have C3 := Aside0.mk c3
          have C5 := Aside0.mk c5
          clear hoki hH hR hM hcc hfr hcl
          have c3b : decide (x5 < (x0.length : Int)) = true := decide_eq_true c3
          have c5b : decide (0 ≤ x5) = true := decide_eq_true c5
          have c3e : (x5 < (x0.length : Int)) = True := eq_true c3
          have c5e : (0 ≤ x5) = True := eq_true c5
          clear c3 c5 HO
          go_wp2_with (first
            | ((with_reducible refine gate_store (t := 2) (p := 16) rfl ?_); refine store_event (t := 2) (p := 16) (v := ?vo_1) (w1 := (wr.setCell ⟨g, (x5 : Int).toNat * 4, none⟩ (.int .i64 x1))) ?hg ?ho ?hn ?hr ?_; (case ho => rfl); (case hg => rfl); (case hn => rfl); (case hr => first | (go_simp; done) | (go_simp; rfl)); intro w'_ hw_; subst hw_; obtain ⟨m1, m2⟩ := H_put HH.out C5.out C3.out 0 (.int .i64 x1) (by decide) rfl; have N1 : Aside0 (Kd.H k92 92 (wr.setCell ⟨g, (x5 : Int).toNat * 4, none⟩ (.int .i64 x1)) w0.heap.size (fun k_ => (P0_ k_ ∨ w.heap.size ≤ k_)) (.slice (some ⟨g, 0, none⟩) x0.length co) x0 x5 oki [.int .i64 x1, .int .i64 (rd_T92 x0 x5).f1, .bool (rd_T92 x0 x5).f2, v3]) := ⟨m1⟩; have N2 : Aside0 (wr.grownBy (wr.setCell ⟨g, (x5 : Int).toNat * 4, none⟩ (.int .i64 x1)) (some g)) := ⟨m2⟩; have N3 := Aside0.mk (below_set (j := (x5 : Int).toNat * 4) (v := .int .i64 x1) HB.out GB.out); clear m1 m2 hx0 hf0 HH; generalize (wr.setCell ⟨g, (x5 : Int).toNat * 4, none⟩ (.int .i64 x1)) = wa at N1 N2 N3 ⊢; have HHa := N1; have HRa := Aside0.mk (Kd.R_grown HR.out N2.out (fun k_ hk he => (HOK.out k_ hk).2 (by injection he))); have HKa := Aside0.mk (Kept.of_grown N2.out HK.out (fun k_ hk => by cases hk; exact GO.out)); have HBa := N3; clear N1 N2 N3 HR HK HB; have hq := H_cells HHa.out C5.out C3.out; have hx1 : wa.cell? ⟨g, (x5 : Int).toNat * 4 + 1, none⟩ = some (.int .i64 (rd_T92 x0 x5).f1) := hq.1 1 _ rfl; have hf1 : wa.frozen? ⟨g, (x5 : Int).toNat * 4 + 1, none⟩ = false := hq.2 1; clear hq; (try simp only [Act.put, List.setIfInBounds_toArray, List.set_cons_zero, List.set_cons_succ]))
            | ((with_reducible refine gate_store (t := 2) (p := 23) rfl ?_); refine store_event (t := 2) (p := 23) (v := ?vo_2) (w1 := (wa.setCell ⟨g, (x5 : Int).toNat * 4 + 1, none⟩ (.int .i64 (wrap64 (x1 + 1))))) ?hg ?ho ?hn ?hr ?_; (case ho => rfl); (case hg => rfl); (case hn => rfl); (case hr => first | (go_simp; done) | (go_simp; rfl)); intro w'_ hw_; subst hw_; obtain ⟨m1, m2⟩ := H_put HHa.out C5.out C3.out 1 (.int .i64 (wrap64 (x1 + 1))) (by decide) rfl; have N1 : Aside0 (Kd.H k92 92 (wa.setCell ⟨g, (x5 : Int).toNat * 4 + 1, none⟩ (.int .i64 (wrap64 (x1 + 1)))) w0.heap.size (fun k_ => (P0_ k_ ∨ w.heap.size ≤ k_)) (.slice (some ⟨g, 0, none⟩) x0.length co) x0 x5 oki [.int .i64 x1, .int .i64 (wrap64 (x1 + 1)), .bool (rd_T92 x0 x5).f2, v3]) := ⟨m1⟩; have N2 : Aside0 (wa.grownBy (wa.setCell ⟨g, (x5 : Int).toNat * 4 + 1, none⟩ (.int .i64 (wrap64 (x1 + 1)))) (some g)) := ⟨m2⟩; have N3 := Aside0.mk (below_set (j := (x5 : Int).toNat * 4 + 1) (v := .int .i64 (wrap64 (x1 + 1))) HBa.out GB.out); clear m1 m2 hx1 hf1 HHa; generalize (wa.setCell ⟨g, (x5 : Int).toNat * 4 + 1, none⟩ (.int .i64 (wrap64 (x1 + 1)))) = wb at N1 N2 N3 ⊢; have HHb := N1; have HRb := Aside0.mk (Kd.R_grown HRa.out N2.out (fun k_ hk he => (HOK.out k_ hk).2 (by injection he))); have HKb := Aside0.mk (Kept.of_grown N2.out HKa.out (fun k_ hk => by cases hk; exact GO.out)); have HBb := N3; clear N1 N2 N3 HRa HKa HBa; have hq := H_cells HHb.out C5.out C3.out; have hx2 : wb.cell? ⟨g, (x5 : Int).toNat * 4 + 2, none⟩ = some (.bool (rd_T92 x0 x5).f2) := hq.1 2 _ rfl; have hf2 : wb.frozen? ⟨g, (x5 : Int).toNat * 4 + 2, none⟩ = false := hq.2 2; clear hq; (try simp only [Act.put, List.setIfInBounds_toArray, List.set_cons_zero, List.set_cons_succ]))
            | ((with_reducible refine gate_store (t := 4) (p := 32) rfl ?_); refine store_event (t := 4) (p := 32) (v := ?vo_3) (w1 := (wb.setCell ⟨g, (x5 : Int).toNat * 4 + 2, none⟩ (.bool (Int.tmod (wrap64 (wrap64 (x1 + 1) + 1)) 3 == 0)))) ?hg ?ho ?hn ?hr ?_; (case ho => rfl); (case hg => rfl); (case hn => rfl); (case hr => first | (go_simp; done) | (go_simp; rfl)); intro w'_ hw_; subst hw_; obtain ⟨m1, m2⟩ := H_put HHb.out C5.out C3.out 2 (.bool (Int.tmod (wrap64 (wrap64 (x1 + 1) + 1)) 3 == 0)) (by decide) rfl; have N1 : Aside0 (Kd.H k92 92 (wb.setCell ⟨g, (x5 : Int).toNat * 4 + 2, none⟩ (.bool (Int.tmod (wrap64 (wrap64 (x1 + 1) + 1)) 3 == 0))) w0.heap.size (fun k_ => (P0_ k_ ∨ w.heap.size ≤ k_)) (.slice (some ⟨g, 0, none⟩) x0.length co) x0 x5 oki [.int .i64 x1, .int .i64 (wrap64 (x1 + 1)), .bool (Int.tmod (wrap64 (wrap64 (x1 + 1) + 1)) 3 == 0), v3]) := ⟨m1⟩; have N2 : Aside0 (wb.grownBy (wb.setCell ⟨g, (x5 : Int).toNat * 4 + 2, none⟩ (.bool (Int.tmod (wrap64 (wrap64 (x1 + 1) + 1)) 3 == 0))) (some g)) := ⟨m2⟩; have N3 := Aside0.mk (below_set (j := (x5 : Int).toNat * 4 + 2) (v := .bool (Int.tmod (wrap64 (wrap64 (x1 + 1) + 1)) 3 == 0)) HBb.out GB.out); clear m1 m2 hx2 hf2 HHb; generalize (wb.setCell ⟨g, (x5 : Int).toNat * 4 + 2, none⟩ (.bool (Int.tmod (wrap64 (wrap64 (x1 + 1) + 1)) 3 == 0))) = wc at N1 N2 N3 ⊢; have HHc := N1; have HRc := Aside0.mk (Kd.R_grown HRb.out N2.out (fun k_ hk he => (HOK.out k_ hk).2 (by injection he))); have HKc := Aside0.mk (Kept.of_grown N2.out HKb.out (fun k_ hk => by cases hk; exact GO.out)); have HBc := N3; clear N1 N2 N3 HRb HKb HBb; have hq := H_cells HHc.out C5.out C3.out; have hx3 : wc.cell? ⟨g, (x5 : Int).toNat * 4 + 3, none⟩ = some v3 := hq.1 3 _ rfl; clear hq; (try simp only [Act.put, List.setIfInBounds_toArray, List.set_cons_zero, List.set_cons_succ]))
            | (go_at_call 77; refine (laws_markStringS.calls k1 oki v3 (rd_T92 x0 x5).f3 _ t l' w0 wc HBc.out HRc.out A.out).mono ?_; rintro e wd ⟨rfl, hr4, hb4, hk4⟩; have HS4 := Aside0.mk (Kd.H_back (Kd.H_kept (Kd.H_widen HHc.out) hk4 (fun k_ _ hn hs => hn (.inl hs))) (k92_mkM wd w0.heap.size _ (⟨x1, wrap64 (x1 + 1), Int.tmod (wrap64 (wrap64 (x1 + 1) + 1)) 3 == 0, l'⟩ : S92) (Kd.R_mono hr4 (ok' := fun k_ => oki k_ ∨ (P0_ k_ ∨ w.heap.size ≤ k_) ∧ wc.heap.size ≤ k_) (fun k_ hk => hk.imp_right (fun hz => ⟨.inr (Nat.le_trans HKc.out.1 hz), hz⟩)))) (fun _ hz => hz)); have HK4 := Aside0.mk (HKc.out.then_ hk4 (fun k_ hk => (HOK.out k_ hk).1)); have HB4 := Aside0.mk hb4; clear hr4 hb4 hk4 HHc HRc HKc HBc hx3; (try simp only [Act.put, List.setIfInBounds_toArray, List.set_cons_zero, List.set_cons_succ])))
          go_roundg k1
          case measure => have := HK1.out; omega
          case rel => exact ⟨_, t, wrap64 (x5 + 1), rfl, by first | rfl | (simp; done) | (simp [*]; done), H', ⟨by have := HK1.out; omega⟩, HS4, HK4, HB4⟩
        · rw [if_neg c5] at H
          exact absurd H (by simp)
      · rw [if_neg c3] at H
        have c3b0 : decide (x5 < (x0.length : Int)) = false := decide_eq_false c3
        clear c3
        simp only [Option.some.injEq, Prod.mk.injEq] at H
        obtain ⟨rfl, rfl⟩ := H
        obtain ⟨Ao, co, eo⟩ := Kd.S_slice HO.out
        subst eo
        go_wp2
        go_ret
        exact ⟨rfl, HO.out, HB.out, HK.out⟩
end Go.Proofs.Ytajocpalpnpmdaa.Q
