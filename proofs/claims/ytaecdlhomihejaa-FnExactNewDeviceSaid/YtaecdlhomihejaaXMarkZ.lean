/- Zones marked, a device marked: the element that is written is lent out of its row, and put back. Conditions: those before each theorem; the zones' Rows and Buffer are empty (kz). -/
import Derived.Test.YtaecdlhomihejaaXMarkB
import Derived.Test.YtaecdlhomihejaaQ6
namespace Go.Proofs.Ytaecdlhomihejaa.Q
open Go.RowKit Go.Proofs.YtaecdlhomihejaaW.PrintWords Go.Proofs.YtaecdlhomihejaaW.PrintMore Go.Proofs.YtaecdlhomihejaaW.PrintLast
set_option linter.unusedVariables false
set_option linter.unusedSimpArgs false
def kz : Kd S132 where
  sz := k132.sz
  E := [2]
  K := k132.K
  M := fun w base ok x cs => ∃ v1 A4 c4 A5 c5, cs = [.int .i64 x.f0, v1, .int .i64 x.f2, .int .i64 x.f3, .slice A4 0 c4, .slice A5 0 c5] ∧ (Kd.int .i64).R 2 w base ok v1 x.f1 ∧ x.f4 = [] ∧ x.f5 = []
  K_len := k132.K_len
  K_one := k132.K_one
  K_below := k132.K_below
  K_of_M := fun {w base ok x cs} h => by
    obtain ⟨v1, A4, c4, A5, c5, rfl, hr, h4, h5⟩ := h
    obtain ⟨A1, c1, rfl, hl, hc⟩ := Kd.R_reads hr
    obtain ⟨f0, f1, f2, f3, f4, f5⟩ := x
    dsimp only at h4 h5 hl hc
    subst h4 h5
    exact k132_mk w ⟨f0, f1, f2, f3, [], []⟩ hl hc (Nat.zero_le _) ⟨rfl, Nat.zero_le _, fun h => absurd h (Nat.lt_irrefl 0)⟩ (Nat.zero_le _) ⟨rfl, Nat.zero_le _, fun h => absurd h (Nat.lt_irrefl 0)⟩
  M_mono := fun hok ⟨v1, A4, c4, A5, c5, e, hr, h4, h5⟩ => ⟨v1, A4, c4, A5, c5, e, Kd.R_mono hr hok, h4, h5⟩
  M_bound := fun ⟨v1, A4, c4, A5, c5, e, hr, h4, h5⟩ => ⟨v1, A4, c4, A5, c5, e, Kd.R_bound hr, h4, h5⟩
  M_move := fun hm ⟨v1, A4, c4, A5, c5, e, hr, h4, h5⟩ => ⟨v1, A4, c4, A5, c5, e, Kd.R_move hr hm, h4, h5⟩
  M_lower := fun hb ⟨v1, A4, c4, A5, c5, e, hr, h4, h5⟩ => ⟨v1, A4, c4, A5, c5, e, Kd.R_lower hr hb, h4, h5⟩
theorem S_kz {w : World} {base : Nat} {ok : Nat → Prop} {v : Value} {xs : List S132} (h : Kd.S k132 132 w base ok v xs) (he : ∀ x ∈ xs, x.f4 = [] ∧ x.f5 = []) : Kd.S kz 132 w base ok v xs := by
  obtain ⟨f, h0, inner, ho, hr⟩ := h
  refine ⟨f, h0, inner, ho, hr.1, fun j p hj => ?_⟩
  have hx : p.1 ∈ xs := by
    rw [List.getElem?_zipIdx, Nat.zero_add] at hj
    obtain ⟨q, hq, rfl⟩ := Option.map_eq_some_iff.1 hj
    exact List.mem_of_getElem? hq
  obtain ⟨v1, v4, v5, hcs, g1, g4, g5⟩ := k132_openM (hr.2 j p hj)
  obtain ⟨h4, h5⟩ := he _ hx
  obtain ⟨A4, c4, rfl, _, _⟩ := Kd.R_reads g4
  obtain ⟨A5, c5, rfl, _, _⟩ := Kd.R_reads g5
  rw [h4, h5] at hcs
  exact ⟨v1, A4, c4, A5, c5, hcs, g1, h4, h5⟩
set_option maxHeartbeats 4000000 in
set_option maxRecDepth 100000 in
theorem markI_nil (A : Option Addr) (c : Nat) (a1 : Int) (w : World) : Calls Try.prog 21 #[.slice A 0 c, .int .i64 a1] w fun e w' => e = .returned (.int .i64 a1) ∧ Below w.heap.size w w' := by
  go_enter Try.func21, Try.ntmps21
  go_wp2
  go_loopg [1, 5] 1 (fun kq v1 v5 w' => v1 = .int .i64 a1 ∧ v5 = .int .i64 0 ∧ Aside0 (Below w.heap.size w w'))
  case atStart => exact ⟨rfl, rfl, ⟨Below.refl _ _⟩⟩
  case round =>
    obtain ⟨rfl, rfl, HB⟩ := hrel
    go_wp2
    go_ret
    exact ⟨rfl, HB.out⟩
set_option maxHeartbeats 4000000 in
set_option maxRecDepth 100000 in
theorem markS_nil (A : Option Addr) (c : Nat) (a1 : Int) (w : World) : Calls Try.prog 162 #[.slice A 0 c, .int .i64 a1] w fun e w' => e = .returned (.int .i64 a1) ∧ Below w.heap.size w w' := by
  go_enter Try.func162, Try.ntmps162
  go_wp2
  go_loopg [1, 5] 1 (fun kq v1 v5 w' => v1 = .int .i64 a1 ∧ v5 = .int .i64 0 ∧ Aside0 (Below w.heap.size w w'))
  case atStart => exact ⟨rfl, rfl, ⟨Below.refl _ _⟩⟩
  case round =>
    obtain ⟨rfl, rfl, HB⟩ := hrel
    go_wp2
    go_ret
    exact ⟨rfl, HB.out⟩
def laws_markZoneS.l0 : Nat → List (S132) → Int → Int → Option (Int × List (S132))
  | 0, _, _, _ => none
  | k + 1, x0, x1, x5 => if x5 < (x0.length : Int) then (if 0 ≤ x5 then ((laws_markInt64S.f k ((rd_T132 x0 x5).f1) (wrap64 (x1 + 1))).bind fun bt => laws_markZoneS.l0 k (x0.set (x5 : Int).toNat (⟨x1, bt.2, bt.1, wrap64 (bt.1 + 1), [], []⟩ : S132)) (wrap64 (wrap64 (bt.1 + 1) + 1)) (wrap64 (x5 + 1))) else (none)) else (some (x1, x0))
def laws_markZoneS.f (k : Nat) (l0 : List (S132)) (a1 : Int) : Option (Int × List (S132)) := laws_markZoneS.l0 k l0 a1 0
set_option maxHeartbeats 8000000 in
set_option maxRecDepth 100000 in
theorem laws_markZoneS.calls (k : Nat) (P0_ : Nat → Prop) (u9000_ : Value) (l0 : List (S132)) (a1 : Int) (r1 : Int) (r2 : List (S132)) (w0 w : World) (hB : Below w0.heap.size w0 w) (ho0 : Kd.S kz 132 w w0.heap.size P0_ u9000_ l0) (h : laws_markZoneS.f k l0 a1 = some (r1, r2)) :
    Calls Try.prog 100 #[u9000_, .int .i64 a1] w fun e w' => e = .returned (.int .i64 r1) ∧ Kd.S kz 132 w' w0.heap.size (fun k_ => (P0_ k_ ∨ w.heap.size ≤ k_)) u9000_ r2 ∧ Below w0.heap.size w0 w' ∧ Kept w w' (fun k_ => P0_ k_) := by
  have hu := Try.underlying132
  have HO0 := Aside0.mk (show Kd.S kz 132 w w0.heap.size (fun k_ => (P0_ k_ ∨ w.heap.size ≤ k_)) u9000_ l0 from Kd.S_mono ho0 (fun k_ hk => (.inl hk)))
  have HK := Aside0.mk (Kept.refl w (fun k_ => P0_ k_))
  have HB := Aside0.mk hB
  clear hB ho0
  have H' := Aside0.mk (show laws_markZoneS.l0 k l0 a1 0 = some (r1, r2) from h)
  clear h
  go_enter Try.func100, Try.ntmps100
  go_wp2
  go_loopg [1, 5] k (fun kq v1 v5 w' => ∃ (x0 : List (S132)) (x1 : Int) (x5 : Int), v1 = .int .i64 x1 ∧ v5 = .int .i64 x5 ∧ Aside0 (laws_markZoneS.l0 kq x0 x1 x5 = some (r1, r2)) ∧ Aside0 (kq ≤ k) ∧ Aside0 (Kd.S kz 132 w' w0.heap.size (fun k_ => (P0_ k_ ∨ w.heap.size ≤ k_)) u9000_ x0) ∧ Aside0 (Kept w w' (fun k_ => P0_ k_)) ∧ Aside0 (Below w0.heap.size w0 w'))
  case atStart => exact ⟨l0, a1, 0, rfl, rfl, H', ⟨Nat.le_refl _⟩, HO0, HK, HB⟩
  case round =>
    clear H'
    obtain ⟨x0, x1, x5, rfl, rfl, HA, HK1, HO, HK, HB⟩ := hrel
    cases gk with
    | zero => exact absurd HA.out (by simp [laws_markZoneS.l0])
    | succ k1 =>
      have H := HA.out
      clear HA
      simp only [laws_markZoneS.l0] at H
      by_cases c3 : x5 < (x0.length : Int)
      · rw [if_pos c3] at H
        by_cases c5 : 0 ≤ x5
        · rw [if_pos c5] at H
          replace H := Option.bind_eq_some_iff.mp H
          obtain ⟨⟨t, l'⟩, A0, H⟩ := H
          have A := Aside0.mk A0
          clear A0
          have H' := Aside0.mk H
          clear H
          obtain ⟨g, co, eu, gb, gl, cl, hcl⟩ := Kd.S_form HO.out (by omega)
          subst eu
          have GB := Aside0.mk gb
          have GO : Aside0 (P0_ g ∨ w.heap.size ≤ g) := ⟨(Kd.S_R HO.out).1 g rfl⟩
          clear gb gl hcl
          obtain ⟨oki, c, hcl, hM, hcc, hfr, hoki, hH⟩ := Kd.S_elem HO.out z132 x5 c5 c3
          obtain ⟨v1, A4, c4, A5, c5', rfl, hR, hz4, hz5⟩ := hM
          have hx0 : wr.cell? ⟨g, (x5 : Int).toNat * 6, none⟩ = some (.int .i64 (rd_T132 x0 x5).f0) := hcc 0 _ rfl
          have hf0 : wr.frozen? ⟨g, (x5 : Int).toNat * 6, none⟩ = false := hfr 0
          have HOK := Aside0.mk hoki
          have HH := Aside0.mk hH
          have HR := Aside0.mk (show Kd.R (Kd.int .i64) 2 wr w0.heap.size oki v1 (rd_T132 x0 x5).f1 from hR)
          have C3 := Aside0.mk c3
          have C5 := Aside0.mk c5
          clear hoki hH hR hcc hfr hcl hz4 hz5
          have c3b : decide (x5 < (x0.length : Int)) = true := decide_eq_true c3
          have c5b : decide (0 ≤ x5) = true := decide_eq_true c5
          have c3e : (x5 < (x0.length : Int)) = True := eq_true c3
          have c5e : (0 ≤ x5) = True := eq_true c5
          clear c3 c5 HO
          go_wp2_with (first
            | ((with_reducible refine gate_store (t := 2) (p := 16) rfl ?_); refine store_event (t := 2) (p := 16) (v := ?vo_16) (w1 := (wr.setCell ⟨g, (x5 : Int).toNat * 6, none⟩ (.int .i64 x1))) ?hg ?ho ?hn ?hr ?_; (case ho => rfl); (case hg => rfl); (case hn => rfl); (case hr => first | (go_simp; done) | (go_simp; rfl)); intro w'_ hw_; subst hw_; obtain ⟨m1, m2⟩ := H_put HH.out C5.out C3.out 0 (.int .i64 x1) (by decide) rfl; have N1 : Aside0 (Kd.H kz 132 (wr.setCell ⟨g, (x5 : Int).toNat * 6, none⟩ (.int .i64 x1)) w0.heap.size (fun k_ => (P0_ k_ ∨ w.heap.size ≤ k_)) (.slice (some ⟨g, 0, none⟩) x0.length co) x0 x5 oki [.int .i64 x1, v1, .int .i64 (rd_T132 x0 x5).f2, .int .i64 (rd_T132 x0 x5).f3, .slice A4 0 c4, .slice A5 0 c5']) := ⟨m1⟩; have N2 : Aside0 (wr.grownBy (wr.setCell ⟨g, (x5 : Int).toNat * 6, none⟩ (.int .i64 x1)) (some g)) := ⟨m2⟩; have N3 := Aside0.mk (below_set (j := (x5 : Int).toNat * 6) (v := .int .i64 x1) HB.out GB.out); clear m1 m2 hx0 hf0 HH; generalize (wr.setCell ⟨g, (x5 : Int).toNat * 6, none⟩ (.int .i64 x1)) = wa at N1 N2 N3 ⊢; have HH := N1; have n1 := Aside0.mk (Kd.R_grown HR.out N2.out (fun k_ hk he => (HOK.out k_ hk).2 (by injection he))); have n2 := Aside0.mk (Kept.of_grown N2.out HK.out (fun k_ hk => by cases hk; exact GO.out)); clear HR HK HB; have HR := n1; have HK := n2; have HB := N3; clear N1 N2 N3 n1 n2; have hq := H_cells HH.out C5.out C3.out; have hx1 : wa.cell? ⟨g, (x5 : Int).toNat * 6 + 1, none⟩ = some (v1) := hq.1 1 _ rfl; clear hq; (try simp only [Act.put, List.setIfInBounds_toArray, List.set_cons_zero, List.set_cons_succ]))
            | (go_at_call 21; refine (laws_markInt64S.calls k1 oki v1 (rd_T132 x0 x5).f1 _ t l' w0 wa HB.out HR.out A.out).mono ?_; rintro e wb ⟨rfl, hr4, hb4, hk4⟩; have GLa := Aside0.mk (World.block_lt_of_cell? _ _ hx1); have hn := Kd.H_kept (Kd.H_widen HH.out) hk4 (fun k_ _ hn hs => hn (.inl hs)); have n0 : Aside0 (Kd.H kz 132 wb w0.heap.size (fun k_ => (P0_ k_ ∨ w.heap.size ≤ k_)) (.slice (some ⟨g, 0, none⟩) x0.length co) x0 x5 (fun k_ => oki k_ ∨ (P0_ k_ ∨ w.heap.size ≤ k_) ∧ wa.heap.size ≤ k_) [.int .i64 x1, v1, .int .i64 (rd_T132 x0 x5).f2, .int .i64 (rd_T132 x0 x5).f3, .slice A4 0 c4, .slice A5 0 c5']) := ⟨hn⟩; have n1 := Aside0.mk (HK.out.then_ hk4 (fun k_ hk => (HOK.out k_ hk).1)); have n2 := Aside0.mk hb4; have n3 : Aside0 (Kd.R (Kd.int .i64) 2 wb w0.heap.size (fun k_ => oki k_ ∨ (P0_ k_ ∨ w.heap.size ≤ k_) ∧ wa.heap.size ≤ k_) v1 l') := ⟨Kd.R_mono hr4 (fun k_ hk => hk.imp_right (fun hz => ⟨.inr (Nat.le_trans HK.out.1 hz), hz⟩))⟩; have HO2 : Aside0 (∀ k_, (oki k_ ∨ (P0_ k_ ∨ w.heap.size ≤ k_) ∧ wa.heap.size ≤ k_) → k_ ≠ g) := ⟨fun k_ hk he => hk.elim (fun hz => (HOK.out k_ hz).2 he) (fun hz => by have := GLa.out; have := hz.2; subst he; exact absurd ‹_› (Nat.not_lt.2 hz.2))⟩; clear hn hr4 hb4 hk4 HH HR HK HB hx1; have HH := n0; have HR := n3; have HK := n1; have HB := n2; clear n0 n1 n2 n3; have hq := H_cells HH.out C5.out C3.out; have hx2 : wb.cell? ⟨g, (x5 : Int).toNat * 6 + 2, none⟩ = some (.int .i64 (rd_T132 x0 x5).f2) := hq.1 2 _ rfl; have hf2 : wb.frozen? ⟨g, (x5 : Int).toNat * 6 + 2, none⟩ = false := hq.2 2; clear hq; (try simp only [Act.put, List.setIfInBounds_toArray, List.set_cons_zero, List.set_cons_succ]))
            | ((with_reducible refine gate_store (t := 2) (p := 30) rfl ?_); refine store_event (t := 2) (p := 30) (v := ?vo_30) (w1 := (wb.setCell ⟨g, (x5 : Int).toNat * 6 + 2, none⟩ (.int .i64 t))) ?hg ?ho ?hn ?hr ?_; (case ho => rfl); (case hg => rfl); (case hn => rfl); (case hr => first | (go_simp; done) | (go_simp; rfl)); intro w'_ hw_; subst hw_; obtain ⟨m1, m2⟩ := H_put HH.out C5.out C3.out 2 (.int .i64 t) (by decide) rfl; have N1 : Aside0 (Kd.H kz 132 (wb.setCell ⟨g, (x5 : Int).toNat * 6 + 2, none⟩ (.int .i64 t)) w0.heap.size (fun k_ => (P0_ k_ ∨ w.heap.size ≤ k_)) (.slice (some ⟨g, 0, none⟩) x0.length co) x0 x5 (fun k_ => oki k_ ∨ (P0_ k_ ∨ w.heap.size ≤ k_) ∧ wa.heap.size ≤ k_) [.int .i64 x1, v1, .int .i64 t, .int .i64 (rd_T132 x0 x5).f3, .slice A4 0 c4, .slice A5 0 c5']) := ⟨m1⟩; have N2 : Aside0 (wb.grownBy (wb.setCell ⟨g, (x5 : Int).toNat * 6 + 2, none⟩ (.int .i64 t)) (some g)) := ⟨m2⟩; have N3 := Aside0.mk (below_set (j := (x5 : Int).toNat * 6 + 2) (v := .int .i64 t) HB.out GB.out); clear m1 m2 hx2 hf2 HH; generalize (wb.setCell ⟨g, (x5 : Int).toNat * 6 + 2, none⟩ (.int .i64 t)) = wc at N1 N2 N3 ⊢; have HH := N1; have n1 := Aside0.mk (Kd.R_grown HR.out N2.out (fun k_ hk he => HO2.out k_ hk (by injection he))); have n2 := Aside0.mk (Kept.of_grown N2.out HK.out (fun k_ hk => by cases hk; exact GO.out)); clear HR HK HB; have HR := n1; have HK := n2; have HB := N3; clear N1 N2 N3 n1 n2; have hq := H_cells HH.out C5.out C3.out; have hx3 : wc.cell? ⟨g, (x5 : Int).toNat * 6 + 3, none⟩ = some (.int .i64 (rd_T132 x0 x5).f3) := hq.1 3 _ rfl; have hf3 : wc.frozen? ⟨g, (x5 : Int).toNat * 6 + 3, none⟩ = false := hq.2 3; clear hq; (try simp only [Act.put, List.setIfInBounds_toArray, List.set_cons_zero, List.set_cons_succ]))
            | ((with_reducible refine gate_store (t := 2) (p := 37) rfl ?_); refine store_event (t := 2) (p := 37) (v := ?vo_37) (w1 := (wc.setCell ⟨g, (x5 : Int).toNat * 6 + 3, none⟩ (.int .i64 (wrap64 (t + 1))))) ?hg ?ho ?hn ?hr ?_; (case ho => rfl); (case hg => rfl); (case hn => rfl); (case hr => first | (go_simp; done) | (go_simp; rfl)); intro w'_ hw_; subst hw_; obtain ⟨m1, m2⟩ := H_put HH.out C5.out C3.out 3 (.int .i64 (wrap64 (t + 1))) (by decide) rfl; have N1 : Aside0 (Kd.H kz 132 (wc.setCell ⟨g, (x5 : Int).toNat * 6 + 3, none⟩ (.int .i64 (wrap64 (t + 1)))) w0.heap.size (fun k_ => (P0_ k_ ∨ w.heap.size ≤ k_)) (.slice (some ⟨g, 0, none⟩) x0.length co) x0 x5 (fun k_ => oki k_ ∨ (P0_ k_ ∨ w.heap.size ≤ k_) ∧ wa.heap.size ≤ k_) [.int .i64 x1, v1, .int .i64 t, .int .i64 (wrap64 (t + 1)), .slice A4 0 c4, .slice A5 0 c5']) := ⟨m1⟩; have N2 : Aside0 (wc.grownBy (wc.setCell ⟨g, (x5 : Int).toNat * 6 + 3, none⟩ (.int .i64 (wrap64 (t + 1)))) (some g)) := ⟨m2⟩; have N3 := Aside0.mk (below_set (j := (x5 : Int).toNat * 6 + 3) (v := .int .i64 (wrap64 (t + 1))) HB.out GB.out); clear m1 m2 hx3 hf3 HH; generalize (wc.setCell ⟨g, (x5 : Int).toNat * 6 + 3, none⟩ (.int .i64 (wrap64 (t + 1)))) = wd at N1 N2 N3 ⊢; have HH := N1; have n1 := Aside0.mk (Kd.R_grown HR.out N2.out (fun k_ hk he => HO2.out k_ hk (by injection he))); have n2 := Aside0.mk (Kept.of_grown N2.out HK.out (fun k_ hk => by cases hk; exact GO.out)); clear HR HK HB; have HR := n1; have HK := n2; have HB := N3; clear N1 N2 N3 n1 n2; have hq := H_cells HH.out C5.out C3.out; have hx4 : wd.cell? ⟨g, (x5 : Int).toNat * 6 + 4, none⟩ = some (.slice A4 0 c4) := hq.1 4 _ rfl; clear hq; (try simp only [Act.put, List.setIfInBounds_toArray, List.set_cons_zero, List.set_cons_succ]))
            | (go_at_call 21; refine (markI_nil A4 c4 _ wd).mono ?_; rintro e we ⟨rfl, hb4⟩; have n0 := Aside0.mk (Kd.H_below HH.out hb4); have n1 := Aside0.mk (HK.out.below hb4); have n2 := Aside0.mk (below_step HB.out hb4); have n3 := Aside0.mk (Kd.R_below HR.out hb4); clear hb4 HH HR HK HB hx4; have HH := n0; have HR := n3; have HK := n1; have HB := n2; clear n0 n1 n2 n3; have hq := H_cells HH.out C5.out C3.out; have hx5 : we.cell? ⟨g, (x5 : Int).toNat * 6 + 5, none⟩ = some (.slice A5 0 c5') := hq.1 5 _ rfl; clear hq; (try simp only [Act.put, List.setIfInBounds_toArray, List.set_cons_zero, List.set_cons_succ]))
            | (go_at_call 162; refine (markS_nil A5 c5' _ we).mono ?_; rintro e wf ⟨rfl, hb4⟩; have n0 := Aside0.mk (Kd.H_below HH.out hb4); have n1 := Aside0.mk (HK.out.below hb4); have n2 := Aside0.mk (below_step HB.out hb4); have n3 := Aside0.mk (Kd.R_below HR.out hb4); clear hb4 HH HR HK HB hx5; have HH := n0; have HR := n3; have HK := n1; have HB := n2; clear n0 n1 n2 n3; (try simp only [Act.put, List.setIfInBounds_toArray, List.set_cons_zero, List.set_cons_succ])))
          go_roundg k1
          case measure => have := HK1.out; omega
          case rel => exact ⟨_, _, wrap64 (x5 + 1), rfl, by first | rfl | (simp; done) | (simp [*]; done), H', ⟨by have := HK1.out; omega⟩, ⟨Kd.H_back HH.out ⟨v1, A4, c4, A5, c5', rfl, HR.out, rfl, rfl⟩ (fun _ hz => hz)⟩, HK, HB⟩
        · rw [if_neg c5] at H
          exact absurd H (by simp)
      · rw [if_neg c3] at H
        have c3b0 : decide (x5 < (x0.length : Int)) = false := decide_eq_false c3
        clear c3
        simp only [Option.some.injEq, Prod.mk.injEq] at H
        obtain ⟨rfl, rfl⟩ := H
        obtain ⟨Ao, co, eo⟩ := Kd.S_slice HO.out
        subst eo
        go_wp2
        go_ret
        exact ⟨rfl, HO.out, HB.out, HK.out⟩
end Go.Proofs.Ytaecdlhomihejaa.Q
