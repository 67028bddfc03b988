/- The sizes, the copies and the comparison of a flash translation layer. Conditions: the lists are not longer than memory (FtlIn). -/
import Derived.Test.YtaecdlhomihejaaFlashC
import Derived.Test.YtaecdlhomihejaaMapC
import Derived.Test.YtaecdlhomihejaaHeatC
import Derived.Test.YtaecdlhomihejaaQ2
import Derived.Test.YtaecdlhomihejaaQ3
import Derived.Test.YtaecdlhomihejaaQ5
namespace Go.Proofs.Ytaecdlhomihejaa.Q
open Go.RowKit Go.Proofs.YtaecdlhomihejaaW.PrintWords
set_option linter.unusedVariables false
structure FtlIn (x : S34) : Prop where
  blocks : x.f0.f1.length ≤ 2932031007402
  pages : ∀ y ∈ x.f0.f1, okPg y
  map : x.f1.f2.length ≤ 17592186044416
  trim : x.f1.f3.length ≤ 140737488351232
  heat : x.f2.f0.length ≤ 17592186044416
  opn : x.f4.length ≤ 17592186044416
  last : x.f5.length ≤ 17592186044416
theorem szFtl_ev (x : S34) (h : FtlIn x) (n : Int) (h0 : 0 ≤ n) (h1 : n ≤ 1048576) :
    ∃ r, Ev (fun k => laws_szFTL.f k x.f0.f0.f0 x.f0.f0.f1 x.f0.f0.f2 x.f0.f1 x.f0.f2 x.f0.f3 x.f0.f4 x.f0.f5 x.f1.f0 x.f1.f1 x.f1.f2 x.f1.f3 x.f2.f0 x.f2.f1 x.f3 x.f4 x.f5 x.f6 x.f7 n) r ∧ r ≤ n := by
  have b0 := h.blocks
  have b1 := h.map
  have b2 := h.trim
  have b3 := h.heat
  have b4 := h.opn
  have b5 := h.last
  unfold laws_szFTL.f
  obtain ⟨r1, e1, p1, q1⟩ := szFlash_ev x.f0.f0.f0 x.f0.f0.f1 x.f0.f0.f2 x.f0.f1 x.f0.f2 x.f0.f3 x.f0.f4 x.f0.f5 h.pages (by omega) n (by omega) h1
  by_cases c1 : r1 < 0
  · exact ⟨-1, Ev.bind e1 (Ev.if_pos c1 (Ev.now _)), by omega⟩
  obtain ⟨r2, e2, p2, q2, _⟩ := szInt64S_some x.f1.f2 r1 (by omega) (by omega) (by omega)
  have em : ∃ r3, laws_szPageMap.f x.f1.f0 x.f1.f1 x.f1.f2 x.f1.f3 r1 = some r3 ∧ -1 ≤ r3 ∧ r3 ≤ r1 := by
    unfold laws_szPageMap.f
    rw [e2, Option.bind_some]
    by_cases c2 : r2 < 0
    · exact ⟨-1, by rw [if_pos c2], by omega, by omega⟩
    · obtain ⟨r3, e3, p3, q3, _⟩ := szBoolS_some x.f1.f3 r2 (by omega) (by omega) (by omega)
      rw [if_neg c2, e3, Option.bind_some]
      by_cases c3 : r3 < 0
      · exact ⟨-1, by rw [if_pos c3], by omega, by omega⟩
      · exact ⟨r3, by rw [if_neg c3], by omega, by omega⟩
  obtain ⟨r3, e3, p3, q3⟩ := em
  by_cases c3 : r3 < 0
  · exact ⟨-1, Ev.bind e1 (Ev.if_neg c1 (Ev.bind1 e3 (Ev.if_pos c3 (Ev.now _)))), by omega⟩
  obtain ⟨r4, e4, q4, _⟩ := szHeat_some x.f2.f0 x.f2.f1 r3 (by omega) (by omega) (by omega)
  by_cases c4 : r4 < 0
  · exact ⟨-1, Ev.bind e1 (Ev.if_neg c1 (Ev.bind1 e3 (Ev.if_neg c3 (Ev.bind1 e4 (Ev.if_pos c4 (Ev.now _)))))), by omega⟩
  obtain ⟨r5, e5, p5, q5, _⟩ := szInt64S_some x.f4 r4 (by omega) (by omega) (by omega)
  by_cases c5 : r5 < 0
  · exact ⟨-1, Ev.bind e1 (Ev.if_neg c1 (Ev.bind1 e3 (Ev.if_neg c3 (Ev.bind1 e4 (Ev.if_neg c4 (Ev.bind1 e5 (Ev.if_pos c5 (Ev.now _)))))))), by omega⟩
  obtain ⟨r6, e6, p6, q6, _⟩ := szInt64S_some x.f5 r5 (by omega) (by omega) (by omega)
  by_cases c6 : r6 < 0
  · exact ⟨-1, Ev.bind e1 (Ev.if_neg c1 (Ev.bind1 e3 (Ev.if_neg c3 (Ev.bind1 e4 (Ev.if_neg c4 (Ev.bind1 e5 (Ev.if_neg c5 (Ev.bind1 e6 (Ev.if_pos c6 (Ev.now _)))))))))), by omega⟩
  exact ⟨r6, Ev.bind e1 (Ev.if_neg c1 (Ev.bind1 e3 (Ev.if_neg c3 (Ev.bind1 e4 (Ev.if_neg c4 (Ev.bind1 e5 (Ev.if_neg c5 (Ev.bind1 e6 (Ev.if_neg c6 (Ev.now _)))))))))), by omega⟩
theorem toFtl_ev (x : S34) (h : FtlIn x) :
    Ev (fun k => laws_toFTL.f k x.f0.f0.f0 x.f0.f0.f1 x.f0.f0.f2 x.f0.f1 x.f0.f2 x.f0.f3 x.f0.f4 x.f0.f5 x.f1.f0 x.f1.f1 x.f1.f2 x.f1.f3 x.f2.f0 x.f2.f1 x.f3 x.f4 x.f5 x.f6 x.f7)
      (x.f0.f0.f0, x.f0.f0.f1, x.f0.f0.f2, x.f0.f1.map toB, x.f0.f2, x.f0.f3, x.f0.f4, x.f0.f5, x.f1.f0, x.f1.f1, x.f1.f2, x.f1.f3, x.f2.f0, x.f2.f1, x.f3, x.f4, x.f5, x.f6, x.f7) := by
  have b0 := h.blocks
  have b1 := h.map
  have b2 := h.trim
  have b3 := h.heat
  have b4 := h.opn
  have b5 := h.last
  unfold laws_toFTL.f
  exact Ev.bind (toFlash_ev x.f0.f0.f0 x.f0.f0.f1 x.f0.f0.f2 x.f0.f1 x.f0.f2 x.f0.f3 x.f0.f4 x.f0.f5 h.pages (by omega)) (Ev.bind (toMap_ev x.f1.f0 x.f1.f1 x.f1.f2 x.f1.f3 (by omega) (by omega)) (Ev.bind (toHeat_ev x.f2.f0 x.f2.f1 (by omega)) (Ev.bind (toInt64S_ev x.f4 (by omega)) (Ev.bind (toInt64S_ev x.f5 (by omega)) (Ev.now _)))))
theorem eqFtl_self (x : S34) (h : FtlIn x) :
    Ev (fun k => laws_eqFTL.f k x.f0.f0.f0 x.f0.f0.f1 x.f0.f0.f2 (x.f0.f1.map toB) x.f0.f2 x.f0.f3 x.f0.f4 x.f0.f5 x.f1.f0 x.f1.f1 x.f1.f2 x.f1.f3 x.f2.f0 x.f2.f1 x.f3 x.f4 x.f5 x.f6 x.f7 x.f0.f0.f0 x.f0.f0.f1 x.f0.f0.f2 (x.f0.f1.map toB) x.f0.f2 x.f0.f3 x.f0.f4 x.f0.f5 x.f1.f0 x.f1.f1 x.f1.f2 x.f1.f3 x.f2.f0 x.f2.f1 x.f3 x.f4 x.f5 x.f6 x.f7) true := by
  have b0 := h.blocks
  have b1 := h.map
  have b2 := h.trim
  have b3 := h.heat
  have b4 := h.opn
  have b5 := h.last
  have hp := toB_len x.f0.f1 h.pages
  have hl : (x.f0.f1.map toB).length ≤ 9223372036854775806 := by rw [List.length_map]; omega
  have s4 := eqInt64S_ev x.f4 x.f4 (by omega)
  have s5 := eqInt64S_ev x.f5 x.f5 (by omega)
  rw [decide_eq_true rfl] at s4 s5
  unfold laws_eqFTL.f
  exact Ev.bind (eqFlash_self x.f0.f0.f0 x.f0.f0.f1 x.f0.f0.f2 (x.f0.f1.map toB) x.f0.f2 x.f0.f3 x.f0.f4 x.f0.f5 (fun y hy => by have := hp y hy; omega) hl) (Ev.if_pos rfl (Ev.bind (eqMap_self x.f1.f0 x.f1.f1 x.f1.f2 x.f1.f3 (by omega) (by omega)) (Ev.if_pos rfl (Ev.bind (eqHeat_self x.f2.f0 x.f2.f1 (by omega)) (Ev.if_pos rfl (Ev.if_pos rfl (Ev.bind s4 (Ev.if_pos rfl (Ev.bind s5 (Ev.if_pos rfl (Ev.if_pos rfl (Ev.if_pos rfl (Ev.now _)))))))))))))
end Go.Proofs.Ytaecdlhomihejaa.Q
