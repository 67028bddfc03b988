/- The law FnExactSameFTL, as a statement over numbers and lists. No condition. -/
import Derived.Test.YtaecdlhomihejaaSayFnExactSameFTL
import Derived.Test.YtaecdlhomihejaaFtlC
import Derived.Test.YtaecdlhomihejaaSameFl
namespace Go.Proofs.Ytaecdlhomihejaa.Pure
open Go.RowKit Go.Proofs.Ytaecdlhomihejaa.Q Go.Proofs.YtaecdlhomihejaaW.PrintWords
set_option linter.unusedVariables false
theorem ftlIn {x : S34} (h : G14 x) : FtlIn x := by
  obtain ⟨⟨_, ⟨_, hb, hy⟩, _⟩, ⟨_, _, ⟨_, hm, _⟩, ⟨_, ht, _⟩⟩, ⟨⟨_, hh, _⟩, _⟩, _, ⟨_, ho, _⟩, ⟨_, hl, _⟩, _⟩ := h
  exact ⟨by omega, fun y q => by obtain ⟨_, _, _, ⟨_, g2, g3⟩⟩ := hy y q; exact ⟨by omega, fun z hz => g3 z hz⟩, by omega, by omega, by omega, by omega, by omega⟩
def sameFtlB (x y : S34) : Bool :=
  sameFl x.f0.f0.f0 x.f0.f0.f1 x.f0.f0.f2 (x.f0.f1.map toB) x.f0.f2 x.f0.f3 x.f0.f4 x.f0.f5 y.f0.f0.f0 y.f0.f0.f1 y.f0.f0.f2 (y.f0.f1.map toB) y.f0.f2 y.f0.f3 y.f0.f4 y.f0.f5 &&
  (sameMapB x.f1.f0 x.f1.f1 x.f1.f2 x.f1.f3 y.f1.f0 y.f1.f1 y.f1.f2 y.f1.f3 && ((decide (x.f2.f0 = y.f2.f0) && (x.f2.f1 == y.f2.f1)) && (decide (x.f3 = y.f3) && (decide (x.f4 = y.f4) && (decide (x.f5 = y.f5) && (decide (x.f6 = y.f6) && (x.f7 == y.f7)))))))
theorem and_ev {f g : Nat → Option Bool} {a b : Bool} (h : Ev f a) (k : a = true → Ev g b) : Ev (fun n => (f n).bind fun t => if t = true then g n else some false) (a && b) := by
  cases a with
  | true => exact Ev.bind h (Ev.if_pos rfl (k rfl))
  | false => exact Ev.bind h (Ev.if_neg (by decide) (Ev.now _))
theorem ite_ev {c : Prop} [Decidable c] {g : Nat → Option Bool} {b : Bool} (k : c → Ev g b) : Ev (fun n => if c then g n else some false) (decide c && b) := by
  by_cases h : c
  · rw [decide_eq_true h, Bool.true_and]; exact Ev.if_pos h (k h)
  · rw [decide_eq_false h, Bool.false_and]; exact Ev.if_neg h (Ev.now _)
theorem FnExactSameFTL : laws_FnExactSameFTL.Pure := by
  intro x y gx gy
  have hx := ftlIn gx
  have hy := ftlIn gy
  unfold laws_FnExactSameFTL.f
  refine Ev.rounds ?_
  obtain ⟨r1, e1, q1⟩ := szFtl_ev x hx 1048576 (by omega) (by omega)
  by_cases c1 : r1 < 0
  · exact Ev.bind e1 (Ev.if_pos c1 (Ev.now _))
  obtain ⟨r2, e2, q2⟩ := szFtl_ev y hy r1 (by omega) (by omega)
  by_cases c2 : r2 < 0
  · exact Ev.bind e1 (Ev.if_neg c1 (Ev.bind e2 (Ev.if_pos c2 (Ev.now _))))
  have tx := toFtl_ev x hx
  have ty := toFtl_ev y hy
  have b0 := hx.blocks
  have b1 := hx.map
  have b2 := hx.trim
  have b3 := hx.heat
  have b4 := hx.opn
  have b5 := hx.last
  have hp := toB_len x.f0.f1 hx.pages
  have hl : (x.f0.f1.map toB).length ≤ 9223372036854775806 := by rw [List.length_map]; omega
  have s : Ev (fun k => spec_SameFTL.f k x.f0.f0.f0 x.f0.f0.f1 x.f0.f0.f2 (x.f0.f1.map toB) x.f0.f2 x.f0.f3 x.f0.f4 x.f0.f5 x.f1.f0 x.f1.f1 x.f1.f2 x.f1.f3 x.f2.f0 x.f2.f1 x.f3 x.f4 x.f5 x.f6 x.f7 y.f0.f0.f0 y.f0.f0.f1 y.f0.f0.f2 (y.f0.f1.map toB) y.f0.f2 y.f0.f3 y.f0.f4 y.f0.f5 y.f1.f0 y.f1.f1 y.f1.f2 y.f1.f3 y.f2.f0 y.f2.f1 y.f3 y.f4 y.f5 y.f6 y.f7) (sameFtlB x y) := by
    unfold spec_SameFTL.f sameFtlB
    refine and_ev (sameFl_ev _ _ _ _ _ _ _ _ _ _ _ _ _ _ _ _ (fun z hz => by have := hp z hz; omega) hl) fun _ => and_ev (smap_ev _ _ _ _ _ _ _ _ (by omega) (by omega)) fun _ => and_ev ?_ fun _ => ite_ev fun _ => and_ev (same_ev _ _ (by omega)) fun _ => and_ev (same_ev _ _ (by omega)) fun _ => ite_ev fun _ => Ev.now _
    unfold spec_SameHeat.f
    exact and_ev (same_ev _ _ (by omega)) fun _ => Ev.now _
  have i : Ev (fun k => impl_SameFTL.f k x.f0.f0.f0 x.f0.f0.f1 x.f0.f0.f2 (x.f0.f1.map toB) x.f0.f2 x.f0.f3 x.f0.f4 x.f0.f5 x.f1.f0 x.f1.f1 x.f1.f2 x.f1.f3 x.f2.f0 x.f2.f1 x.f3 x.f4 x.f5 x.f6 x.f7 y.f0.f0.f0 y.f0.f0.f1 y.f0.f0.f2 (y.f0.f1.map toB) y.f0.f2 y.f0.f3 y.f0.f4 y.f0.f5 y.f1.f0 y.f1.f1 y.f1.f2 y.f1.f3 y.f2.f0 y.f2.f1 y.f3 y.f4 y.f5 y.f6 y.f7) (sameFtlB x y) := by
    unfold impl_SameFTL.f sameFtlB
    refine and_ev (f := fun _ => impl_SameFlash.f _ _ _ _ _ _ _ _ _ _ _ _ _ _ _ _) ⟨0, fun _ _ => rfl⟩ fun _ => and_ev (imap_ev _ _ _ _ _ _ _ _ (by omega) (by omega)) fun _ => and_ev ?_ fun _ => ite_ev fun _ => and_ev (equalI_ev _ _ (by omega)) fun _ => and_ev (equalI_ev _ _ (by omega)) fun _ => ite_ev fun _ => Ev.now _
    unfold impl_SameHeat.f
    exact and_ev (equalI_ev _ _ (by omega)) fun _ => Ev.now _
  have ex := eqFtl_self x hx
  have ey := eqFtl_self y hy
  refine Ev.bind e1 (Ev.if_neg c1 (Ev.bind e2 (Ev.if_neg c2 (Ev.bind tx (Ev.bind ty (Ev.bind s (Ev.bind tx (Ev.bind ty (Ev.bind i (Ev.if_neg (by simp) (Ev.bind tx (Ev.bind ex (Ev.if_pos rfl (Ev.bind ty (Ev.bind ey (Ev.if_pos rfl (Ev.now _)))))))))))))))))
end Go.Proofs.Ytaecdlhomihejaa.Pure
