/- The size of zones against a bound, their copies, their equality with themselves; a device's. Conditions: the lists are not longer than memory. -/
import Derived.Test.YtdjbphffibcbeaaQ2
import Derived.Test.YtdjbphffibcbeaaNum
import Derived.Test.YtdjbphffibcbeaaQ1
import Derived.Test.YtdjbphffibcbeaaFlashC
import Derived.Test.YtdjbphffibcbeaaEqInt64S
import Derived.Test.YtdjbphffibcbeaaQ4
namespace Go.Proofs.Ytdjbphffibcbeaa.Q
open Go.RowKit Go.Proofs.YtdjbphffibcbeaaW.PrintWords
set_option linter.unusedVariables false
theorem toInt64S_loop (l : List Int) (hl : l.length ≤ 35184372088832) (d : Nat) : ∀ i : Nat, i ≤ l.length → l.length - i = d →
    Ev (fun k => laws_toInt64S.l0 k l (l.take i ++ List.replicate (l.length - i) 0) i) l := by
  induction d with
  | zero =>
    intro i h1 h2
    obtain rfl : i = l.length := by omega
    refine Ev.step (f := fun _ => some l) (fun k => ?_) (Ev.now _)
    rw [laws_toInt64S.l0, if_neg (by omega)]
    simp
  | succ d ih =>
    intro i h1 h2
    refine Ev.step (fun k => ?_) (ih (i + 1) (by omega) (by omega))
    have hn : (l.take i ++ List.replicate (l.length - i) (0 : Int)).length = l.length := by simp; omega
    rw [laws_toInt64S.l0, if_pos (by omega), if_pos (by omega), hn, if_pos (by omega), rd_get l i (by omega), wrap64_id (by omega) (by omega), Int.toNat_natCast]
    have e : (l.take i ++ List.replicate (l.length - i) (0 : Int)).set i l[i] = l.take (i + 1) ++ List.replicate (l.length - (i + 1)) 0 := by
      have hi : (l.take i).length = i := by simp; omega
      rw [List.set_append_right _ _ (by omega), hi, Nat.sub_self, show l.length - i = (l.length - (i + 1)) + 1 from by omega, List.replicate_succ, List.set_cons_zero, List.take_succ_eq_append_getElem (by omega), List.append_assoc]
      rfl
    rw [e]
    rfl
theorem toInt64S_ev (l : List Int) (hl : l.length ≤ 35184372088832) : Ev (fun k => laws_toInt64S.f k l) l := by
  have h := toInt64S_loop l hl l.length 0 (by omega) (by omega)
  obtain ⟨K, h⟩ := h
  refine ⟨K, fun k hk => ?_⟩
  have h1 := h k hk
  dsimp only at h1 ⊢
  unfold laws_toInt64S.f
  rw [if_pos (by omega), if_pos (by omega), Int.toNat_natCast]
  simpa using h1
end Go.Proofs.Ytdjbphffibcbeaa.Q
namespace Go.Proofs.Ytdjbphffibcbeaa.Q
open Go.RowKit Go.Proofs.YtdjbphffibcbeaaW.PrintWords
set_option linter.unusedVariables false
theorem szInt64S_some (l : List Int) (n : Int) (hl : l.length ≤ 9223372036854775807) (h0 : -1 ≤ n) (h1 : n ≤ 1048576) :
    ∃ r, laws_szInt64S.f l n = some r ∧ -1 ≤ r ∧ r ≤ n ∧ (0 ≤ r → r + l.length ≤ n) := by
  unfold laws_szInt64S.f
  by_cases h : wrap64 (n - (l.length : Int)) < 0
  · rw [if_pos h]
    exact ⟨-1, rfl, by omega, h0, by omega⟩
  · rw [if_neg h]
    refine ⟨_, rfl, by omega, ?_, ?_⟩
    · unfold wrap64 at h ⊢; omega
    · unfold wrap64 at h ⊢; omega
end Go.Proofs.Ytdjbphffibcbeaa.Q
namespace Go.Proofs.Ytdjbphffibcbeaa.Q
open Go.RowKit Go.Proofs.YtdjbphffibcbeaaW.PrintWords
set_option linter.unusedVariables false
structure okZn (x : S64) : Prop where
  blocks : x.f1.length ≤ 17592186044416
  rows : x.f4.length ≤ 17592186044416
  buf : x.f5.length ≤ 8796093022208
  txt : ∀ y ∈ x.f5, y.size ≤ 140737488351232
theorem szZone_ev (x : S64) (hx : okZn x) (n : Int) (h0 : -1 ≤ n) (h1 : n ≤ 1048576) : ∃ r, Ev (fun k => laws_szZone.f k x.f0 x.f1 x.f2 x.f3 x.f4 x.f5 n) r ∧ -1 ≤ r ∧ r ≤ n := by
  have b1 := hx.blocks
  have b4 := hx.rows
  have b5 := hx.buf
  obtain ⟨r1, e1, p1, q1, _⟩ := szInt64S_some x.f1 n (by omega) (by omega) (by omega)
  by_cases c1 : r1 < 0
  · exact ⟨-1, Ev.bind1 e1 (Ev.if_pos c1 (Ev.now _)), by omega, by omega⟩
  obtain ⟨r2, e2, p2, q2, _⟩ := szInt64S_some x.f4 r1 (by omega) (by omega) (by omega)
  by_cases c2 : r2 < 0
  · exact ⟨-1, Ev.bind1 e1 (Ev.if_neg c1 (Ev.bind1 e2 (Ev.if_pos c2 (Ev.now _)))), by omega, by omega⟩
  obtain ⟨r3, e3, p3, q3, _⟩ := szStringS_ev x.f5 hx.txt (by omega) r2 (by omega) (by omega)
  by_cases c3 : r3 < 0
  · exact ⟨-1, Ev.bind1 e1 (Ev.if_neg c1 (Ev.bind1 e2 (Ev.if_neg c2 (Ev.bind e3 (Ev.if_pos c3 (Ev.now _)))))), by omega, by omega⟩
  · exact ⟨r3, Ev.bind1 e1 (Ev.if_neg c1 (Ev.bind1 e2 (Ev.if_neg c2 (Ev.bind e3 (Ev.if_neg c3 (Ev.now _)))))), by omega, by omega⟩
theorem rdLZ_get (l : List S64) (i : Nat) (h : i < l.length) : rd_T64 l (i : Int) = l[i] := by simp [rd_T64, h]
theorem rdIZ_get (l : List S50) (i : Nat) (h : i < l.length) : rd_T50 l (i : Int) = l[i] := by simp [rd_T50, h]
theorem szZoneS_loop (l : List S64) (hs : ∀ x ∈ l, okZn x) (hl : l.length ≤ 140737488351232) (d : Nat) : ∀ (i : Nat) (n : Int), i ≤ l.length → l.length - i = d → -1 ≤ n → n ≤ 1048576 →
    ∃ r, Ev (fun k => laws_szZoneS.l0 k l n i) r ∧ -1 ≤ r ∧ r ≤ n := by
  induction d with
  | zero =>
    intro i n h1 h2 h3 h4
    refine ⟨n, Ev.step (f := fun _ => some n) (fun k => ?_) (Ev.now _), h3, by omega⟩
    rw [laws_szZoneS.l0, if_neg (by omega)]
  | succ d ih =>
    intro i n h1 h2 h3 h4
    obtain ⟨r1, e1, a1, b1⟩ := szZone_ev l[i] (hs _ (List.getElem_mem _)) n h3 h4
    have hstep : ∀ k, laws_szZoneS.l0 (k + 1) l n i = (laws_szZone.f k (l[i].f0) (l[i].f1) (l[i].f2) (l[i].f3) (l[i].f4) (l[i].f5) n).bind fun t => if t < 0 then some (-1) else laws_szZoneS.l0 k l t ((i + 1 : Nat) : Int) := by
      intro k
      rw [laws_szZoneS.l0, if_pos (by omega), if_pos (by omega), rdLZ_get l i (by omega), wrap64_id (by omega) (by omega)]
      rfl
    by_cases hr : r1 < 0
    · exact ⟨-1, Ev.step hstep (Ev.bind e1 (Ev.if_pos hr (Ev.now _))), by omega, by omega⟩
    · obtain ⟨r, p, a, b⟩ := ih (i + 1) r1 (by omega) (by omega) (by omega) (by omega)
      exact ⟨r, Ev.step hstep (Ev.bind e1 (Ev.if_neg hr p)), a, by omega⟩
theorem szZoneS_ev (l : List S64) (hs : ∀ x ∈ l, okZn x) (hl : l.length ≤ 140737488351232) (n : Int) (h3 : -1 ≤ n) (h4 : n ≤ 1048576) :
    ∃ r, Ev (fun k => laws_szZoneS.f k l n) r ∧ -1 ≤ r ∧ r ≤ n := by
  by_cases h : n - (l.length : Int) < 0
  · refine ⟨-1, ⟨0, fun k _ => ?_⟩, by omega, h3⟩
    show laws_szZoneS.f k l n = _
    unfold laws_szZoneS.f
    rw [wrap64_id (by omega) (by omega), if_pos h]
  · obtain ⟨r, ⟨K, p⟩, a, b⟩ := szZoneS_loop l hs hl l.length 0 (n - l.length) (by omega) (by omega) (by omega) (by omega)
    refine ⟨r, ⟨K, fun k hk => ?_⟩, a, by omega⟩
    have p1 := p k hk
    dsimp only at p1 ⊢
    unfold laws_szZoneS.f
    rw [wrap64_id (by omega) (by omega), if_neg h]
    exact p1
def toZ (x : S64) : S50 := ⟨x.f0, x.f1, x.f2, x.f3, x.f4, x.f5⟩
theorem toZone_ev (x : S64) (hx : okZn x) : Ev (fun k => laws_toZone.f k x.f0 x.f1 x.f2 x.f3 x.f4 x.f5) (x.f0, x.f1, x.f2, x.f3, x.f4, x.f5) :=
  Ev.bind (toInt64S_ev x.f1 (by have := hx.blocks; omega)) (Ev.bind (toInt64S_ev x.f4 (by have := hx.rows; omega)) (Ev.bind (toStringS_ev x.f5 (by have := hx.buf; omega)) (Ev.now _)))
theorem toZoneS_loop (l : List S64) (hs : ∀ x ∈ l, okZn x) (hl : l.length ≤ 2932031007402) (d : Nat) : ∀ i : Nat, i ≤ l.length → l.length - i = d →
    Ev (fun k => laws_toZoneS.l0 k l ((l.take i).map toZ ++ List.replicate (l.length - i) z50) i) (l.map toZ) := by
  induction d with
  | zero =>
    intro i h1 h2
    obtain rfl : i = l.length := by omega
    refine Ev.step (f := fun _ => some (l.map toZ)) (fun k => ?_) (Ev.now _)
    rw [laws_toZoneS.l0, if_neg (by omega)]
    simp
  | succ d ih =>
    intro i h1 h2
    have hi : ((l.take i).map toZ).length = i := by simp; omega
    have hn : ((l.take i).map toZ ++ List.replicate (l.length - i) z50).length = l.length := by simp; omega
    have e : ((l.take i).map toZ ++ List.replicate (l.length - i) z50).set i (toZ l[i]) = (l.take (i + 1)).map toZ ++ List.replicate (l.length - (i + 1)) z50 := by
      rw [List.set_append_right _ _ (by omega), hi, Nat.sub_self, show l.length - i = (l.length - (i + 1)) + 1 from by omega, List.replicate_succ, List.set_cons_zero, List.take_succ_eq_append_getElem (by omega), List.map_append, List.append_assoc]
      rfl
    have hstep : ∀ k, laws_toZoneS.l0 (k + 1) l ((l.take i).map toZ ++ List.replicate (l.length - i) z50) i = (laws_toZone.f k (l[i].f0) (l[i].f1) (l[i].f2) (l[i].f3) (l[i].f4) (l[i].f5)).bind fun bt => laws_toZoneS.l0 k l (((l.take i).map toZ ++ List.replicate (l.length - i) z50).set i (⟨bt.1, bt.2.1, bt.2.2.1, bt.2.2.2.1, bt.2.2.2.2.1, bt.2.2.2.2.2⟩ : S50)) ((i + 1 : Nat) : Int) := by
      intro k
      rw [laws_toZoneS.l0, if_pos (by omega), if_pos (by omega), rdLZ_get l i (by omega)]
      congr 1
      funext bt
      rw [hn, if_pos (by omega), wrap64_id (by omega) (by omega), Int.toNat_natCast]
      rfl
    have p := ih (i + 1) (by omega) (by omega)
    rw [← e] at p
    exact Ev.step hstep (Ev.bind (toZone_ev l[i] (hs _ (List.getElem_mem _))) p)
theorem toZoneS_ev (l : List S64) (hs : ∀ x ∈ l, okZn x) (hl : l.length ≤ 2932031007402) : Ev (fun k => laws_toZoneS.f k l) (l.map toZ) := by
  obtain ⟨K, h⟩ := toZoneS_loop l hs hl l.length 0 (by omega) (by omega)
  refine ⟨K, fun k hk => ?_⟩
  have h1 := h k hk
  dsimp only at h1 ⊢
  unfold laws_toZoneS.f
  rw [if_pos (by omega), if_pos (by omega), Int.toNat_natCast]
  simpa using h1
theorem eqZone_self (x : S50) (h1 : x.f1.length ≤ 9223372036854775806) (h4 : x.f4.length ≤ 9223372036854775806) (h5 : x.f5.length ≤ 9223372036854775806) : Ev (fun k => laws_eqZone.f k x.f0 x.f1 x.f2 x.f3 x.f4 x.f5 x.f0 x.f1 x.f2 x.f3 x.f4 x.f5) true := by
  have s1 := eqInt64S_ev x.f1 x.f1 h1
  have s4 := eqInt64S_ev x.f4 x.f4 h4
  rw [decide_eq_true rfl] at s1 s4
  exact Ev.if_pos rfl (Ev.bind s1 (Ev.if_pos rfl (Ev.if_pos rfl (Ev.if_pos rfl (Ev.bind s4 (Ev.if_pos rfl (Ev.bind (eqStringS_self x.f5 h5) (Ev.if_pos rfl (Ev.now _)))))))))
structure shZn (x : S50) : Prop where
  blocks : x.f1.length ≤ 17592186044416
  rows : x.f4.length ≤ 17592186044416
  buf : x.f5.length ≤ 8796093022208
theorem toZ_sh (l : List S64) (hs : ∀ x ∈ l, okZn x) : ∀ x ∈ l.map toZ, shZn x := by
  intro x hx
  obtain ⟨y, hy, rfl⟩ := List.mem_map.1 hx
  exact ⟨(hs y hy).blocks, (hs y hy).rows, (hs y hy).buf⟩
theorem eqZoneS_loop (l : List S50) (hs : ∀ x ∈ l, shZn x) (hl : l.length ≤ 9223372036854775806) (d : Nat) : ∀ i : Nat, i ≤ l.length → l.length - i = d → Ev (fun k => laws_eqZoneS.l0 k l l i) true := by
  induction d with
  | zero =>
    intro i h1 h2
    refine Ev.step (f := fun _ => some true) (fun k => ?_) (Ev.now _)
    rw [laws_eqZoneS.l0, if_neg (by omega)]
  | succ d ih =>
    intro i h1 h2
    have hz := hs l[i] (List.getElem_mem _)
    have z1 := hz.blocks
    have z4 := hz.rows
    have z5 := hz.buf
    have hstep : ∀ k, laws_eqZoneS.l0 (k + 1) l l i = (laws_eqZone.f k (l[i].f0) (l[i].f1) (l[i].f2) (l[i].f3) (l[i].f4) (l[i].f5) (l[i].f0) (l[i].f1) (l[i].f2) (l[i].f3) (l[i].f4) (l[i].f5)).bind fun t => if t = true then laws_eqZoneS.l0 k l l ((i + 1 : Nat) : Int) else some false := by
      intro k
      rw [laws_eqZoneS.l0, if_pos (by omega), if_pos (by omega), if_pos (by omega), rdIZ_get l i (by omega), wrap64_id (by omega) (by omega)]
      rfl
    exact Ev.step hstep (Ev.bind (eqZone_self l[i] (by omega) (by omega) (by omega)) (Ev.if_pos rfl (ih (i + 1) (by omega) (by omega))))
theorem eqZoneS_self (l : List S50) (hs : ∀ x ∈ l, shZn x) (hl : l.length ≤ 9223372036854775806) : Ev (fun k => laws_eqZoneS.f k l l) true := by
  obtain ⟨K, h⟩ := eqZoneS_loop l hs hl l.length 0 (by omega) (by omega)
  refine ⟨K, fun k hk => ?_⟩
  have h1 := h k hk
  dsimp only at h1 ⊢
  unfold laws_eqZoneS.f
  rw [if_pos rfl]
  exact h1
structure DevIn (x : S29) : Prop where
  blocks : x.f0.f1.length ≤ 2932031007402
  pages : ∀ y ∈ x.f0.f1, okPg y
  zones : x.f1.length ≤ 1466015503701
  each : ∀ y ∈ x.f1, okZn y
theorem szDev_ev (x : S29) (h : DevIn x) (n : Int) (h0 : 0 ≤ n) (h1 : n ≤ 1048576) :
    ∃ r, Ev (fun k => laws_szDevice.f k x.f0.f0.f0 x.f0.f0.f1 x.f0.f0.f2 x.f0.f1 x.f0.f2 x.f0.f3 x.f0.f4 x.f0.f5 x.f1 n) r ∧ r ≤ n := by
  have b0 := h.blocks
  have b1 := h.zones
  unfold laws_szDevice.f
  obtain ⟨r1, e1, p1, q1⟩ := szFlash_ev x.f0.f0.f0 x.f0.f0.f1 x.f0.f0.f2 x.f0.f1 x.f0.f2 x.f0.f3 x.f0.f4 x.f0.f5 h.pages (by omega) n (by omega) h1
  by_cases c1 : r1 < 0
  · exact ⟨-1, Ev.bind e1 (Ev.if_pos c1 (Ev.now _)), by omega⟩
  obtain ⟨r2, e2, p2, q2⟩ := szZoneS_ev x.f1 h.each (by omega) r1 (by omega) (by omega)
  by_cases c2 : r2 < 0
  · exact ⟨-1, Ev.bind e1 (Ev.if_neg c1 (Ev.bind e2 (Ev.if_pos c2 (Ev.now _)))), by omega⟩
  · exact ⟨r2, Ev.bind e1 (Ev.if_neg c1 (Ev.bind e2 (Ev.if_neg c2 (Ev.now _)))), by omega⟩
theorem toDev_ev (x : S29) (h : DevIn x) :
    Ev (fun k => laws_toDevice.f k x.f0.f0.f0 x.f0.f0.f1 x.f0.f0.f2 x.f0.f1 x.f0.f2 x.f0.f3 x.f0.f4 x.f0.f5 x.f1)
      (x.f0.f0.f0, x.f0.f0.f1, x.f0.f0.f2, x.f0.f1.map toB, x.f0.f2, x.f0.f3, x.f0.f4, x.f0.f5, x.f1.map toZ) := by
  have b0 := h.blocks
  have b1 := h.zones
  unfold laws_toDevice.f
  exact Ev.bind (toFlash_ev x.f0.f0.f0 x.f0.f0.f1 x.f0.f0.f2 x.f0.f1 x.f0.f2 x.f0.f3 x.f0.f4 x.f0.f5 h.pages (by omega)) (Ev.bind (toZoneS_ev x.f1 h.each (by omega)) (Ev.now _))
theorem eqDev_self (x : S29) (h : DevIn x) :
    Ev (fun k => laws_eqDevice.f k x.f0.f0.f0 x.f0.f0.f1 x.f0.f0.f2 (x.f0.f1.map toB) x.f0.f2 x.f0.f3 x.f0.f4 x.f0.f5 (x.f1.map toZ) x.f0.f0.f0 x.f0.f0.f1 x.f0.f0.f2 (x.f0.f1.map toB) x.f0.f2 x.f0.f3 x.f0.f4 x.f0.f5 (x.f1.map toZ)) true := by
  have b0 := h.blocks
  have b1 := h.zones
  have hp := toB_len x.f0.f1 h.pages
  have hl : (x.f0.f1.map toB).length ≤ 9223372036854775806 := by rw [List.length_map]; omega
  have hz : (x.f1.map toZ).length ≤ 9223372036854775806 := by rw [List.length_map]; omega
  unfold laws_eqDevice.f
  exact Ev.bind (eqFlash_self x.f0.f0.f0 x.f0.f0.f1 x.f0.f0.f2 (x.f0.f1.map toB) x.f0.f2 x.f0.f3 x.f0.f4 x.f0.f5 (fun y hy => by have := hp y hy; omega) hl) (Ev.if_pos rfl (Ev.bind (eqZoneS_self _ (toZ_sh x.f1 h.each) hz) (Ev.if_pos rfl (Ev.now _))))
end Go.Proofs.Ytdjbphffibcbeaa.Q
