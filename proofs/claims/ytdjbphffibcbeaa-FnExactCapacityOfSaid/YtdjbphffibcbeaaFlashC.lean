/- The size of a flash array's blocks against a bound, its copy, its equality with itself. Conditions: those that stand before each theorem. -/
import Derived.Test.YtdjbphffibcbeaaQ1
import Derived.Test.YtdjbphffibcbeaaQ2
import Derived.Test.YtdjbphffibcbeaaQ3
import Derived.Test.YtdjbphffibcbeaaStrS
namespace Go.Proofs.Ytdjbphffibcbeaa.Q
open Go.RowKit Go.Proofs.YtdjbphffibcbeaaW.PrintWords
set_option linter.unusedVariables false
def okPg (x : S83) : Prop := x.f3.length ≤ 8796093022208 ∧ ∀ y ∈ x.f3, y.size ≤ 140737488351232
theorem szBlock_ev (x : S83) (hx : okPg x) (n : Int) (h0 : -1 ≤ n) (h1 : n ≤ 1048576) : ∃ r, Ev (fun k => laws_szBlock.f k x.f0 x.f1 x.f2 x.f3 n) r ∧ -1 ≤ r ∧ r ≤ n := by
  obtain ⟨r, p, a, b, _⟩ := szStringS_ev x.f3 hx.2 (by have := hx.1; omega) n h0 h1
  by_cases hr : r < 0
  · exact ⟨-1, Ev.bind p (Ev.if_pos hr (Ev.now _)), by omega, by omega⟩
  · exact ⟨r, Ev.bind p (Ev.if_neg hr (Ev.now _)), a, b⟩
theorem rdLB_get (l : List S83) (i : Nat) (h : i < l.length) : rd_T83 l (i : Int) = l[i] := by simp [rd_T83, h]
theorem rdIB_get (l : List S68) (i : Nat) (h : i < l.length) : rd_T68 l (i : Int) = l[i] := by simp [rd_T68, h]
theorem szBlockS_loop (l : List S83) (hs : ∀ x ∈ l, okPg x) (hl : l.length ≤ 140737488351232) (d : Nat) : ∀ (i : Nat) (n : Int), i ≤ l.length → l.length - i = d → -1 ≤ n → n ≤ 1048576 →
    ∃ r, Ev (fun k => laws_szBlockS.l0 k l n i) r ∧ -1 ≤ r ∧ r ≤ n := by
  induction d with
  | zero =>
    intro i n h1 h2 h3 h4
    refine ⟨n, Ev.step (f := fun _ => some n) (fun k => ?_) (Ev.now _), h3, by omega⟩
    rw [laws_szBlockS.l0, if_neg (by omega)]
  | succ d ih =>
    intro i n h1 h2 h3 h4
    obtain ⟨r1, e1, a1, b1⟩ := szBlock_ev l[i] (hs _ (List.getElem_mem _)) n h3 h4
    have hstep : ∀ k, laws_szBlockS.l0 (k + 1) l n i = (laws_szBlock.f k (l[i].f0) (l[i].f1) (l[i].f2) (l[i].f3) n).bind fun t => if t < 0 then some (-1) else laws_szBlockS.l0 k l t ((i + 1 : Nat) : Int) := by
      intro k
      rw [laws_szBlockS.l0, if_pos (by omega), if_pos (by omega), rdLB_get l i (by omega), wrap64_id (by omega) (by omega)]
      rfl
    by_cases hr : r1 < 0
    · exact ⟨-1, Ev.step hstep (Ev.bind e1 (Ev.if_pos hr (Ev.now _))), by omega, by omega⟩
    · obtain ⟨r, p, a, b⟩ := ih (i + 1) r1 (by omega) (by omega) (by omega) (by omega)
      exact ⟨r, Ev.step hstep (Ev.bind e1 (Ev.if_neg hr p)), a, by omega⟩
theorem szBlockS_ev (l : List S83) (hs : ∀ x ∈ l, okPg x) (hl : l.length ≤ 140737488351232) (n : Int) (h3 : -1 ≤ n) (h4 : n ≤ 1048576) :
    ∃ r, Ev (fun k => laws_szBlockS.f k l n) r ∧ -1 ≤ r ∧ r ≤ n := by
  by_cases h : n - (l.length : Int) < 0
  · refine ⟨-1, ⟨0, fun k _ => ?_⟩, by omega, h3⟩
    show laws_szBlockS.f k l n = _
    unfold laws_szBlockS.f
    rw [wrap64_id (by omega) (by omega), if_pos h]
  · obtain ⟨r, ⟨K, p⟩, a, b⟩ := szBlockS_loop l hs hl l.length 0 (n - l.length) (by omega) (by omega) (by omega) (by omega)
    refine ⟨r, ⟨K, fun k hk => ?_⟩, a, by omega⟩
    have p1 := p k hk
    dsimp only at p1 ⊢
    unfold laws_szBlockS.f
    rw [wrap64_id (by omega) (by omega), if_neg h]
    exact p1
theorem szFlash_ev (a b c : Int) (l : List S83) (u v : Int) (o : Bool) (z : Int) (hs : ∀ x ∈ l, okPg x) (hl : l.length ≤ 140737488351232) (n : Int) (h3 : -1 ≤ n) (h4 : n ≤ 1048576) :
    ∃ r, Ev (fun k => laws_szFlash.f k a b c l u v o z n) r ∧ -1 ≤ r ∧ r ≤ n := by
  obtain ⟨r, p, q, t⟩ := szBlockS_ev l hs hl n h3 h4
  by_cases hr : r < 0
  · exact ⟨-1, Ev.bind p (Ev.if_pos hr (Ev.now _)), by omega, by omega⟩
  · exact ⟨r, Ev.bind p (Ev.if_neg hr (Ev.now _)), q, t⟩
def toB (x : S83) : S68 := ⟨x.f0, x.f1, x.f2, x.f3⟩
theorem toBlock_ev (x : S83) (hx : okPg x) : Ev (fun k => laws_toBlock.f k x.f0 x.f1 x.f2 x.f3) (x.f0, x.f1, x.f2, x.f3) :=
  Ev.bind (toStringS_ev x.f3 (by have := hx.1; omega)) (Ev.now _)
theorem toBlockS_loop (l : List S83) (hs : ∀ x ∈ l, okPg x) (hl : l.length ≤ 5864062014805) (d : Nat) : ∀ i : Nat, i ≤ l.length → l.length - i = d →
    Ev (fun k => laws_toBlockS.l0 k l ((l.take i).map toB ++ List.replicate (l.length - i) z68) i) (l.map toB) := by
  induction d with
  | zero =>
    intro i h1 h2
    obtain rfl : i = l.length := by omega
    refine Ev.step (f := fun _ => some (l.map toB)) (fun k => ?_) (Ev.now _)
    rw [laws_toBlockS.l0, if_neg (by omega)]
    simp
  | succ d ih =>
    intro i h1 h2
    have hi : ((l.take i).map toB).length = i := by simp; omega
    have hn : ((l.take i).map toB ++ List.replicate (l.length - i) z68).length = l.length := by simp; omega
    have e : ((l.take i).map toB ++ List.replicate (l.length - i) z68).set i (toB l[i]) = (l.take (i + 1)).map toB ++ List.replicate (l.length - (i + 1)) z68 := by
      rw [List.set_append_right _ _ (by omega), hi, Nat.sub_self, show l.length - i = (l.length - (i + 1)) + 1 from by omega, List.replicate_succ, List.set_cons_zero, List.take_succ_eq_append_getElem (by omega), List.map_append, List.append_assoc]
      rfl
    have hstep : ∀ k, laws_toBlockS.l0 (k + 1) l ((l.take i).map toB ++ List.replicate (l.length - i) z68) i = (laws_toBlock.f k (l[i].f0) (l[i].f1) (l[i].f2) (l[i].f3)).bind fun bt => laws_toBlockS.l0 k l (((l.take i).map toB ++ List.replicate (l.length - i) z68).set i (⟨bt.1, bt.2.1, bt.2.2.1, bt.2.2.2⟩ : S68)) ((i + 1 : Nat) : Int) := by
      intro k
      rw [laws_toBlockS.l0, if_pos (by omega), if_pos (by omega), rdLB_get l i (by omega)]
      congr 1
      funext bt
      rw [hn, if_pos (by omega), wrap64_id (by omega) (by omega), Int.toNat_natCast]
      rfl
    have p := ih (i + 1) (by omega) (by omega)
    rw [← e] at p
    exact Ev.step hstep (Ev.bind (toBlock_ev l[i] (hs _ (List.getElem_mem _))) p)
theorem toBlockS_ev (l : List S83) (hs : ∀ x ∈ l, okPg x) (hl : l.length ≤ 5864062014805) : Ev (fun k => laws_toBlockS.f k l) (l.map toB) := by
  obtain ⟨K, h⟩ := toBlockS_loop l hs hl l.length 0 (by omega) (by omega)
  refine ⟨K, fun k hk => ?_⟩
  have h1 := h k hk
  dsimp only at h1 ⊢
  unfold laws_toBlockS.f
  rw [if_pos (by omega), if_pos (by omega), Int.toNat_natCast]
  simpa using h1
theorem toFlash_ev (a b c : Int) (l : List S83) (u v : Int) (o : Bool) (z : Int) (hs : ∀ x ∈ l, okPg x) (hl : l.length ≤ 5864062014805) :
    Ev (fun k => laws_toFlash.f k a b c l u v o z) (a, b, c, l.map toB, u, v, o, z) :=
  Ev.bind1 rfl (Ev.bind (toBlockS_ev l hs hl) (Ev.now _))
theorem eqBlock_self (x : S68) (hx : x.f3.length ≤ 9223372036854775806) : Ev (fun k => laws_eqBlock.f k x.f0 x.f1 x.f2 x.f3 x.f0 x.f1 x.f2 x.f3) true :=
  Ev.if_pos rfl (Ev.if_pos rfl (Ev.if_neg (by simp) (Ev.bind (eqStringS_self x.f3 hx) (Ev.if_pos rfl (Ev.now _)))))
theorem eqBlockS_loop (l : List S68) (hs : ∀ x ∈ l, x.f3.length ≤ 9223372036854775806) (hl : l.length ≤ 9223372036854775806) (d : Nat) : ∀ i : Nat, i ≤ l.length → l.length - i = d → Ev (fun k => laws_eqBlockS.l0 k l l i) true := by
  induction d with
  | zero =>
    intro i h1 h2
    refine Ev.step (f := fun _ => some true) (fun k => ?_) (Ev.now _)
    rw [laws_eqBlockS.l0, if_neg (by omega)]
  | succ d ih =>
    intro i h1 h2
    have hstep : ∀ k, laws_eqBlockS.l0 (k + 1) l l i = (laws_eqBlock.f k (l[i].f0) (l[i].f1) (l[i].f2) (l[i].f3) (l[i].f0) (l[i].f1) (l[i].f2) (l[i].f3)).bind fun t => if t = true then laws_eqBlockS.l0 k l l ((i + 1 : Nat) : Int) else some false := by
      intro k
      rw [laws_eqBlockS.l0, if_pos (by omega), if_pos (by omega), if_pos (by omega), rdIB_get l i (by omega), wrap64_id (by omega) (by omega)]
      rfl
    exact Ev.step hstep (Ev.bind (eqBlock_self l[i] (hs _ (List.getElem_mem _))) (Ev.if_pos rfl (ih (i + 1) (by omega) (by omega))))
theorem eqBlockS_self (l : List S68) (hs : ∀ x ∈ l, x.f3.length ≤ 9223372036854775806) (hl : l.length ≤ 9223372036854775806) : Ev (fun k => laws_eqBlockS.f k l l) true := by
  obtain ⟨K, h⟩ := eqBlockS_loop l hs hl l.length 0 (by omega) (by omega)
  refine ⟨K, fun k hk => ?_⟩
  have h1 := h k hk
  dsimp only at h1 ⊢
  unfold laws_eqBlockS.f
  rw [if_pos rfl]
  exact h1
theorem eqFlash_self (a b c : Int) (l : List S68) (u v : Int) (o : Bool) (z : Int) (hs : ∀ x ∈ l, x.f3.length ≤ 9223372036854775806) (hl : l.length ≤ 9223372036854775806) :
    Ev (fun k => laws_eqFlash.f k a b c l u v o z a b c l u v o z) true := by
  refine Ev.bind1 (a := true) ?_ (Ev.if_pos rfl (Ev.bind (eqBlockS_self l hs hl) (Ev.if_pos rfl (Ev.if_pos rfl (Ev.if_pos rfl (Ev.if_neg (by simp) (Ev.if_pos rfl (Ev.now _))))))))
  unfold laws_eqGeometry.f
  rw [if_pos rfl, if_pos rfl, if_pos rfl]
theorem toB_len (l : List S83) (hs : ∀ x ∈ l, okPg x) : ∀ x ∈ l.map toB, x.f3.length ≤ 8796093022208 := by
  intro x hx
  obtain ⟨y, hy, rfl⟩ := List.mem_map.1 hx
  exact (hs y hy).1
end Go.Proofs.Ytdjbphffibcbeaa.Q
