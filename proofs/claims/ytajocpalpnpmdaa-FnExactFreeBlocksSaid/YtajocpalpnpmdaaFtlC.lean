/- The sizes, the copies and the comparison of a flash translation layer. Conditions: the lists are not longer than memory (FtlIn). -/
import Derived.Test.YtajocpalpnpmdaaQ1
import Derived.Test.YtajocpalpnpmdaaQ4
import Derived.Test.YtajocpalpnpmdaaQ6
import Derived.Test.YtajocpalpnpmdaaNum
import Derived.Test.YtajocpalpnpmdaaQ7
import Derived.Test.YtajocpalpnpmdaaQ5
import Derived.Test.YtajocpalpnpmdaaEqInt64S
namespace Go.Proofs.Ytajocpalpnpmdaa.Q
open Go.RowKit Go.Proofs.YtajocpalpnpmdaaW.PrintWords
set_option linter.unusedVariables false
theorem rdS_get (l : List ByteArray) (i : Nat) (h : i < l.length) : rdOf ByteArray.empty l (i : Int) = l[i] := by simp [rdOf, h]
theorem szStringS_loop (l : List ByteArray) (hs : ∀ x ∈ l, x.size ≤ 140737488351232) (hl : l.length ≤ 140737488351232) (d : Nat) : ∀ (i : Nat) (n : Int), i ≤ l.length → l.length - i = d → -1 ≤ n → n ≤ 1048576 →
    ∃ r, Ev (fun k => laws_szStringS.l0 k l n i) r ∧ -1 ≤ r ∧ r ≤ n := by
  induction d with
  | zero =>
    intro i n h1 h2 h3 h4
    refine ⟨n, Ev.step (f := fun _ => some n) (fun k => ?_) (Ev.now _), h3, by omega⟩
    rw [laws_szStringS.l0, if_neg (by omega)]
  | succ d ih =>
    intro i n h1 h2 h3 h4
    have hz := hs l[i] (List.getElem_mem _)
    by_cases hr : n - (l[i].size : Int) < 0
    · refine ⟨-1, Ev.step (f := fun _ => some (-1)) (fun k => ?_) (Ev.now _), by omega, by omega⟩
      rw [laws_szStringS.l0, if_pos (by omega), if_pos (by omega), rdS_get l i (by omega), wrap64_id (x := n - _) (by omega) (by omega), if_pos hr]
    · obtain ⟨r, p, a, b⟩ := ih (i + 1) (n - (l[i].size : Int)) (by omega) (by omega) (by omega) (by omega)
      refine ⟨r, Ev.step (fun k => ?_) p, a, by omega⟩
      rw [laws_szStringS.l0, if_pos (by omega), if_pos (by omega), rdS_get l i (by omega), wrap64_id (x := n - _) (by omega) (by omega), if_neg hr, wrap64_id (by omega) (by omega)]
      rfl
theorem szStringS_ev (l : List ByteArray) (hs : ∀ x ∈ l, x.size ≤ 140737488351232) (hl : l.length ≤ 140737488351232) (n : Int) (h3 : -1 ≤ n) (h4 : n ≤ 1048576) :
    ∃ r, Ev (fun k => laws_szStringS.f k l n) r ∧ -1 ≤ r ∧ r ≤ n ∧ (0 ≤ r → (l.length : Int) ≤ n) := by
  by_cases h : n - (l.length : Int) < 0
  · refine ⟨-1, ⟨0, fun k _ => ?_⟩, by omega, h3, by omega⟩
    show laws_szStringS.f k l n = _
    unfold laws_szStringS.f
    rw [wrap64_id (by omega) (by omega), if_pos h]
  · obtain ⟨r, ⟨K, p⟩, a, b⟩ := szStringS_loop l hs hl l.length 0 (n - l.length) (by omega) (by omega) (by omega) (by omega)
    refine ⟨r, ⟨K, fun k hk => ?_⟩, a, by omega, by omega⟩
    have p1 := p k hk
    dsimp only at p1 ⊢
    unfold laws_szStringS.f
    rw [wrap64_id (by omega) (by omega), if_neg h]
    exact p1
theorem toStringS_loop (l : List ByteArray) (hl : l.length ≤ 17592186044416) (d : Nat) : ∀ i : Nat, i ≤ l.length → l.length - i = d →
    Ev (fun k => laws_toStringS.l0 k l (l.take i ++ List.replicate (l.length - i) (⟨#[]⟩ : ByteArray)) i) l := by
  induction d with
  | zero =>
    intro i h1 h2
    obtain rfl : i = l.length := by omega
    refine Ev.step (f := fun _ => some l) (fun k => ?_) (Ev.now _)
    rw [laws_toStringS.l0, if_neg (by omega)]
    simp
  | succ d ih =>
    intro i h1 h2
    refine Ev.step (fun k => ?_) (ih (i + 1) (by omega) (by omega))
    have hn : (l.take i ++ List.replicate (l.length - i) (⟨#[]⟩ : ByteArray)).length = l.length := by simp; omega
    rw [laws_toStringS.l0, if_pos (by omega), if_pos (by omega), hn, if_pos (by omega), rdS_get l i (by omega), wrap64_id (by omega) (by omega), Int.toNat_natCast]
    have e : (l.take i ++ List.replicate (l.length - i) (⟨#[]⟩ : ByteArray)).set i l[i] = l.take (i + 1) ++ List.replicate (l.length - (i + 1)) (⟨#[]⟩ : ByteArray) := by
      have hi : (l.take i).length = i := by simp; omega
      rw [List.set_append_right _ _ (by omega), hi, Nat.sub_self, show l.length - i = (l.length - (i + 1)) + 1 from by omega, List.replicate_succ, List.set_cons_zero, List.take_succ_eq_append_getElem (by omega), List.append_assoc]
      rfl
    rw [e]
    rfl
theorem toStringS_ev (l : List ByteArray) (hl : l.length ≤ 17592186044416) : Ev (fun k => laws_toStringS.f k l) l := by
  have h := toStringS_loop l hl l.length 0 (by omega) (by omega)
  obtain ⟨K, h⟩ := h
  refine ⟨K, fun k hk => ?_⟩
  have h1 := h k hk
  dsimp only at h1 ⊢
  unfold laws_toStringS.f
  rw [if_pos (by omega), if_pos (by omega), Int.toNat_natCast]
  simpa using h1
theorem eqStringS_loop (l : List ByteArray) (hl : l.length ≤ 9223372036854775806) (d : Nat) : ∀ i : Nat, i ≤ l.length → l.length - i = d → Ev (fun k => laws_eqStringS.l0 k l l i) true := by
  induction d with
  | zero =>
    intro i h1 h2
    refine Ev.step (f := fun _ => some true) (fun k => ?_) (Ev.now _)
    rw [laws_eqStringS.l0, if_neg (by omega)]
  | succ d ih =>
    intro i h1 h2
    refine Ev.step (fun k => ?_) (ih (i + 1) (by omega) (by omega))
    rw [laws_eqStringS.l0, if_pos (by omega), if_pos (by omega), if_pos (by omega), if_pos rfl, wrap64_id (by omega) (by omega)]
    rfl
theorem eqStringS_self (l : List ByteArray) (hl : l.length ≤ 9223372036854775806) : Ev (fun k => laws_eqStringS.f k l l) true := by
  obtain ⟨K, h⟩ := eqStringS_loop l hl l.length 0 (by omega) (by omega)
  refine ⟨K, fun k hk => ?_⟩
  have h1 := h k hk
  dsimp only at h1 ⊢
  unfold laws_eqStringS.f
  rw [if_pos rfl]
  exact h1
end Go.Proofs.Ytajocpalpnpmdaa.Q
namespace Go.Proofs.Ytajocpalpnpmdaa.Q
open Go.RowKit Go.Proofs.YtajocpalpnpmdaaW.PrintWords
set_option linter.unusedVariables false
def okPg (x : S103) : Prop := x.f3.length ≤ 8796093022208 ∧ ∀ y ∈ x.f3, y.size ≤ 140737488351232
theorem rdLB_get (l : List S103) (i : Nat) (h : i < l.length) : rd_T103 l (i : Int) = l[i] := by simp [rd_T103, h]
theorem rdIB_get (l : List S92) (i : Nat) (h : i < l.length) : rd_T92 l (i : Int) = l[i] := by simp [rd_T92, h]
def toB (x : S103) : S92 := ⟨x.f0, x.f1, x.f2, x.f3⟩
theorem toBlock_ev (x : S103) (hx : okPg x) : Ev (fun k => laws_toBlock.f k x.f0 x.f1 x.f2 x.f3) (x.f0, x.f1, x.f2, x.f3) :=
  Ev.bind (toStringS_ev x.f3 (by have := hx.1; omega)) (Ev.now _)
theorem toBlockS_loop (l : List S103) (hs : ∀ x ∈ l, okPg x) (hl : l.length ≤ 5864062014805) (d : Nat) : ∀ i : Nat, i ≤ l.length → l.length - i = d →
    Ev (fun k => laws_toBlockS.l0 k l ((l.take i).map toB ++ List.replicate (l.length - i) z92) i) (l.map toB) := by
  induction d with
  | zero =>
    intro i h1 h2
    obtain rfl : i = l.length := by omega
    refine Ev.step (f := fun _ => some (l.map toB)) (fun k => ?_) (Ev.now _)
    rw [laws_toBlockS.l0, if_neg (by omega)]
    simp
  | succ d ih =>
    intro i h1 h2
    have hi : ((l.take i).map toB).length = i := by simp; omega
    have hn : ((l.take i).map toB ++ List.replicate (l.length - i) z92).length = l.length := by simp; omega
    have e : ((l.take i).map toB ++ List.replicate (l.length - i) z92).set i (toB l[i]) = (l.take (i + 1)).map toB ++ List.replicate (l.length - (i + 1)) z92 := by
      rw [List.set_append_right _ _ (by omega), hi, Nat.sub_self, show l.length - i = (l.length - (i + 1)) + 1 from by omega, List.replicate_succ, List.set_cons_zero, List.take_succ_eq_append_getElem (by omega), List.map_append, List.append_assoc]
      rfl
    have hstep : ∀ k, laws_toBlockS.l0 (k + 1) l ((l.take i).map toB ++ List.replicate (l.length - i) z92) i = (laws_toBlock.f k (l[i].f0) (l[i].f1) (l[i].f2) (l[i].f3)).bind fun bt => laws_toBlockS.l0 k l (((l.take i).map toB ++ List.replicate (l.length - i) z92).set i (⟨bt.1, bt.2.1, bt.2.2.1, bt.2.2.2⟩ : S92)) ((i + 1 : Nat) : Int) := by
      intro k
      rw [laws_toBlockS.l0, if_pos (by omega), if_pos (by omega), rdLB_get l i (by omega)]
      congr 1
      funext bt
      rw [hn, if_pos (by omega), wrap64_id (by omega) (by omega), Int.toNat_natCast]
      rfl
    have p := ih (i + 1) (by omega) (by omega)
    rw [← e] at p
    exact Ev.step hstep (Ev.bind (toBlock_ev l[i] (hs _ (List.getElem_mem _))) p)
theorem toBlockS_ev (l : List S103) (hs : ∀ x ∈ l, okPg x) (hl : l.length ≤ 5864062014805) : Ev (fun k => laws_toBlockS.f k l) (l.map toB) := by
  obtain ⟨K, h⟩ := toBlockS_loop l hs hl l.length 0 (by omega) (by omega)
  refine ⟨K, fun k hk => ?_⟩
  have h1 := h k hk
  dsimp only at h1 ⊢
  unfold laws_toBlockS.f
  rw [if_pos (by omega), if_pos (by omega), Int.toNat_natCast]
  simpa using h1
theorem toFlash_ev (a b c : Int) (l : List S103) (u v : Int) (o : Bool) (z : Int) (hs : ∀ x ∈ l, okPg x) (hl : l.length ≤ 5864062014805) :
    Ev (fun k => laws_toFlash.f k a b c l u v o z) (a, b, c, l.map toB, u, v, o, z) :=
  Ev.bind1 rfl (Ev.bind (toBlockS_ev l hs hl) (Ev.now _))
theorem eqBlock_self (x : S92) (hx : x.f3.length ≤ 9223372036854775806) : Ev (fun k => laws_eqBlock.f k x.f0 x.f1 x.f2 x.f3 x.f0 x.f1 x.f2 x.f3) true :=
  Ev.if_pos rfl (Ev.if_pos rfl (Ev.if_neg (by simp) (Ev.bind (eqStringS_self x.f3 hx) (Ev.if_pos rfl (Ev.now _)))))
theorem eqBlockS_loop (l : List S92) (hs : ∀ x ∈ l, x.f3.length ≤ 9223372036854775806) (hl : l.length ≤ 9223372036854775806) (d : Nat) : ∀ i : Nat, i ≤ l.length → l.length - i = d → Ev (fun k => laws_eqBlockS.l0 k l l i) true := by
  induction d with
  | zero =>
    intro i h1 h2
    refine Ev.step (f := fun _ => some true) (fun k => ?_) (Ev.now _)
    rw [laws_eqBlockS.l0, if_neg (by omega)]
  | succ d ih =>
    intro i h1 h2
    have hstep : ∀ k, laws_eqBlockS.l0 (k + 1) l l i = (laws_eqBlock.f k (l[i].f0) (l[i].f1) (l[i].f2) (l[i].f3) (l[i].f0) (l[i].f1) (l[i].f2) (l[i].f3)).bind fun t => if t = true then laws_eqBlockS.l0 k l l ((i + 1 : Nat) : Int) else some false := by
      intro k
      rw [laws_eqBlockS.l0, if_pos (by omega), if_pos (by omega), if_pos (by omega), rdIB_get l i (by omega), wrap64_id (by omega) (by omega)]
      rfl
    exact Ev.step hstep (Ev.bind (eqBlock_self l[i] (hs _ (List.getElem_mem _))) (Ev.if_pos rfl (ih (i + 1) (by omega) (by omega))))
theorem eqBlockS_self (l : List S92) (hs : ∀ x ∈ l, x.f3.length ≤ 9223372036854775806) (hl : l.length ≤ 9223372036854775806) : Ev (fun k => laws_eqBlockS.f k l l) true := by
  obtain ⟨K, h⟩ := eqBlockS_loop l hs hl l.length 0 (by omega) (by omega)
  refine ⟨K, fun k hk => ?_⟩
  have h1 := h k hk
  dsimp only at h1 ⊢
  unfold laws_eqBlockS.f
  rw [if_pos rfl]
  exact h1
theorem eqFlash_self (a b c : Int) (l : List S92) (u v : Int) (o : Bool) (z : Int) (hs : ∀ x ∈ l, x.f3.length ≤ 9223372036854775806) (hl : l.length ≤ 9223372036854775806) :
    Ev (fun k => laws_eqFlash.f k a b c l u v o z a b c l u v o z) true := by
  refine Ev.bind1 (a := true) ?_ (Ev.if_pos rfl (Ev.bind (eqBlockS_self l hs hl) (Ev.if_pos rfl (Ev.if_pos rfl (Ev.if_pos rfl (Ev.if_neg (by simp) (Ev.if_pos rfl (Ev.now _))))))))
  unfold laws_eqGeometry.f
  rw [if_pos rfl, if_pos rfl, if_pos rfl]
theorem toB_len (l : List S103) (hs : ∀ x ∈ l, okPg x) : ∀ x ∈ l.map toB, x.f3.length ≤ 8796093022208 := by
  intro x hx
  obtain ⟨y, hy, rfl⟩ := List.mem_map.1 hx
  exact (hs y hy).1
end Go.Proofs.Ytajocpalpnpmdaa.Q
namespace Go.Proofs.Ytajocpalpnpmdaa.Q
open Go.RowKit Go.Proofs.YtajocpalpnpmdaaW.PrintWords
theorem eqBoolS_loop (l m : List Bool) (hl : l.length = m.length) (hb : l.length ≤ 9223372036854775806) (d : Nat) : ∀ i : Nat, i ≤ l.length → l.length - i = d →
    Ev (fun k => laws_eqBoolS.l0 k l m i) (decide (l.drop i = m.drop i)) := by
  induction d with
  | zero =>
    intro i h1 h2
    have e : decide (l.drop i = m.drop i) = true := by rw [List.drop_of_length_le (by omega), List.drop_of_length_le (by omega)]; rfl
    rw [e]
    refine Ev.step (f := fun _ => some true) (fun k => ?_) (Ev.now _)
    rw [laws_eqBoolS.l0, if_neg (by omega)]
  | succ d ih =>
    intro i h1 h2
    have e1 : l.drop i = l[i] :: l.drop (i + 1) := List.drop_eq_getElem_cons (by omega)
    have e2 : m.drop i = m[i] :: m.drop (i + 1) := List.drop_eq_getElem_cons (by omega)
    by_cases h : l[i] = m[i]
    · have e : decide (l.drop i = m.drop i) = decide (l.drop (i + 1) = m.drop (i + 1)) := by
        rw [e1, e2, h]
        exact decide_eq_decide.2 ⟨fun q => (List.cons.inj q).2, fun q => by rw [q]⟩
      rw [e]
      refine Ev.step (fun k => ?_) (ih (i + 1) (by omega) (by omega))
      rw [laws_eqBoolS.l0, if_pos (by omega), if_pos (by omega), if_pos (by omega), rdOf_get false l i (by omega), rdOf_get false m i (by omega), if_neg (by rw [h]; simp), wrap64_id (by omega) (by omega)]
      rfl
    · have e : decide (l.drop i = m.drop i) = false := decide_eq_false (by rw [e1, e2]; exact fun q => h (List.cons.inj q).1)
      rw [e]
      refine Ev.step (f := fun _ => some false) (fun k => ?_) (Ev.now _)
      rw [laws_eqBoolS.l0, if_pos (by omega), if_pos (by omega), if_pos (by omega), rdOf_get false l i (by omega), rdOf_get false m i (by omega), if_pos (by simpa using h)]
theorem eqBoolS_ev (l m : List Bool) (hb : l.length ≤ 9223372036854775806) : Ev (fun k => laws_eqBoolS.f k l m) (decide (l = m)) := by
  by_cases hl : l.length = m.length
  · have h := eqBoolS_loop l m hl hb l.length 0 (by omega) (by omega)
    obtain ⟨K, h⟩ := h
    refine ⟨K, fun k hk => ?_⟩
    have h2 := h k hk
    simp only [List.drop_zero] at h2
    show laws_eqBoolS.f k l m = _
    unfold laws_eqBoolS.f
    rw [if_pos (by omega)]
    exact h2
  · have e : decide (l = m) = false := by simp; intro h; exact hl (by rw [h])
    rw [e]
    refine ⟨0, fun k _ => ?_⟩
    show laws_eqBoolS.f k l m = _
    unfold laws_eqBoolS.f
    rw [if_neg (by omega)]
end Go.Proofs.Ytajocpalpnpmdaa.Q
namespace Go.Proofs.Ytajocpalpnpmdaa.Q
open Go.RowKit Go.Proofs.YtajocpalpnpmdaaW.PrintWords
set_option linter.unusedVariables false
theorem toBoolS_loop (l : List Bool) (hl : l.length ≤ 281474976710656) (d : Nat) : ∀ i : Nat, i ≤ l.length → l.length - i = d →
    Ev (fun k => laws_toBoolS.l0 k l (l.take i ++ List.replicate (l.length - i) false) i) l := by
  induction d with
  | zero =>
    intro i h1 h2
    obtain rfl : i = l.length := by omega
    refine Ev.step (f := fun _ => some l) (fun k => ?_) (Ev.now _)
    rw [laws_toBoolS.l0, if_neg (by omega)]
    simp
  | succ d ih =>
    intro i h1 h2
    refine Ev.step (fun k => ?_) (ih (i + 1) (by omega) (by omega))
    have hn : (l.take i ++ List.replicate (l.length - i) false).length = l.length := by simp; omega
    rw [laws_toBoolS.l0, if_pos (by omega), if_pos (by omega), hn, if_pos (by omega), rdOf_get false l i (by omega), wrap64_id (by omega) (by omega), Int.toNat_natCast]
    have e : (l.take i ++ List.replicate (l.length - i) false).set i l[i] = l.take (i + 1) ++ List.replicate (l.length - (i + 1)) false := by
      have hi : (l.take i).length = i := by simp; omega
      rw [List.set_append_right _ _ (by omega), hi, Nat.sub_self, show l.length - i = (l.length - (i + 1)) + 1 from by omega, List.replicate_succ, List.set_cons_zero, List.take_succ_eq_append_getElem (by omega), List.append_assoc]
      rfl
    rw [e]
    rfl
theorem toBoolS_ev (l : List Bool) (hl : l.length ≤ 281474976710656) : Ev (fun k => laws_toBoolS.f k l) l := by
  have h := toBoolS_loop l hl l.length 0 (by omega) (by omega)
  obtain ⟨K, h⟩ := h
  refine ⟨K, fun k hk => ?_⟩
  have h1 := h k hk
  dsimp only at h1 ⊢
  unfold laws_toBoolS.f
  rw [if_pos (by omega), if_pos (by omega), Int.toNat_natCast]
  simpa using h1
end Go.Proofs.Ytajocpalpnpmdaa.Q
namespace Go.Proofs.Ytajocpalpnpmdaa.Q
open Go.RowKit Go.Proofs.YtajocpalpnpmdaaW.PrintWords
set_option linter.unusedVariables false
theorem toInt64S_loop (l : List Int) (hl : l.length ≤ 35184372088832) (d : Nat) : ∀ i : Nat, i ≤ l.length → l.length - i = d →
    Ev (fun k => laws_toInt64S.l0 k l (l.take i ++ List.replicate (l.length - i) 0) i) l := by
  induction d with
  | zero =>
    intro i h1 h2
    obtain rfl : i = l.length := by omega
    refine Ev.step (f := fun _ => some l) (fun k => ?_) (Ev.now _)
    rw [laws_toInt64S.l0, if_neg (by omega)]
    simp
  | succ d ih =>
    intro i h1 h2
    refine Ev.step (fun k => ?_) (ih (i + 1) (by omega) (by omega))
    have hn : (l.take i ++ List.replicate (l.length - i) (0 : Int)).length = l.length := by simp; omega
    rw [laws_toInt64S.l0, if_pos (by omega), if_pos (by omega), hn, if_pos (by omega), rd_get l i (by omega), wrap64_id (by omega) (by omega), Int.toNat_natCast]
    have e : (l.take i ++ List.replicate (l.length - i) (0 : Int)).set i l[i] = l.take (i + 1) ++ List.replicate (l.length - (i + 1)) 0 := by
      have hi : (l.take i).length = i := by simp; omega
      rw [List.set_append_right _ _ (by omega), hi, Nat.sub_self, show l.length - i = (l.length - (i + 1)) + 1 from by omega, List.replicate_succ, List.set_cons_zero, List.take_succ_eq_append_getElem (by omega), List.append_assoc]
      rfl
    rw [e]
    rfl
theorem toInt64S_ev (l : List Int) (hl : l.length ≤ 35184372088832) : Ev (fun k => laws_toInt64S.f k l) l := by
  have h := toInt64S_loop l hl l.length 0 (by omega) (by omega)
  obtain ⟨K, h⟩ := h
  refine ⟨K, fun k hk => ?_⟩
  have h1 := h k hk
  dsimp only at h1 ⊢
  unfold laws_toInt64S.f
  rw [if_pos (by omega), if_pos (by omega), Int.toNat_natCast]
  simpa using h1
end Go.Proofs.Ytajocpalpnpmdaa.Q
namespace Go.Proofs.Ytajocpalpnpmdaa.Q
open Go.RowKit Go.Proofs.YtajocpalpnpmdaaW.PrintWords
set_option linter.unusedVariables false
theorem szInt64S_some (l : List Int) (n : Int) (hl : l.length ≤ 9223372036854775807) (h0 : -1 ≤ n) (h1 : n ≤ 1048576) :
    ∃ r, laws_szInt64S.f l n = some r ∧ -1 ≤ r ∧ r ≤ n ∧ (0 ≤ r → r + l.length ≤ n) := by
  unfold laws_szInt64S.f
  by_cases h : wrap64 (n - (l.length : Int)) < 0
  · rw [if_pos h]
    exact ⟨-1, rfl, by omega, h0, by omega⟩
  · rw [if_neg h]
    refine ⟨_, rfl, by omega, ?_, ?_⟩
    · unfold wrap64 at h ⊢; omega
    · unfold wrap64 at h ⊢; omega
end Go.Proofs.Ytajocpalpnpmdaa.Q
namespace Go.Proofs.Ytajocpalpnpmdaa.Q
open Go.RowKit Go.Proofs.YtajocpalpnpmdaaW.PrintWords
theorem szHeat_some (l : List Int) (x n : Int) (hl : l.length ≤ 9223372036854775807) (h0 : 0 ≤ n) (h1 : n ≤ 1048576) :
    ∃ r, laws_szHeat.f l x n = some r ∧ r ≤ n ∧ (0 ≤ r → r + l.length ≤ n) := by
  unfold laws_szHeat.f
  obtain ⟨r, e, a, b, c⟩ := szInt64S_some l n hl (by omega) h1
  rw [e, Option.bind_some]
  by_cases h : r < 0
  · rw [if_pos h]; exact ⟨_, rfl, by omega, by omega⟩
  · rw [if_neg h]; exact ⟨_, rfl, b, c⟩
theorem toHeat_ev (l : List Int) (x : Int) (hl : l.length ≤ 35184372088832) : Ev (fun k => laws_toHeat.f k l x) (l, x) := by
  unfold laws_toHeat.f
  exact Ev.bind (toInt64S_ev l hl) (Ev.now _)
theorem eqHeat_ev (l m : List Int) (x y : Int) (hl : l.length ≤ 9223372036854775806) : Ev (fun k => laws_eqHeat.f k l x m y) (decide (l = m ∧ x = y)) := by
  unfold laws_eqHeat.f
  refine Ev.bind (eqInt64S_ev l m hl) ?_
  by_cases h : l = m
  · refine Ev.if_pos (decide_eq_true h) ?_
    by_cases h2 : x = y
    · rw [decide_eq_true (⟨h, h2⟩ : l = m ∧ x = y)]
      exact Ev.if_pos h2 (Ev.now _)
    · rw [decide_eq_false (fun q : l = m ∧ x = y => h2 q.2)]
      exact Ev.if_neg h2 (Ev.now _)
  · rw [decide_eq_false (fun q : l = m ∧ x = y => h q.1)]
    exact Ev.if_neg (by rw [decide_eq_false h]; decide) (Ev.now _)
theorem eqHeat_self (l : List Int) (x : Int) (hl : l.length ≤ 9223372036854775806) : Ev (fun k => laws_eqHeat.f k l x l x) true := by
  have h := eqHeat_ev l l x x hl
  rw [decide_eq_true (⟨rfl, rfl⟩ : l = l ∧ x = x)] at h
  exact h
end Go.Proofs.Ytajocpalpnpmdaa.Q
namespace Go.Proofs.Ytajocpalpnpmdaa.Q
open Go.RowKit Go.Proofs.YtajocpalpnpmdaaW.PrintWords
set_option linter.unusedVariables false
theorem szBoolS_some (l : List Bool) (n : Int) (hl : l.length ≤ 9223372036854775807) (h0 : -1 ≤ n) (h1 : n ≤ 1048576) :
    ∃ r, laws_szBoolS.f l n = some r ∧ -1 ≤ r ∧ r ≤ n ∧ (0 ≤ r → r + l.length ≤ n) := by
  unfold laws_szBoolS.f
  by_cases h : wrap64 (n - (l.length : Int)) < 0
  · rw [if_pos h]
    exact ⟨-1, rfl, by omega, h0, by omega⟩
  · rw [if_neg h]
    refine ⟨_, rfl, by omega, ?_, ?_⟩
    · unfold wrap64 at h ⊢; omega
    · unfold wrap64 at h ⊢; omega
end Go.Proofs.Ytajocpalpnpmdaa.Q
namespace Go.Proofs.Ytajocpalpnpmdaa.Q
open Go.RowKit Go.Proofs.YtajocpalpnpmdaaW.PrintWords
section
variable (a b : Int) (l : List Int) (t : List Bool)
theorem toMap_ev (hl : l.length ≤ 35184372088832) (ht : t.length ≤ 281474976710656) : Ev (fun k => laws_toPageMap.f k a b l t) (a, b, l, t) :=
  Ev.bind (toInt64S_ev l hl) (Ev.bind (toBoolS_ev t ht) (Ev.now _))
theorem eqMap_self (hl : l.length ≤ 9223372036854775806) (ht : t.length ≤ 9223372036854775806) : Ev (fun k => laws_eqPageMap.f k a b l t a b l t) true := by
  have h1 := eqInt64S_ev l l hl
  have h2 := eqBoolS_ev t t ht
  rw [decide_eq_true rfl] at h1 h2
  exact Ev.if_pos rfl (Ev.if_pos rfl (Ev.bind h1 (Ev.if_pos rfl (Ev.bind h2 (Ev.if_pos rfl (Ev.now _))))))
end
end Go.Proofs.Ytajocpalpnpmdaa.Q
namespace Go.Proofs.Ytajocpalpnpmdaa.Q
open Go.RowKit Go.Proofs.YtajocpalpnpmdaaW.PrintWords
set_option linter.unusedVariables false
structure FtlIn (x : S34) : Prop where
  blocks : x.f0.f1.length ≤ 2932031007402
  pages : ∀ y ∈ x.f0.f1, okPg y
  map : x.f1.f2.length ≤ 17592186044416
  trim : x.f1.f3.length ≤ 140737488351232
  heat : x.f2.f0.length ≤ 17592186044416
  opn : x.f4.length ≤ 17592186044416
  last : x.f5.length ≤ 17592186044416
theorem toFtl_ev (x : S34) (h : FtlIn x) :
    Ev (fun k => laws_toFTL.f k x.f0.f0.f0 x.f0.f0.f1 x.f0.f0.f2 x.f0.f1 x.f0.f2 x.f0.f3 x.f0.f4 x.f0.f5 x.f1.f0 x.f1.f1 x.f1.f2 x.f1.f3 x.f2.f0 x.f2.f1 x.f3 x.f4 x.f5 x.f6 x.f7)
      (x.f0.f0.f0, x.f0.f0.f1, x.f0.f0.f2, x.f0.f1.map toB, x.f0.f2, x.f0.f3, x.f0.f4, x.f0.f5, x.f1.f0, x.f1.f1, x.f1.f2, x.f1.f3, x.f2.f0, x.f2.f1, x.f3, x.f4, x.f5, x.f6, x.f7) := by
  have b0 := h.blocks
  have b1 := h.map
  have b2 := h.trim
  have b3 := h.heat
  have b4 := h.opn
  have b5 := h.last
  unfold laws_toFTL.f
  exact Ev.bind (toFlash_ev x.f0.f0.f0 x.f0.f0.f1 x.f0.f0.f2 x.f0.f1 x.f0.f2 x.f0.f3 x.f0.f4 x.f0.f5 h.pages (by omega)) (Ev.bind (toMap_ev x.f1.f0 x.f1.f1 x.f1.f2 x.f1.f3 (by omega) (by omega)) (Ev.bind (toHeat_ev x.f2.f0 x.f2.f1 (by omega)) (Ev.bind (toInt64S_ev x.f4 (by omega)) (Ev.bind (toInt64S_ev x.f5 (by omega)) (Ev.now _)))))
theorem eqFtl_self (x : S34) (h : FtlIn x) :
    Ev (fun k => laws_eqFTL.f k x.f0.f0.f0 x.f0.f0.f1 x.f0.f0.f2 (x.f0.f1.map toB) x.f0.f2 x.f0.f3 x.f0.f4 x.f0.f5 x.f1.f0 x.f1.f1 x.f1.f2 x.f1.f3 x.f2.f0 x.f2.f1 x.f3 x.f4 x.f5 x.f6 x.f7 x.f0.f0.f0 x.f0.f0.f1 x.f0.f0.f2 (x.f0.f1.map toB) x.f0.f2 x.f0.f3 x.f0.f4 x.f0.f5 x.f1.f0 x.f1.f1 x.f1.f2 x.f1.f3 x.f2.f0 x.f2.f1 x.f3 x.f4 x.f5 x.f6 x.f7) true := by
  have b0 := h.blocks
  have b1 := h.map
  have b2 := h.trim
  have b3 := h.heat
  have b4 := h.opn
  have b5 := h.last
  have hp := toB_len x.f0.f1 h.pages
  have hl : (x.f0.f1.map toB).length ≤ 9223372036854775806 := by rw [List.length_map]; omega
  have s4 := eqInt64S_ev x.f4 x.f4 (by omega)
  have s5 := eqInt64S_ev x.f5 x.f5 (by omega)
  rw [decide_eq_true rfl] at s4 s5
  unfold laws_eqFTL.f
  exact Ev.bind (eqFlash_self x.f0.f0.f0 x.f0.f0.f1 x.f0.f0.f2 (x.f0.f1.map toB) x.f0.f2 x.f0.f3 x.f0.f4 x.f0.f5 (fun y hy => by have := hp y hy; omega) hl) (Ev.if_pos rfl (Ev.bind (eqMap_self x.f1.f0 x.f1.f1 x.f1.f2 x.f1.f3 (by omega) (by omega)) (Ev.if_pos rfl (Ev.bind (eqHeat_self x.f2.f0 x.f2.f1 (by omega)) (Ev.if_pos rfl (Ev.if_pos rfl (Ev.bind s4 (Ev.if_pos rfl (Ev.bind s5 (Ev.if_pos rfl (Ev.if_pos rfl (Ev.if_pos rfl (Ev.now _)))))))))))))
end Go.Proofs.Ytajocpalpnpmdaa.Q
