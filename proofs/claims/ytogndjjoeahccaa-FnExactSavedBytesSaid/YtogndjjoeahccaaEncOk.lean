/- The specification's encoding of a block is that of plain lists. Conditions: those before each theorem. -/
import Derived.Test.YtogndjjoeahccaaQ3
import Derived.Test.YtogndjjoeahccaaQ4
import Derived.Test.YtogndjjoeahccaaEncB
namespace Go.Proofs.Ytogndjjoeahccaa.Q
open Go.RowKit Go.Proofs.YtogndjjoeahccaaW.PrintWords
set_option linter.unusedVariables false
theorem specData_eq (x : S49) : spec_l17Data.f x.f0 x.f1 x.f2 x.f3 x.f4 = some (dataX x) := by
  unfold spec_l17Data.f dataX
  by_cases h : x.f2 = 3
  · rw [if_pos h, if_pos h]
  · rw [if_neg h, if_neg h]
theorem specEntry_ev (x : S49) (bf : ByteArray) (hb : bf.size ≤ 1048576) (hx : shortE x = true) : Ev (fun k => spec_l20Entry.f k x.f0 x.f1 x.f2 x.f3 x.f4 bf) (entry x (sharedN bf x.f0)) := by
  obtain ⟨h1, h2⟩ := of_decide_eq_true hx
  have hsh := shared_le bf x.f0 (by omega)
  have hev := specShared_ev bf x.f0 (by omega)
  generalize sharedN bf x.f0 = n at hsh hev ⊢
  have f1 := l17Fix_ev (n : Int) 1 (by omega)
  have f2 := l17Fix_ev ((x.f0.size : Int) - (n : Int)) 1 (by omega)
  have f3 := l17Fix_ev x.f1 3 (by omega)
  have f4 := l17Fix_ev x.f2 1 (by omega)
  have f5 := l17Fix_ev ((dataX x).size : Int) 1 (by omega)
  have ew : wrap64 ((x.f0.size : Int) - (n : Int)) = (x.f0.size : Int) - (n : Int) := wrap64_id (by omega) (by omega)
  have z1 := fixE_size (n : Int) 1
  have z2 := fixE_size ((x.f0.size : Int) - (n : Int)) 1
  have z3 := fixE_size x.f1 3
  have z4 := fixE_size x.f2 1
  have z5 := fixE_size ((dataX x).size : Int) 1
  have z6 := ext_size x.f0 n
  unfold entry
  unfold spec_l20Entry.f
  rw [← ew] at f2 z2 ⊢
  generalize fixB (n : Int) 1 = t1 at f1 z1 ⊢
  generalize fixB (wrap64 ((x.f0.size : Int) - (n : Int))) 1 = t2 at f2 z2 ⊢
  generalize fixB x.f1 3 = t3 at f3 z3 ⊢
  generalize fixB x.f2 1 = t4 at f4 z4 ⊢
  generalize fixB ((dataX x).size : Int) 1 = t5 at f5 z5 ⊢
  clear ew
  have c1 : t1.size + t2.size ≤ 9223372036854775807 := by omega
  have c2 : t1.size + t2.size + t3.size ≤ 9223372036854775807 := by omega
  have c3 : t1.size + t2.size + t3.size + t4.size ≤ 9223372036854775807 := by omega
  have c4 : t1.size + t2.size + t3.size + t4.size + t5.size ≤ 9223372036854775807 := by omega
  have c5 : t1.size + t2.size + t3.size + t4.size + t5.size + (x.f0.extract n x.f0.size).size ≤ 9223372036854775807 := by omega
  have c6 : t1.size + t2.size + t3.size + t4.size + t5.size + (x.f0.extract n x.f0.size).size + (dataX x).size ≤ 9223372036854775807 := by omega
  have b1 : (0 : Int) ≤ (n : Int) := by omega
  have b2 : (n : Int) ≤ (x.f0.size : Int) := by omega
  refine Ev.bind hev (Ev.bind1 (specData_eq x) (Ev.bind f1 (Ev.bind f2 (Ev.if_pos c1 (Ev.bind f3 (Ev.if_pos c2 (Ev.bind f4 (Ev.if_pos c3 (Ev.bind f5 (Ev.if_pos c4 (Ev.if_pos b1 (Ev.if_pos b2 ?_))))))))))))
  exact Ev.if_pos c5 (Ev.if_pos c6 (Ev.now _))
theorem shared_nil (s : ByteArray) : sharedN (⟨#[]⟩ : ByteArray) s = 0 := rfl
def restL (l : List S49) : Nat → List Int
  | 0 => []
  | i + 1 => if i % 4 = 0 then restL l i ++ [((bodyB l i).length : Int)] else restL l i
def offs (rs : List Int) : List UInt8 := (rs.map fun r => (fixB r 2).data.toList).flatten
theorem offs_app (a : List Int) (r : Int) : offs (a ++ [r]) = offs a ++ (fixB r 2).data.toList := by
  unfold offs
  rw [List.map_append, List.flatten_append]
  simp
theorem off_rest (l : List S49) : ∀ i, offB l i = offs (restL l i)
  | 0 => rfl
  | i + 1 => by
    unfold offB restL
    rw [off_rest l i]
    split
    · unfold offs
      rw [List.map_append, List.flatten_append]
      simp
    · rfl
theorem rest_len (l : List S49) : ∀ i, (restL l i).length = (i + 3) / 4
  | 0 => rfl
  | i + 1 => by
    have h := rest_len l i
    unfold restL
    split
    · rw [List.length_append, List.length_singleton]; omega
    · omega
theorem ba_app (a : List UInt8) (x : ByteArray) : (⟨a.toArray⟩ : ByteArray) ++ x = ⟨(a ++ x.data.toList).toArray⟩ := by
  apply ByteArray.ext
  apply Array.ext'
  simp
theorem ba_size (a : List UInt8) : (⟨a.toArray⟩ : ByteArray).size = a.length := by
  show a.toArray.size = _
  simp
theorem l1_ev (b : List UInt8) (hb : b.length ≤ 100000000000) (rs : List Int) (hr : rs.length ≤ 1000) (d : Nat) : ∀ j : Nat, j ≤ rs.length → rs.length - j = d → Ev (fun k => spec_l20Encode.l1 k ⟨(b ++ offs (rs.take j)).toArray⟩ rs j) ((⟨(b ++ offs rs).toArray⟩ : ByteArray) ++ fixB (rs.length : Int) 1, rs) := by
  have hol : ∀ m : List Int, (offs m).length = 2 * m.length := by
    intro m
    induction m with
    | nil => rfl
    | cons r m ih =>
      have e : offs (r :: m) = (fixB r 2).data.toList ++ offs m := by simp [offs]
      rw [e, List.length_append, data_length, fixE_size, ih, List.length_cons]
      omega
  induction d with
  | zero =>
    intro j h1 h2
    obtain rfl : j = rs.length := by omega
    rw [List.take_length]
    have f1 := l17Fix_ev (rs.length : Int) 1 (by omega)
    have z := fixE_size (rs.length : Int) 1
    have h3 := hol rs
    have c : (⟨(b ++ offs rs).toArray⟩ : ByteArray).size + (fixB (rs.length : Int) 1).size ≤ 9223372036854775807 := by rw [ba_size, List.length_append]; omega
    refine Ev.step (f := fun k => (spec_l17Fix.f k (rs.length : Int) 1).bind fun t => if (⟨(b ++ offs rs).toArray⟩ : ByteArray).size + t.size ≤ 9223372036854775807 then some ((⟨(b ++ offs rs).toArray⟩ : ByteArray) ++ t, rs) else none) (fun k => ?_) (Ev.bind f1 (Ev.if_pos c (Ev.now _)))
    rw [spec_l20Encode.l1, if_neg (by omega)]
  | succ d ih =>
    intro j h1 h2
    have hj : j < rs.length := by omega
    have f1 := l17Fix_ev rs[j] 2 (by omega)
    have z := fixE_size rs[j] 2
    have h3 := hol (rs.take j)
    rw [List.length_take, Nat.min_eq_left (by omega)] at h3
    have c : (⟨(b ++ offs (rs.take j)).toArray⟩ : ByteArray).size + (fixB rs[j] 2).size ≤ 9223372036854775807 := by rw [ba_size, List.length_append]; omega
    have e : (⟨(b ++ offs (rs.take j)).toArray⟩ : ByteArray) ++ fixB rs[j] 2 = ⟨(b ++ offs (rs.take (j + 1))).toArray⟩ := by
      rw [ba_app, List.take_succ_eq_append_getElem hj, offs_app, List.append_assoc]
    have ihh := ih (j + 1) (by omega) (by omega)
    rw [← e] at ihh
    have ej : wrap64 ((j : Int) + 1) = ((j + 1 : Nat) : Int) := by unfold wrap64; omega
    refine Ev.step (f := fun k => (spec_l17Fix.f k rs[j] 2).bind fun t => if (⟨(b ++ offs (rs.take j)).toArray⟩ : ByteArray).size + t.size ≤ 9223372036854775807 then spec_l20Encode.l1 k ((⟨(b ++ offs (rs.take j)).toArray⟩ : ByteArray) ++ t) rs ((j + 1 : Nat) : Int) else none) (fun k => ?_) (Ev.bind f1 (Ev.if_pos c ihh))
    rw [spec_l20Encode.l1, if_pos (by omega), if_pos (by omega), rd_get rs j hj, ej]
def encS (l : List S49) : ByteArray := (⟨(bodyB l l.length ++ offs (restL l l.length)).toArray⟩ : ByteArray) ++ fixB ((restL l l.length).length : Int) 1
theorem encS_eq (l : List S49) : encS l = encB l := by
  unfold encS encB
  rw [rest_len, ← off_rest, ba_app (bodyB l l.length)]
theorem l0_ev (l : List S49) (hl : l.length ≤ 1000) (hs : ∀ j, shortE (rd_T49 l j) = true) (d : Nat) : ∀ (i : Nat) (bf : ByteArray), i ≤ l.length → l.length - i = d → (¬ i % 4 = 0 → bf = (rd_T49 l ((i - 1 : Nat) : Int)).f0) → Ev (fun k => spec_l20Encode.l0 k l ⟨(bodyB l i).toArray⟩ bf (restL l i) i) (encS l, restL l l.length) := by
  induction d with
  | zero =>
    intro i bf h1 h2 h3
    obtain rfl : i = l.length := by omega
    have hbl := body_len l hs l.length
    have h := l1_ev (bodyB l l.length) (by omega) (restL l l.length) (by rw [rest_len]; omega) _ 0 (by omega) rfl
    simp only [List.take_zero] at h
    have e0 : offs [] = [] := rfl
    rw [e0, List.append_nil] at h
    refine Ev.step (fun k => ?_) h
    rw [spec_l20Encode.l0, if_neg (by omega)]
    rfl
  | succ d ih =>
    intro i bf h1 h2 h3
    have hi : i < l.length := by omega
    have hbl := body_len l hs i
    have hes := entB_size l i hs
    have b1 : (i : Int) < (l.length : Int) := by omega
    have b2 : (0 : Int) ≤ (i : Int) := by omega
    have b3 : (restL l i).length < 17592186044416 := by rw [rest_len]; omega
    have hc : (⟨(bodyB l i).toArray⟩ : ByteArray).size + (entB l i).size ≤ 9223372036854775807 := by rw [ba_size]; omega
    have ee : (⟨(bodyB l i).toArray⟩ : ByteArray) ++ entB l i = ⟨(bodyB l (i + 1)).toArray⟩ := by rw [ba_app]; rfl
    have ihh := ih (i + 1) (rd_T49 l (i : Int)).f0 (by omega) (by omega) (fun _ => by rw [Nat.add_sub_cancel])
    have hz : (⟨(bodyB l i).toArray⟩ : ByteArray).size = (bodyB l i).length := ba_size _
    have ei : wrap64 ((i : Int) + 1) = ((i + 1 : Nat) : Int) := by unfold wrap64; omega
    rw [← ee] at ihh
    by_cases c4 : i % 4 = 0
    · have m4 : Int.tmod (i : Int) 4 = 0 := by rw [Int.tmod_eq_emod_of_nonneg b2]; omega
      have he : Ev (fun k => spec_l20Entry.f k (rd_T49 l (i : Int)).f0 (rd_T49 l (i : Int)).f1 (rd_T49 l (i : Int)).f2 (rd_T49 l (i : Int)).f3 (rd_T49 l (i : Int)).f4 (⟨#[]⟩ : ByteArray)) (entB l i) := by
        have h := specEntry_ev (rd_T49 l (i : Int)) (⟨#[]⟩ : ByteArray) (show 0 ≤ 1048576 by decide) (hs _)
        have e : entB l i = entry (rd_T49 l (i : Int)) (sharedN (⟨#[]⟩ : ByteArray) (rd_T49 l (i : Int)).f0) := by
          unfold entB nSh
          rw [if_pos c4, shared_nil]
        rw [e]
        exact h
      have er : restL l (i + 1) = restL l i ++ [((⟨(bodyB l i).toArray⟩ : ByteArray).size : Int)] := by rw [hz]; exact if_pos c4
      rw [er] at ihh
      refine Ev.step (f := fun k => (spec_l20Entry.f k (rd_T49 l (i : Int)).f0 (rd_T49 l (i : Int)).f1 (rd_T49 l (i : Int)).f2 (rd_T49 l (i : Int)).f3 (rd_T49 l (i : Int)).f4 (⟨#[]⟩ : ByteArray)).bind fun t => if (⟨(bodyB l i).toArray⟩ : ByteArray).size + t.size ≤ 9223372036854775807 then spec_l20Encode.l0 k l ((⟨(bodyB l i).toArray⟩ : ByteArray) ++ t) (rd_T49 l (i : Int)).f0 (restL l i ++ [((⟨(bodyB l i).toArray⟩ : ByteArray).size : Int)]) ((i + 1 : Nat) : Int) else none) (fun k => ?_) (Ev.bind he (Ev.if_pos hc ihh))
      rw [spec_l20Encode.l0, if_pos b1, if_pos m4, if_pos b3, if_pos b2, ei]
    · have m4 : ¬ Int.tmod (i : Int) 4 = 0 := by rw [Int.tmod_eq_emod_of_nonneg b2]; omega
      have hbf := h3 c4
      have he : Ev (fun k => spec_l20Entry.f k (rd_T49 l (i : Int)).f0 (rd_T49 l (i : Int)).f1 (rd_T49 l (i : Int)).f2 (rd_T49 l (i : Int)).f3 (rd_T49 l (i : Int)).f4 bf) (entB l i) := by
        have h := specEntry_ev (rd_T49 l (i : Int)) bf (by rw [hbf]; exact (of_decide_eq_true (hs _)).1) (hs _)
        have e : entB l i = entry (rd_T49 l (i : Int)) (sharedN bf (rd_T49 l (i : Int)).f0) := by
          unfold entB nSh
          rw [if_neg c4, hbf]
        rw [e]
        exact h
      have er : restL l (i + 1) = restL l i := if_neg c4
      rw [er] at ihh
      refine Ev.step (f := fun k => (spec_l20Entry.f k (rd_T49 l (i : Int)).f0 (rd_T49 l (i : Int)).f1 (rd_T49 l (i : Int)).f2 (rd_T49 l (i : Int)).f3 (rd_T49 l (i : Int)).f4 bf).bind fun t => if (⟨(bodyB l i).toArray⟩ : ByteArray).size + t.size ≤ 9223372036854775807 then spec_l20Encode.l0 k l ((⟨(bodyB l i).toArray⟩ : ByteArray) ++ t) (rd_T49 l (i : Int)).f0 (restL l i) ((i + 1 : Nat) : Int) else none) (fun k => ?_) (Ev.bind he (Ev.if_pos hc ihh))
      rw [spec_l20Encode.l0, if_pos b1, if_neg m4, if_pos b2, ei]
theorem l20Encode_ev (l : List S49) (hl : l.length ≤ 1000) (hs : (l.all shortE) = true) : Ev (fun k => spec_l20Encode.f k l) (encB l, restL l l.length) := by
  rw [← encS_eq]
  exact l0_ev l hl (short_all l hs) l.length 0 (⟨#[]⟩ : ByteArray) (by omega) (by omega) (fun h => absurd rfl h)
end Go.Proofs.Ytogndjjoeahccaa.Q
