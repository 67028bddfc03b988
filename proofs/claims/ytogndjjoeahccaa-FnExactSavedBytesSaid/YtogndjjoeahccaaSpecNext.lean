/- The specification's reading of one entry. Conditions: those before each theorem. -/
import Derived.Test.YtogndjjoeahccaaEntDec
import Derived.Test.YtogndjjoeahccaaQ5
namespace Go.Proofs.Ytogndjjoeahccaa.Q
open Go.RowKit Go.Proofs.YtogndjjoeahccaaW.PrintWords
set_option linter.unusedVariables false
def nxKey (s bf : ByteArray) (p : Nat) : ByteArray := bf.extract 0 (btN s p) ++ s.extract (p + 7) (p + 7 + btN s (p + 1))
def nxText (s : ByteArray) (p : Nat) : ByteArray := s.extract (p + 7 + btN s (p + 1)) (p + 7 + btN s (p + 1) + btN s (p + 6))
def nxRec (s bf : ByteArray) (p : Nat) : S49 := if (btN s (p + 5) : Int) = 3 then ⟨nxKey s bf p, ((numN (s.extract (p + 2) (p + 5)) 3 : Nat) : Int), (btN s (p + 5) : Int), ⟨#[]⟩, nxText s p⟩ else ⟨nxKey s bf p, ((numN (s.extract (p + 2) (p + 5)) 3 : Nat) : Int), (btN s (p + 5) : Int), nxText s p, ⟨#[]⟩⟩
def nxT (s bf : ByteArray) (p : Nat) : ByteArray × Int × Int × ByteArray × ByteArray × Int :=
  if s.size < p + 7 then (⟨#[]⟩, 0, 0, ⟨#[]⟩, ⟨#[]⟩, 0) else if s.size < p + 7 + btN s (p + 1) + btN s (p + 6) ∨ btN s p > bf.size then (⟨#[]⟩, 0, 0, ⟨#[]⟩, ⟨#[]⟩, 0)
  else ((nxRec s bf p).f0, (nxRec s bf p).f1, (nxRec s bf p).f2, (nxRec s bf p).f3, (nxRec s bf p).f4, ((p + 7 + btN s (p + 1) + btN s (p + 6) : Nat) : Int))
theorem wsum (a b : Nat) (h : a + b ≤ 1000000000) : wrap64 ((a : Int) + (b : Int)) = ((a + b : Nat) : Int) := by
  rw [wrap64_id (by omega) (by omega)]
  omega
theorem wbt (s : ByteArray) (i n : Nat) (h : btN s i = n) : wrap64 (bt s (i : Int)) = (n : Int) := by
  have := btN_lt s i
  rw [btN_eq, h, wrap64_id (by omega) (by omega)]
theorem next_j0 (s bf : ByteArray) (p n m e : Nat) (hn : btN s p = n) (hm : btN s (p + 1) = m) (he : p + 7 + m + btN s (p + 6) = e) (hs : s.size ≤ 1048576) (hb : bf.size ≤ 1048576) (hes : e ≤ s.size) (hnb : n ≤ bf.size) :
    Ev (fun k => spec_l20Next.j0 k s (p : Int) bf (n : Int) (m : Int) (e : Int) false) ((nxRec s bf p).f0, (nxRec s bf p).f1, (nxRec s bf p).f2, (nxRec s bf p).f3, (nxRec s bf p).f4, (e : Int)) := by
  have hp1 : p ≤ 1048576 := by omega
  have hpm : p + 7 + m ≤ 1000000000 := by omega
  have w5 := Aside0.mk (wsum p 5 (Nat.le_trans (Nat.add_le_add_right hp1 5) (by decide)))
  have w2 := Aside0.mk (wsum p 2 (Nat.le_trans (Nat.add_le_add_right hp1 2) (by decide)))
  have w7 := Aside0.mk (wsum p 7 (Nat.le_trans (Nat.add_le_add_right hp1 7) (by decide)))
  have wm := Aside0.mk (wsum (p + 7) m hpm)
  have hz : (s.extract (p + 2) (p + 5)).size = 3 := ba_sub s (p + 2) (p + 5) 3 (by omega) (by omega)
  have hd := num_ev (s.extract (p + 2) (p + 5)) (by omega)
  rw [hz] at hd
  have hk : nxKey s bf p = bf.extract 0 n ++ s.extract (p + 7) (p + 7 + m) := by rw [nxKey, hn, hm]
  have ht : nxText s p = s.extract (p + 7 + m) e := by rw [nxText, hm, he]
  have hsum : (bf.extract 0 n).size + (s.extract (p + 7) (p + 7 + m)).size ≤ 9223372036854775807 := by
    rw [ByteArray.size_extract, ByteArray.size_extract]; omega
  obtain ⟨z, hz5⟩ : ∃ z, btN s (p + 5) = z := ⟨_, rfl⟩
  obtain ⟨q, hq⟩ : ∃ q, numN (s.extract (p + 2) (p + 5)) 3 = q := ⟨_, rfl⟩
  have hw : spec_l17With.f (bf.extract 0 n ++ s.extract (p + 7) (p + 7 + m)) (q : Int) (z : Int) ⟨#[]⟩ ⟨#[]⟩ (s.extract (p + 7 + m) e) = some ((nxRec s bf p).f0, (nxRec s bf p).f1, (nxRec s bf p).f2, (nxRec s bf p).f3, (nxRec s bf p).f4) := by
    unfold spec_l17With.f nxRec
    rw [hk, ht, hz5, hq]
    split <;> rfl
  rw [hq] at hd
  have wb := Aside0.mk (wbt s (p + 5) z hz5)
  obtain ⟨K, hd⟩ := hd
  refine ⟨K + 1, fun k hK => ?_⟩
  obtain ⟨k, rfl⟩ : ∃ k', k = k' + 1 := ⟨k - 1, by omega⟩
  have h1 := hd k (by omega)
  dsimp only at h1
  dsimp only
  rw [spec_l20Next.j0, show wrap64 ((p : Int) + 5) = ((p + 5 : Nat) : Int) from w5.out, show wrap64 ((p : Int) + 2) = ((p + 2 : Nat) : Int) from w2.out, show wrap64 ((p : Int) + 7) = ((p + 7 : Nat) : Int) from w7.out, wm.out, wb.out, if_neg (by decide), if_pos (by omega), if_pos (by omega), if_pos (by omega), if_pos (by omega), if_pos (by omega)]
  simp only [Int.toNat_natCast]
  rw [h1, Option.bind_some, if_pos (by omega), if_pos (by omega), if_pos (by omega), if_pos (by omega), if_pos (by omega), if_pos hsum, if_pos (by omega), if_pos (by omega), if_pos (by omega), hw]
  rfl
theorem next_ev (s bf : ByteArray) (p : Nat) (hs : s.size ≤ 1048576) (hb : bf.size ≤ 1048576) (hp : p ≤ s.size) : Ev (fun k => spec_l20Next.f k s (p : Int) bf) (nxT s bf p) := by
  have hp1 : p ≤ 1048576 := by omega
  unfold nxT
  have w7 := Aside0.mk (wsum p 7 (Nat.le_trans (Nat.add_le_add_right hp1 7) (by decide)))
  by_cases c1 : s.size < p + 7
  · rw [if_pos c1]
    refine Ev.congr (f := fun _ => some (⟨#[]⟩, 0, 0, ⟨#[]⟩, ⟨#[]⟩, 0)) (fun k => ?_) (Ev.now _)
    rw [spec_l20Next.f, show wrap64 ((p : Int) + 7) = ((p + 7 : Nat) : Int) from w7.out, if_pos (by omega)]
  · rw [if_neg c1]
    obtain ⟨n, hn⟩ : ∃ n, btN s p = n := ⟨_, rfl⟩
    obtain ⟨m, hm⟩ : ∃ m, btN s (p + 1) = m := ⟨_, rfl⟩
    obtain ⟨o, ho⟩ : ∃ o, btN s (p + 6) = o := ⟨_, rfl⟩
    have hn2 : n < 256 := by rw [← hn]; exact btN_lt _ _
    have hm2 : m < 256 := by rw [← hm]; exact btN_lt _ _
    have ho2 : o < 256 := by rw [← ho]; exact btN_lt _ _
    have w1 := Aside0.mk (wsum p 1 (Nat.le_trans (Nat.add_le_add_right hp1 1) (by decide)))
    have w6 := Aside0.mk (wsum p 6 (Nat.le_trans (Nat.add_le_add_right hp1 6) (by decide)))
    have b0 := Aside0.mk (wbt s p n hn)
    have b1 := Aside0.mk (wbt s (p + 1) m hm)
    have b6 := Aside0.mk (wbt s (p + 6) o ho)
    have e1 := Aside0.mk (wsum (p + 7) m (by omega))
    have e2 := Aside0.mk (wsum (p + 7 + m) o (by omega))
    rw [hn, hm, ho]
    by_cases c2 : s.size < p + 7 + m + o ∨ n > bf.size
    · rw [if_pos c2]
      refine ⟨1, fun k hk => ?_⟩
      obtain ⟨k, rfl⟩ : ∃ k', k = k' + 1 := ⟨k - 1, by omega⟩
      dsimp only
      rw [spec_l20Next.f, show wrap64 ((p : Int) + 7) = ((p + 7 : Nat) : Int) from w7.out, show wrap64 ((p : Int) + 1) = ((p + 1 : Nat) : Int) from w1.out, show wrap64 ((p : Int) + 6) = ((p + 6 : Nat) : Int) from w6.out, b0.out, b1.out, b6.out, e1.out, e2.out, if_neg (by omega), if_pos (by omega), if_pos (by omega), if_pos (by omega), if_pos (by omega), if_pos (by omega), if_pos (by omega)]
      by_cases c3 : s.size < p + 7 + m + o
      · rw [if_pos (by omega), spec_l20Next.j0, if_pos rfl]
      · rw [if_neg (by omega), decide_eq_true (show (n : Int) > (bf.size : Int) from by omega), spec_l20Next.j0, if_pos rfl]
    · rw [if_neg c2]
      have h := next_j0 s bf p n m (p + 7 + m + o) hn hm (by rw [ho]) hs hb (by omega) (by omega)
      refine Ev.congr (fun k => ?_) h
      rw [spec_l20Next.f, show wrap64 ((p : Int) + 7) = ((p + 7 : Nat) : Int) from w7.out, show wrap64 ((p : Int) + 1) = ((p + 1 : Nat) : Int) from w1.out, show wrap64 ((p : Int) + 6) = ((p + 6 : Nat) : Int) from w6.out, b0.out, b1.out, b6.out, e1.out, e2.out, if_neg (by omega), if_pos (by omega), if_pos (by omega), if_pos (by omega), if_pos (by omega), if_pos (by omega), if_pos (by omega)]
      rw [if_neg (by omega), decide_eq_false (show ¬ (n : Int) > (bf.size : Int) from by omega)]
end Go.Proofs.Ytogndjjoeahccaa.Q
