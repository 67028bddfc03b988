/- The program's cut of a block. Conditions: those before each theorem. -/
import Derived.Test.YtogndjjoeahccaaEntsDec
import Derived.Test.YtogndjjoeahccaaEncOk
import Derived.Test.YtogndjjoeahccaaQ9
namespace Go.Proofs.Ytogndjjoeahccaa.Q
open Go.RowKit Go.Proofs.YtogndjjoeahccaaW.PrintWords
set_option linter.unusedVariables false
def spOff (s : ByteArray) : Nat → Nat → List Int
  | _, 0 => []
  | i, d + 1 => ((numN (s.extract i (i + 2)) 2 : Nat) : Int) :: spOff s (i + 2) d
theorem sp_loop (s : ByteArray) (hs : s.size ≤ 1048576) (p : Nat) (hp : p ≤ s.size) : ∀ (d i : Nat) (acc : List Int), i + 2 * d + 1 = s.size → acc.length + d ≤ 1048576 → Ev (fun k => impl_splitBlock.l0 k s (p : Int) acc (i : Int)) (s.extract 0 p, acc ++ spOff s i d, true)
  | 0, i, acc, hi, ha => by
    refine Ev.step (f := fun _ => some (s.extract 0 p, acc, true)) (fun k => ?_) ?_
    · rw [impl_splitBlock.l0, wrap64_id (by omega) (by omega), if_neg (by omega), if_pos (by omega), if_pos (by omega), Int.toNat_natCast]
    · rw [show acc ++ spOff s i 0 = acc from List.append_nil _]
      exact Ev.now _
  | d + 1, i, acc, hi, ha => by
    have e1 : wrap64 ((i : Int) + 1) = (i : Int) + 1 := wrap64_id (by omega) (by omega)
    have e2 : wrap64 ((i : Int) + 2) = ((i + 2 : Nat) : Int) := by rw [wrap64_id (by omega) (by omega)]; omega
    have hz : (s.extract i (i + 2)).size = 2 := ba_sub s i (i + 2) 2 (by omega) (by omega)
    have hd := dec_ev (s.extract i (i + 2)) (by omega)
    rw [hz] at hd
    have ih := sp_loop s hs p hp d (i + 2) (acc ++ [((numN (s.extract i (i + 2)) 2 : Nat) : Int)]) (by omega) (by rw [List.length_append]; simp only [List.length_cons, List.length_nil]; omega)
    rw [List.append_assoc] at ih
    refine Ev.step (f := fun k => (impl_DecodeFixed.f k (s.extract i (i + 2))).bind fun t => if acc.length < 17592186044416 then impl_splitBlock.l0 k s (p : Int) (acc ++ [t]) ((i + 2 : Nat) : Int) else none) (fun k => ?_) (Ev.bind hd (Ev.if_pos (by omega) ih))
    rw [impl_splitBlock.l0, e1, e2, if_pos (by omega), if_pos (by omega), if_pos (by omega), if_pos (by omega), Int.toNat_natCast, Int.toNat_natCast]
def splitN (s : ByteArray) : ByteArray × List Int × Bool :=
  if s.size = 0 then (⟨#[]⟩, [], false) else if s.size - 1 < 2 * btN s (s.size - 1) then (⟨#[]⟩, [], false)
  else (s.extract 0 (s.size - 1 - 2 * btN s (s.size - 1)), spOff s (s.size - 1 - 2 * btN s (s.size - 1)) (btN s (s.size - 1)), true)
theorem split_ev (s : ByteArray) (hs : s.size ≤ 1048576) : Ev (fun k => impl_splitBlock.f k s) (splitN s) := by
  unfold splitN
  by_cases h0 : s.size = 0
  · rw [if_pos h0]
    refine Ev.congr (f := fun _ => some (⟨#[]⟩, [], false)) (fun k => ?_) (Ev.now _)
    rw [impl_splitBlock.f, if_pos (toList_nil s h0)]
  · rw [if_neg h0]
    obtain ⟨n, hn⟩ : ∃ n, btN s (s.size - 1) = n := ⟨_, rfl⟩
    have hn2 : n < 256 := by rw [← hn]; exact btN_lt _ _
    have e0 : wrap64 ((s.size : Int) - 1) = ((s.size - 1 : Nat) : Int) := by rw [wrap64_id (by omega) (by omega)]; omega
    have e1 : wrap64 (bt s ((s.size - 1 : Nat) : Int)) = (n : Int) := by rw [btN_eq, hn, wrap64_id (by omega) (by omega)]
    have e2 : wrap64 (2 * (n : Int)) = 2 * (n : Int) := wrap64_id (by omega) (by omega)
    have e3 : wrap64 (((s.size - 1 : Nat) : Int) - 2 * (n : Int)) = ((s.size - 1 : Nat) : Int) - 2 * (n : Int) := wrap64_id (by omega) (by omega)
    rw [hn]
    by_cases h1 : s.size - 1 < 2 * n
    · rw [if_pos h1]
      refine Ev.congr (f := fun _ => some (⟨#[]⟩, [], false)) (fun k => ?_) (Ev.now _)
      rw [impl_splitBlock.f, if_neg (toList_ne s h0), e0, e1, e2, e3, if_pos (by omega), if_pos (by omega), if_pos (by omega)]
    · rw [if_neg h1]
      have h := sp_loop s hs (s.size - 1 - 2 * n) (by omega) n (s.size - 1 - 2 * n) [] (by omega) (by simp only [List.length_nil]; omega)
      rw [List.nil_append] at h
      refine Ev.congr (fun k => ?_) h
      rw [impl_splitBlock.f, if_neg (toList_ne s h0), e0, e1, e2, e3, if_pos (by omega), if_pos (by omega), if_neg (by omega)]
      rw [show ((s.size - 1 : Nat) : Int) - 2 * (n : Int) = ((s.size - 1 - 2 * n : Nat) : Int) from by omega]
theorem byte2 (v : Int) : (fixB v 2).data.toList = [UInt8.ofNat (v % 256).toNat, UInt8.ofNat (v / 256 % 256).toNat] := by
  simp [fixB, strOfNums_data, digs, dig, List.range_succ]
theorem offs_cons (r : Int) (rs : List Int) : offs (r :: rs) = (fixB r 2).data.toList ++ offs rs := by simp [offs]
theorem sp_rest (s : ByteArray) (tl : List UInt8) : ∀ (rs : List Int) (pre : List UInt8), s.data.toList = pre ++ (offs rs ++ tl) → (∀ r ∈ rs, 0 ≤ r ∧ r < 65536) → spOff s pre.length rs.length = rs
  | [], pre, h, hr => rfl
  | r :: rs, pre, h, hr => by
    rw [offs_cons] at h
    obtain ⟨h1, h2⟩ := hr r (List.mem_cons_self)
    have hx : (s.extract pre.length (pre.length + 2)).data.toList = [UInt8.ofNat (r % 256).toNat, UInt8.ofNat (r / 256 % 256).toNat] := by
      rw [Lib.extract_data, h, List.drop_left, byte2, Nat.add_sub_cancel_left]
      rfl
    have hnum : ((numN (s.extract pre.length (pre.length + 2)) 2 : Nat) : Int) = r := by
      simp only [numN, btN_list, hx, List.getD_cons_zero, List.getD_cons_succ]
      rw [u8_nat _ (by omega) (by omega), u8_nat _ (by omega) (by omega)]
      omega
    have ih := sp_rest s tl rs (pre ++ (fixB r 2).data.toList) (by rw [h, List.append_assoc, List.append_assoc]) (fun x hx => hr x (List.mem_cons_of_mem _ hx))
    rw [List.length_append, data_length, fixE_size] at ih
    show ((numN (s.extract pre.length (pre.length + 2)) 2 : Nat) : Int) :: spOff s (pre.length + 2) rs.length = r :: rs
    rw [hnum, ih]
end Go.Proofs.Ytogndjjoeahccaa.Q
