/- The contract of the specification's l03Flip at a word of eight bytes. Conditions: those before each theorem. -/
import Derived.Test.YtannckkmelihdaaXAddS
namespace Go.Proofs.Ytannckkmelihdaa.Q
open Go.RowKit Go.Proofs.YtannckkmelihdaaW.PrintWords Go.Proofs.YtannckkmelihdaaW.PrintMore
set_option linter.unusedVariables false
/-- A word with one bit turned. -/
def flipB (s : ByteArray) (p : Int) : ByteArray := strOfNums ((bytesOf s).set (p / 8).toNat (Go.bits .xor .u8 ((bytesOf s).getD (p / 8).toNat 0) (2 ^ (p % 8).toNat % 256)))
def spec_l03Flip.f (a0 : ByteArray) (a1 a2 : Int) : Option (ByteArray × Int) := if a0.size = 8 ∧ 0 ≤ a2 ∧ a2 < 72 then some (if a2 ≥ 64 then (a0, Go.bits .xor .i64 a1 (wrap64 (2 ^ (a2 - 64).toNat))) else (flipB a0 a2, a1)) else none
set_option linter.unusedSimpArgs false in
set_option maxHeartbeats 2000000 in
set_option maxRecDepth 100000 in
theorem spec_l03Flip.calls (a0 : ByteArray) (a1 a2 : Int) (r1 : ByteArray) (r2 : Int) (w : World) (h : spec_l03Flip.f a0 a1 a2 = some (r1, r2)) :
    Calls Try.prog 63 #[.string a0, .int .i64 a1, .int .i64 a2] w fun e w' => e = .returned (.tuple #[.string r1, .int .i64 r2]) ∧ Below w.heap.size w w' := by
  unfold spec_l03Flip.f at h
  by_cases c : a0.size = 8 ∧ 0 ≤ a2 ∧ a2 < 72
  · rw [if_pos c] at h
    obtain ⟨c8, c0, c1⟩ := c
    by_cases c2 : a2 ≥ 64
    · rw [if_pos c2] at h
      obtain ⟨rfl, rfl⟩ := Prod.mk.inj (Option.some.inj h)
      have c2b : decide (64 ≤ a2) = true := decide_eq_true c2
      obtain ⟨n, hn⟩ : ∃ n : Nat, a2 - 64 = (n : Int) := ⟨(a2 - 64).toNat, by omega⟩
      have hnn : n < 8 := by omega
      have h1 : wrap64 (a2 - 64) = (n : Int) := by rw [hn, wrap64_id (by omega) (by omega)]
      have h2 := u64_small n hnn
      have h3 : min n 64 = n := by omega
      rw [hn, Int.toNat_natCast]
      clear h c8 c0 c1 c2 hn
      go_enter Try.func63, Try.ntmps63
      go_wp2
      go_ret2
      exact ⟨rfl, Below.refl _ _⟩
    · rw [if_neg c2] at h
      obtain ⟨rfl, rfl⟩ := Prod.mk.inj (Option.some.inj h)
      have c2b : decide (64 ≤ a2) = false := decide_eq_false c2
      obtain ⟨qn, rn, hq, hr, hq2, hr2, hqn, hrn⟩ := bit_place a2 a0.size c0 (by omega) (by omega)
      have hqz : (qn : Int) < (a0.size : Int) := by omega
      have hr3 := u64_small rn hrn
      have hr4 : min rn 8 = rn := by omega
      have hr5 : min rn 64 = rn := by omega
      have HB0 := Aside0.mk (bytes_below (Below.refl w.heap.size w) (Nat.le_refl _) 5 a0)
      have HR0 := Aside0.mk (brow_start w 5 a0)
      have hszb : a0.size ≤ 9223372036854775807 := by omega
      obtain ⟨e0, f0⟩ := brow_cell HR0.out qn hqn
      unfold flipB
      rw [hq, hr]
      have HN := Aside0.mk (brow_reads (brow_set HR0.out qn hqn (Go.bits .xor .u8 ((bytesOf a0).getD qn 0) (2 ^ rn % 256))) hszb)
      have HW2 := Aside0.mk (fun v => brow_below (g := w.heap.size) (j := qn) (v := v) HB0.out (Nat.le_refl _))
      have HC := Aside0.mk (fun cc => string_of_reads (P := Try.prog) (src := 63) (dst := 9) (e := 5) (c := cc) Try.underlying63 Try.underlying5 Try.underlying9 HN.out)
      generalize (bytesOf a0).getD qn 0 = y at e0 HN HC ⊢
      have kb := fun W => print_bytes (P := Try.prog) 9 63 5 Try.underlying9 Try.underlying63 Try.underlying5 a0 W
      clear h c8 c0 c1 c2 hq hr
      go_enter Try.func63, Try.ntmps63
      have hc := HC.out
      go_wp2
      go_ret2
      exact ⟨rfl, HW2.out _⟩
  · rw [if_neg c] at h
    cases h
end Go.Proofs.Ytannckkmelihdaa.Q
