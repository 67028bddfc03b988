/- The contract of the program's PickStatic. Conditions: those before each theorem. -/
import Derived.Test.YtcdkkdlaalbgiaaXDelI
import Derived.Test.YtcdkkdlaalbgiaaXBest
import Derived.Test.YtcdkkdlaalbgiaaGoodL
namespace Go.Proofs.Ytcdkkdlaalbgiaa.Q
open Go.RowKit Go.Proofs.YtcdkkdlaalbgiaaW.PrintWords Go.Proofs.YtcdkkdlaalbgiaaW.PrintMore
set_option linter.unusedVariables false
def hasB (ex : List Int) (b : Int) : Bool := ex.any fun y => b == y
set_option maxHeartbeats 1000000 in
theorem index_calls (A : Option Addr) (c : Nat) (xs : List Int) (v : Int) (w : World) (hr : Kd.C (Kd.int .i64) w A xs.length xs) (hc : xs.length ≤ c) :
    Calls Try.prog 48 #[.slice A xs.length c, .int .i64 v] w fun e w' => e = .returned (.int .i64 (idxOf (fun y => v == y) xs)) ∧ w' = w := by
  have hbig := hr.2.1
  go_enter Try.func48, Try.ntmps48
  go_wp2
  go_loopg [5, 8] xs.length (fun gg _ s8 wr => ∃ kk : Nat, kk ≤ xs.length ∧ xs.length - kk ≤ gg ∧ s8 = .int .i64 kk ∧ wr = w ∧ Aside0 (∀ j y, j < kk → xs[j]? = some y → (v == y) = false))
  case atStart => exact ⟨0, Nat.zero_le _, by omega, rfl, rfl, ⟨fun j y hj => absurd hj (Nat.not_lt_zero _)⟩⟩
  case round =>
    obtain ⟨kk, hkk, hg, rfl, rfl, HA⟩ := hrel
    by_cases hlt : kk < xs.length
    · obtain ⟨ad, rfl, hcell⟩ := Kd.at_int hr (kk : Int) (by omega) (by omega)
      rw [Int.toNat_natCast, show rd xs (kk : Int) = xs[kk] from by simp [rd, hlt]] at hcell
      have hlti : (kk : Int) < (xs.length : Int) := by omega
      have HX := Aside0.mk (List.getElem?_eq_getElem hlt)
      have HR := Aside0.mk hr
      clear hr
      generalize xs[kk] = y at hcell HX
      cases hq : (v == y) with
      | true =>
        have HQ := Aside0.mk hq
        go_wp2
        go_ret
        exact ⟨by rw [idxOf_hit (fun y => v == y) xs kk y HX.out HQ.out HA.out]; rfl, rfl⟩
      | false =>
        have HQ := Aside0.mk hq
        go_wp2
        go_roundg (xs.length - (kk + 1))
        case measure => omega
        case rel =>
          refine ⟨kk + 1, by omega, by omega, by go_num, rfl, ⟨fun j z hj hz => ?_⟩⟩
          by_cases e : j = kk
          · subst e
            have := HX.out.symm.trans hz
            simp only [Option.some.injEq] at this
            rw [← this]
            exact HQ.out
          · exact HA.out j z (by omega) hz
    · have hlti : ¬ (kk : Int) < (xs.length : Int) := by omega
      have hk : kk = xs.length := by omega
      have HM := Aside0.mk (idxOf_miss (fun y => v == y) xs (fun j y hy => HA.out j y (by have := (List.getElem?_eq_some_iff.1 hy).1; omega) hy))
      clear hk
      go_wp2
      go_ret
      exact ⟨by rw [HM.out]; rfl, rfl⟩
theorem contains_calls (A : Option Addr) (c : Nat) (xs : List Int) (v : Int) (w : World) (hr : Kd.C (Kd.int .i64) w A xs.length xs) (hc : xs.length ≤ c) :
    Calls Try.prog 38 #[.slice A xs.length c, .int .i64 v] w fun e w' => e = .returned (.bool (hasB xs v)) ∧ w' = w := by
  unfold hasB
  rw [← idxOf_any]
  have hcon := index_calls A c xs v w hr hc
  generalize idxOf (fun y => v == y) xs = r at hcon ⊢
  clear hr
  go_enter Try.func38, Try.ntmps38
  go_wp2_with (go_at_call 48; refine hcon.mono ?_; rintro e w' ⟨rfl, rfl⟩)
  go_ret
  exact ⟨rfl, rfl⟩
theorem pick_pred (x : Int) (B : Nat) (A : Option Addr) (c : Nat) (ex : List Int) (W : World) (hc : W.cell? ⟨B, 0, none⟩ = some (.slice A ex.length c)) (hr : Kd.C (Kd.int .i64) W A ex.length ex) (hcc : ex.length ≤ c) :
    Calls Try.prog 37 #[.int .i64 x, .pointer (some ⟨B, 0, none⟩)] W fun e w' => e = .returned (.bool (hasB ex x)) ∧ Below W.heap.size W w' := by
  have hcon := contains_calls A c ex x W hr hcc
  clear hr
  go_enter Try.func37, Try.ntmps37
  go_wp2_with (go_at_call 38; refine hcon.mono ?_; rintro e w' ⟨rfl, rfl⟩)
  go_ret
  exact ⟨rfl, Below.refl _ _⟩
def ltS (a b : Int) : Bool := decide (a < b)
theorem lessS_any (x y : Int) (w : World) : Calls Try.prog 31 #[.int .i64 x, .int .i64 y] w fun e w' => e = .returned (.bool (ltS x y)) ∧ w' = w := by
  unfold ltS
  go_enter Try.func31, Try.ntmps31
  go_wp2
  go_ret
  exact ⟨rfl, rfl⟩
def staticOf (er : List Int) (bad : List Bool) (ex : List Int) : Int := bestL ltS er ((goodL er bad).filter fun b => !hasB ex b)
def impl_PickStatic.f (er : List Int) (bad : List Bool) (ex : List Int) : Option Int := if er.length ≤ 1000000000 then some (staticOf er bad ex) else none
set_option maxHeartbeats 2000000 in
theorem impl_PickStatic.calls (A0 : Option Addr) (c0 : Nat) (l0 : List Int) (A1 : Option Addr) (c1 : Nat) (l1 : List Bool) (A2 : Option Addr) (c2 : Nat) (l2 : List Int) (r : Int) (w : World) (hr0 : Kd.C (Kd.int .i64) w A0 l0.length l0) (hc0 : l0.length ≤ c0) (hr1 : Kd.C Kd.bool w A1 l1.length l1) (hc1 : l1.length ≤ c1) (hr2 : Kd.C (Kd.int .i64) w A2 l2.length l2) (hc2 : l2.length ≤ c2)
    (h : impl_PickStatic.f l0 l1 l2 = some r) :
    Calls Try.prog 15 #[.slice A0 l0.length c0, .slice A1 l1.length c1, .slice A2 l2.length c2] w fun e w' => e = .returned (.int .i64 r) ∧ Below w.heap.size w w' := by
  unfold impl_PickStatic.f at h
  by_cases hl : l0.length ≤ 1000000000
  · rw [if_pos hl] at h
    obtain rfl := Option.some.inj h
    have hB : Below w.heap.size w (w.alloc (.cells #[.slice A2 l2.length c2] 22)) := (Below.refl _ _).alloc (Nat.le_refl _) _
    have HB := Aside0.mk hB
    have hcell : (w.alloc (.cells #[.slice A2 l2.length c2] 22)).cell? ⟨w.heap.size, 0, none⟩ = some (.slice A2 l2.length c2) := by simp
    have hbx : w.heap.size < (w.alloc (.cells #[.slice A2 l2.length c2] 22)).heap.size := World.block_lt_of_cell? _ _ hcell
    obtain ⟨K, hK⟩ := good_ev l0 l1 (by omega)
    have hgood := impl_good.calls K A0 c0 l0 A1 c1 l1 (goodL l0 l1) (w.alloc (.cells #[.slice A2 l2.length c2] 22)) (Kd.C_below hr0 hB) hc0 (Kd.C_below hr1 hB) hc1 (hK K (Nat.le_refl _))
    have HIN := Aside0.mk (goodL_mem l0 l1)
    have HD : Aside0 (∀ (w1 w2 : World) (A : Option Addr) (c : Nat), w1.cell? ⟨w.heap.size, 0, none⟩ = some (.slice A2 l2.length c2) → Below w.heap.size w w1 → Below w1.heap.size w1 w2 → Kd.R (Kd.int .i64) 2 w2 w1.heap.size (fun _ => True) (.slice A (goodL l0 l1).length c) (goodL l0 l1) →
        Calls Try.prog 35 #[.slice A (goodL l0 l1).length c, .func (.func 37) #[] #[.pointer (some ⟨w.heap.size, 0, none⟩)]] w2 fun e w' => ∃ v, e = .returned v ∧ Kd.R (Kd.int .i64) 2 w' w1.heap.size (fun _ => True) v ((goodL l0 l1).filter fun b => !hasB l2 b) ∧ Below w1.heap.size w1 w') := ⟨by
      intro w1 w2 A c hcl hb0 hb hr
      have hlt := World.block_lt_of_cell? w1 _ hcl
      refine delI_calls A c (goodL l0 l1) w1 w2 w1.heap.size _ hr hb hb.size 37 #[.pointer (some ⟨w.heap.size, 0, none⟩)] (hasB l2) (enters_of Try.func37 (by kernel_rfl) rfl) (fun W x _ hs hh => ?_)
      have hold : ∀ k, k < w1.heap.size → W.heap[k]? = w1.heap[k]? := fun k hk => (hh k (Nat.lt_of_lt_of_le hk hb.size) (fun e => by have := Kd.R_base hr _ e.symm; omega)).trans (hb.block k hk)
      have hbW : Below w.heap.size w { w with heap := W.heap } := ⟨rfl, rfl, rfl, Nat.le_trans (Nat.le_trans hb0.size hb.size) hs, fun k hk => (hold k (Nat.lt_of_lt_of_le hk hb0.size)).trans (hb0.block k hk)⟩
      have hx := Kd.C_below hr2 hbW
      refine pick_pred x w.heap.size A2 c2 l2 W ?_ hx hc2
      exact (World.cell?_of_block (a := ⟨w.heap.size, 0, none⟩) (hold _ hlt)).trans hcl⟩
    have HBE : Aside0 (∀ (w3 : World) (A : Option Addr) (c : Nat) (bs : List Int), Below w.heap.size w w3 → Kd.C (Kd.int .i64) w3 A bs.length bs → bs.length ≤ c → (∀ b ∈ bs, 0 ≤ b ∧ b < (l0.length : Int)) →
        Calls Try.prog 30 #[.slice A0 l0.length c0, .slice A bs.length c, .func (.func 31) #[] #[]] w3 fun e w' => e = .returned (.int .i64 (bestL ltS l0 bs)) ∧ ∃ n, w' = w3.drewN n) := ⟨fun w3 A c bs hb hr hc hin =>
      bestOf_calls A0 c0 l0 A c bs w3 (Kd.C_below hr0 hb) hc0 hr hc 31 #[] ltS hin (enters_of Try.func31 (by kernel_rfl) rfl) (fun W x y => lessS_any x y W)⟩
    have HCL := Aside0.mk hcell
    clear h hB hr0 hr1 hr2 hcell
    unfold staticOf
    go_enter Try.func15, Try.ntmps15
    go_wp2_with (first | (go_at_call 36; refine hgood.mono ?_; rintro e w2 ⟨v, rfl, hv, hb⟩; obtain ⟨A, c, rfl⟩ := Kd.R_slice hv; have hd := HD.out _ w2 A c HCL.out HB.out hb hv; clear hgood hv hb) | (go_at_call 35; refine hd.mono ?_; rintro e w3 ⟨v3, rfl, hv3, hb3⟩; obtain ⟨A3, c3, rfl⟩ := Kd.R_slice hv3; obtain ⟨_, hcap3, hC3⟩ := Kd.R_reads' hv3; have HB3 := Aside0.mk (HB.out.trans (hb3.mono HB.out.size)); have hbe := HBE.out w3 A3 c3 _ HB3.out hC3 hcap3 (fun b hb => HIN.out b (List.mem_filter.1 hb).1); clear hd hv3 hb3 hC3 hcap3) | (go_at_call 30; refine hbe.mono ?_; rintro e w4 ⟨rfl, n4, rfl⟩; clear hbe))
    go_ret
    exact ⟨rfl, HB3.out.trans (pw_below_drewN (Below.refl _ _) n4)⟩
  · rw [if_neg hl] at h
    cases h
end Go.Proofs.Ytcdkkdlaalbgiaa.Q
