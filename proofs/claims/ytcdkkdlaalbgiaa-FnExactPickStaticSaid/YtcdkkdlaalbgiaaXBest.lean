/- The program's bestOf, at any function value that answers a question on two numbers and leaves what was there alone. Conditions: those before each theorem. -/
import Derived.Test.YtcdkkdlaalbgiaaQ0
import Derived.Test.YtcdkkdlaalbgiaaNum
import Derived.Shelf.Abstract
import Derived.Deep.QuietTactic
import Derived.BigQuiet
import Derived.WalkSmall
namespace Go.Proofs.Ytcdkkdlaalbgiaa.Q
open Go.RowKit Go.Proofs.YtcdkkdlaalbgiaaW.PrintWords Go.Proofs.YtcdkkdlaalbgiaaW.PrintMore
set_option linter.unusedVariables false
/-- The better of two places, -1: none yet. -/
def bstep (f : Int → Int → Bool) (er : List Int) (best b : Int) : Int :=
  if best < 0 then b else if f (rd er b) (rd er best) = true then b else if rd er b = rd er best then (if b < best then b else best) else best
def bestL (f : Int → Int → Bool) (er bs : List Int) : Int := bs.foldl (bstep f er) (-1)
theorem bestL_take (f : Int → Int → Bool) (er bs : List Int) (k : Nat) (h : k < bs.length) : bestL f er (bs.take (k + 1)) = bstep f er (bestL f er (bs.take k)) bs[k] := by
  unfold bestL
  rw [List.take_succ_eq_append_getElem h, List.foldl_append]
  rfl
theorem bstep_range (f : Int → Int → Bool) (er : List Int) (n a b : Int) (ha : a = -1 ∨ 0 ≤ a ∧ a < n) (hb : 0 ≤ b ∧ b < n) : 0 ≤ bstep f er a b ∧ bstep f er a b < n := by
  unfold bstep
  repeat' split
  all_goals omega
theorem foldl_range (f : Int → Int → Bool) (er : List Int) (n : Int) : ∀ (bs : List Int) (a : Int), (a = -1 ∨ 0 ≤ a ∧ a < n) → (∀ b ∈ bs, 0 ≤ b ∧ b < n) → bs.foldl (bstep f er) a = -1 ∨ 0 ≤ bs.foldl (bstep f er) a ∧ bs.foldl (bstep f er) a < n
  | [], a, ha, _ => ha
  | b :: bs, a, ha, h => foldl_range f er n bs _ (Or.inr (bstep_range f er n a b ha (h b (List.mem_cons_self ..)))) (fun x hx => h x (List.mem_cons_of_mem _ hx))
theorem bestL_range (f : Int → Int → Bool) (er bs : List Int) (n : Int) (h : ∀ b ∈ bs, 0 ≤ b ∧ b < n) : bestL f er bs = -1 ∨ 0 ≤ bestL f er bs ∧ bestL f er bs < n := foldl_range f er n bs (-1) (Or.inl rfl) h
theorem below_drawn {w w' : World} (h : ∃ n, w' = w.drewN n) : Below w.heap.size w w' := by
  obtain ⟨n, rfl⟩ := h
  exact below_drewN (Below.refl _ w) n
theorem drawn_more {w w' : World} (h : ∃ n, w' = w.drewN n) (m : Nat) : ∃ n, w'.drewN m = w.drewN n := by
  obtain ⟨n, rfl⟩ := h
  exact ⟨n + m, World.drewN_drewN ..⟩
set_option maxHeartbeats 4000000 in
theorem bestOf_calls (A0 : Option Addr) (c0 : Nat) (er : List Int) (A1 : Option Addr) (c1 : Nat) (bs : List Int) (w : World) (hr0 : Kd.C (Kd.int .i64) w A0 er.length er) (hc0 : er.length ≤ c0) (hr1 : Kd.C (Kd.int .i64) w A1 bs.length bs) (hc1 : bs.length ≤ c1)
    (g : FuncId) (lb : Array Value) (f : Int → Int → Bool) (hin : ∀ b ∈ bs, 0 ≤ b ∧ b < er.length)
    (eg : ∀ args w, (callFunc g args).run Try.prog w = .ok (.enter g args) w)
    (hp : ∀ (W : World) (x y : Int), Calls Try.prog g (#[.int .i64 x, .int .i64 y] ++ lb) W fun e w' => e = .returned (.bool (f x y)) ∧ w' = W) :
    Calls Try.prog 30 #[.slice A0 er.length c0, .slice A1 bs.length c1, .func (.func g) #[] lb] w fun e w' => e = .returned (.int .i64 (bestL f er bs)) ∧ ∃ n, w' = w.drewN n := by
  have hbig0 := hr0.2.1
  have hbig1 := hr1.2.1
  have HR0 := Aside0.mk hr0
  have HR1 := Aside0.mk hr1
  have HIN := Aside0.mk hin
  clear hr0 hr1 hin
  have e0 : bestL f er (bs.take 0) = -1 := rfl
  go_enter Try.func30, Try.ntmps30
  go_wp2
  go_loopg [7, 9, 12] bs.length (fun gg s7 _ s12 wr => ∃ kk : Nat, kk ≤ bs.length ∧ bs.length - kk ≤ gg ∧ s12 = .int .i64 kk ∧ s7 = .int .i64 (bestL f er (bs.take kk)) ∧ Aside0 (∃ n, wr = w.drewN n))
  case atStart => exact ⟨0, Nat.zero_le _, by omega, rfl, rfl, ⟨⟨0, rfl⟩⟩⟩
  case round =>
    obtain ⟨kk, hkk, hg, rfl, rfl, BW⟩ := hrel
    by_cases hlt : kk < bs.length
    · obtain ⟨ad, hA, hcell⟩ := Kd.at_int (Kd.C_below HR1.out (below_drawn BW.out)) (kk : Int) (by omega) (by omega)
      rw [Int.toNat_natCast, show rd bs (kk : Int) = bs[kk] from by simp [rd, hlt]] at hcell
      have hlti : (kk : Int) < (bs.length : Int) := by omega
      have hb := HIN.out bs[kk] (List.getElem_mem _)
      have hbest := bestL_range f er (bs.take kk) er.length (fun b h => HIN.out b (List.mem_of_mem_take h))
      have hstep := bestL_take f er bs kk hlt
      have HH : Aside0 (∀ gg' : Nat, True) := ⟨fun _ => trivial⟩
      subst hA
      generalize bs[kk] = b at hcell hb hstep
      obtain ⟨ad0, hA0, hc1⟩ := Kd.at_int (Kd.C_below HR0.out (below_drawn BW.out)) b (by omega) (by omega)
      subst hA0
      by_cases hneg : bestL f er (bs.take kk) < 0
      · have hs2 : bestL f er (bs.take (kk + 1)) = b := by rw [hstep]; unfold bstep; rw [if_pos hneg]
        clear hstep hbest hp
        have HS := Aside0.mk hs2
        clear hs2
        generalize bestL f er (bs.take kk) = best at hneg ⊢
        go_wp2_with fail
        go_quiet (fail)
        go_wp2
        go_roundg (bs.length - (kk + 1))
        case measure => omega
        case rel => exact ⟨kk + 1, by omega, by omega, by go_num, by rw [HS.out], ⟨drawn_more BW.out _⟩⟩
      · have hs2 : bestL f er (bs.take (kk + 1)) = if f (rd er b) (rd er (bestL f er (bs.take kk))) = true then b else if rd er b = rd er (bestL f er (bs.take kk)) then (if b < bestL f er (bs.take kk) then b else bestL f er (bs.take kk)) else bestL f er (bs.take kk) := by
          rw [hstep]; unfold bstep; rw [if_neg hneg]
        clear hstep
        have hge : 0 ≤ bestL f er (bs.take kk) ∧ bestL f er (bs.take kk) < er.length := by omega
        clear hbest
        generalize bestL f er (bs.take kk) = best at hneg hs2 hge ⊢
        obtain ⟨ad1, hA1, hc2⟩ := Kd.at_int (Kd.C_below HR0.out (below_drawn BW.out)) best (by omega) (by omega)
        obtain rfl := Option.some.inj hA1
        have hneg2 : decide (best < 0) = false := decide_eq_false hneg
        have hcall := hp
        have hb1 := hb.1
        have hb2 := hb.2
        have hg1 := hge.1
        have hg2 := hge.2
        clear hp hb hge
        generalize rd er b = x at hc1 hs2
        generalize rd er best = y at hc2 hs2
        have HF := Aside0.mk (fun W => hcall W x y)
        clear hcall
        cases hf : f x y with
        | true =>
          rw [hf] at hs2
          have HS := Aside0.mk hs2
          clear hs2
          rw [hf] at HF
          clear hf
          go_wp2_with fail
          go_quiet ((go_at_fn g; exact Calls.quiet_of_same (HF.out _)))
          go_wp2
          go_roundg (bs.length - (kk + 1))
          case measure => omega
          case rel => exact ⟨kk + 1, by omega, by omega, by go_num, by rw [HS.out]; rfl, ⟨drawn_more BW.out _⟩⟩
        | false =>
          rw [hf, if_neg (by decide)] at hs2
          rw [hf] at HF
          clear hf
          by_cases hxy : x = y
          · rw [if_pos hxy] at hs2
            subst hxy
            by_cases hbb : b < best
            · rw [if_pos hbb] at hs2
              have HS := Aside0.mk hs2
              clear hs2
              go_wp2_with fail
              go_quiet ((go_at_fn g; exact Calls.quiet_of_same (HF.out _)))
              go_wp2
              go_roundg (bs.length - (kk + 1))
              case measure => omega
              case rel => exact ⟨kk + 1, by omega, by omega, by go_num, by rw [HS.out], ⟨drawn_more BW.out _⟩⟩
            · rw [if_neg hbb] at hs2
              have HS := Aside0.mk hs2
              clear hs2
              have hbb2 : decide (b < best) = false := decide_eq_false hbb
              go_wp2_with fail
              go_quiet ((go_at_fn g; exact Calls.quiet_of_same (HF.out _)))
              go_wp2
              go_roundg (bs.length - (kk + 1))
              case measure => omega
              case rel => exact ⟨kk + 1, by omega, by omega, by go_num, by rw [HS.out], ⟨drawn_more BW.out _⟩⟩
          · rw [if_neg hxy] at hs2
            have HS := Aside0.mk hs2
            clear hs2
            have hxy2 : decide (x = y) = false := decide_eq_false hxy
            go_wp2_with fail
            go_quiet ((go_at_fn g; exact Calls.quiet_of_same (HF.out _)))
            go_wp2
            go_roundg (bs.length - (kk + 1))
            case measure => omega
            case rel => exact ⟨kk + 1, by omega, by omega, by go_num, by rw [HS.out], ⟨drawn_more BW.out _⟩⟩
    · have hlti : ¬ (kk : Int) < (bs.length : Int) := by omega
      have hk : kk = bs.length := by omega
      have HT : Aside0 (bestL f er (bs.take kk) = bestL f er bs) := ⟨by rw [hk, List.take_length]⟩
      clear hk
      go_wp2
      go_ret
      exact ⟨by rw [HT.out]; rfl, BW.out⟩
end Go.Proofs.Ytcdkkdlaalbgiaa.Q
