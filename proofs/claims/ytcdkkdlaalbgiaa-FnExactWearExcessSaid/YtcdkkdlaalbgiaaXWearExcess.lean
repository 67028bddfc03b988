/- The contract of the program's WearExcess. Conditions: those before each theorem. -/
import Derived.Test.YtcdkkdlaalbgiaaXWearGap
namespace Go.Proofs.Ytcdkkdlaalbgiaa.Q
open Go.RowKit Go.Proofs.YtcdkkdlaalbgiaaW.PrintWords Go.Proofs.YtcdkkdlaalbgiaaW.PrintMore
set_option linter.unusedVariables false
def sumOf (er bs : List Int) : Int := bs.foldl (fun s b => wrap64 (s + rd er b)) 0
theorem sumOf_take (er bs : List Int) (k : Nat) (h : k < bs.length) : sumOf er (bs.take (k + 1)) = wrap64 (sumOf er (bs.take k) + rd er bs[k]) := by
  unfold sumOf
  rw [List.take_succ_eq_append_getElem h, List.foldl_append]
  rfl
/-- The answer out of the most, the number of the others and the sum. -/
def exOf (m o s : Int) : Int := max 0 (wrap64 (Int.tdiv (wrap64 (wrap64 (wrap64 (wrap64 (m * o) - wrap64 (s - m)) + o) - 1)) o))
def excessOf (er : List Int) (bad : List Bool) : Int :=
  if ((goodL er bad).length : Int) - 1 < 1 then 0 else if allIn er 0 1000 = true then exOf (rd er (bestL gtB er (goodL er bad))) (((goodL er bad).length : Int) - 1) (sumOf er (goodL er bad)) else 0
def impl_WearExcess.f (er : List Int) (bad : List Bool) : Option Int := if er.length ≤ 1000000000 then some (excessOf er bad) else none
set_option maxHeartbeats 1000000 in
theorem impl_WearExcess.calls (A0 : Option Addr) (c0 : Nat) (l0 : List Int) (A1 : Option Addr) (c1 : Nat) (l1 : List Bool) (r : Int) (w : World) (hr0 : Kd.C (Kd.int .i64) w A0 l0.length l0) (hc0 : l0.length ≤ c0) (hr1 : Kd.C Kd.bool w A1 l1.length l1) (hc1 : l1.length ≤ c1)
    (h : impl_WearExcess.f l0 l1 = some r) :
    Calls Try.prog 27 #[.slice A0 l0.length c0, .slice A1 l1.length c1] w fun e w' => e = .returned (.int .i64 r) ∧ Below w.heap.size w w' := by
  unfold impl_WearExcess.f at h
  by_cases hl : l0.length ≤ 1000000000
  · rw [if_pos hl] at h
    obtain rfl := Option.some.inj h
    have hgood := good_calls A0 c0 l0 A1 c1 l1 w hr0 hc0 hr1 hc1 (by omega)
    have HIN := Aside0.mk (goodL_mem l0 l1)
    have hlen := goodL_length l0 l1
    have HR0 := Aside0.mk hr0
    have HC0 := Aside0.mk hc0
    clear hr0 hr1 hc1 h hc0
    unfold excessOf
    generalize goodL l0 l1 = bs at hgood HIN hlen ⊢
    have ew : wrap64 ((bs.length : Int) - 1) = (bs.length : Int) - 1 := by unfold wrap64; omega
    by_cases hn : (bs.length : Int) - 1 < 1
    · rw [if_pos hn]
      go_enter Try.func27, Try.ntmps27
      go_wp2_with (go_at_call 36; refine hgood.mono ?_; rintro e w' ⟨v, rfl, hv, hb⟩; obtain ⟨A, c, rfl, _, _⟩ := Kd.R_reads hv)
      go_ret
      exact ⟨rfl, hb⟩
    · rw [if_neg hn]
      have hne : bs ≠ [] := by rintro rfl; simp at hn
      have hp1 := bestL_some gtB l0 bs HIN.out hne
      clear hne
      have hn2 : decide ((bs.length : Int) - 1 < 1) = false := decide_eq_false hn
      have HALL : Aside0 (∀ w1, Below w.heap.size w w1 → Calls Try.prog 29 #[.slice A0 l0.length c0, .int .i64 0, .int .i64 1000] w1 fun e w' => e = .returned (.bool (allIn l0 0 1000)) ∧ Below w1.heap.size w1 w') := ⟨fun w1 hb => impl_allWithin.calls A0 c0 l0 0 1000 _ w1 (Kd.C_below HR0.out hb) HC0.out rfl⟩
      generalize allIn l0 0 1000 = t at HALL ⊢
      cases t with
      | false =>
        rw [if_neg (by decide)]
        go_enter Try.func27, Try.ntmps27
        go_wp2_with (first | (go_at_call 36; refine hgood.mono ?_; rintro e w1 ⟨v, rfl, hv, hb⟩; obtain ⟨A, c, rfl, _, _⟩ := Kd.R_reads hv; have HB1 := Aside0.mk hb; clear hb hv) | (go_at_call 29; refine (HALL.out _ HB1.out).mono ?_; rintro e w2 ⟨rfl, hb2⟩))
        go_ret
        exact ⟨rfl, HB1.out.trans (hb2.mono HB1.out.size)⟩
      | true =>
        rw [if_pos rfl]
        have HM : Aside0 (∀ w2 A c, Below w.heap.size w w2 → Kd.C (Kd.int .i64) w2 A bs.length bs → bs.length ≤ c → Calls Try.prog 30 #[.slice A0 l0.length c0, .slice A bs.length c, .func (.func 32) #[] #[]] w2 fun e w' => e = .returned (.int .i64 (bestL gtB l0 bs)) ∧ Below w2.heap.size w2 w') :=
          ⟨fun w2 A c hb hv hc => (bestMore A0 c0 l0 A c bs _ (Kd.C_below HR0.out hb) HC0.out hv hc HIN.out).mono fun e w' ⟨h1, h2⟩ => ⟨h1, below_drawn h2⟩⟩
        have hm1 := hp1.1
        have hm2 := hp1.2
        clear hp1
        generalize bestL gtB l0 bs = x at HM hm1 hm2 ⊢
        go_enter Try.func27, Try.ntmps27
        go_wp2_with (first | (go_at_call 36; refine hgood.mono ?_; rintro e w1 ⟨v, rfl, hv, hb⟩; obtain ⟨A, c, rfl, hcap, hvc⟩ := Kd.R_reads hv; have HB1 := Aside0.mk hb; have HV := Aside0.mk hvc; have HCAP := Aside0.mk hcap; clear hb hv hvc hcap) | (go_at_call 29; refine (HALL.out _ HB1.out).mono ?_; rintro e w2 ⟨rfl, hb2⟩; have HB2 := Aside0.mk hb2; clear hb2))
        have HBO := Aside0.mk (HB1.out.trans (HB2.out.mono HB1.out.size))
        have HV2 := Aside0.mk (Kd.C_below HV.out HB2.out)
        have hr2 := HM.out w2 A c HBO.out HV2.out HCAP.out
        clear HB1 HB2 HV HALL hgood HM
        go_loopg [7, 9, 26] bs.length (fun gg s7 _ s26 wr => ∃ kk : Nat, kk ≤ bs.length ∧ bs.length - kk ≤ gg ∧ s26 = .int .i64 kk ∧ s7 = .int .i64 (sumOf l0 (bs.take kk)) ∧ wr = w2)
        case atStart => exact ⟨0, Nat.zero_le _, by omega, rfl, rfl, rfl⟩
        case round =>
          obtain ⟨kk, hkk, hg, rfl, rfl, rfl⟩ := hrel
          by_cases hlt : kk < bs.length
          · obtain ⟨ad, hA, hcell⟩ := Kd.at_int HV2.out (kk : Int) (by omega) (by omega)
            rw [Int.toNat_natCast, show rd bs (kk : Int) = bs[kk] from by simp [rd, hlt]] at hcell
            have hlti : (kk : Int) < (bs.length : Int) := by omega
            have hb := HIN.out bs[kk] (List.getElem_mem _)
            have HST := Aside0.mk (sumOf_take l0 bs kk hlt)
            subst hA
            generalize bs[kk] = b at hcell hb HST
            have hb1 := hb.1
            have hb2 := hb.2
            obtain ⟨ad0, hA0, hcell0⟩ := Kd.at_int (Kd.C_below HR0.out HBO.out) b hb1 hb2
            subst hA0
            generalize rd l0 b = y at hcell0 HST
            clear hb
            go_wp2
            go_roundg (bs.length - (kk + 1))
            case measure => omega
            case rel => exact ⟨kk + 1, by omega, by omega, by go_num, by rw [HST.out], rfl⟩
          · have hlti : ¬ (kk : Int) < (bs.length : Int) := by omega
            have hk : kk = bs.length := by omega
            have HT : Aside0 (sumOf l0 (bs.take kk) = sumOf l0 bs) := ⟨by rw [hk, List.take_length]⟩
            clear hk
            rw [HT.out]
            obtain ⟨ad0, hA0, hcell0⟩ := Kd.at_int (Kd.C_below HR0.out HBO.out) x hm1 hm2
            have HC0 := Aside0.mk hcell0
            clear hcell0
            subst hA0
            have ho : ((bs.length : Int) - 1) ≠ 0 := by omega
            go_wp2_with (go_at_call 30; refine hr2.mono ?_; rintro e w3 ⟨rfl, hb3⟩; have hcx := pw_cell_below hb3 HC0.out)
            all_goals (go_ret; refine ⟨?_, HBO.out.trans (hb3.mono HBO.out.size)⟩)
            · rename_i hq
              unfold exOf
              rw [Int.max_eq_right (by omega)]
              rfl
            · rename_i hq
              unfold exOf
              rw [Int.max_eq_left (by omega)]
              rfl
  · rw [if_neg hl] at h
    exact absurd h (by simp)
end Go.Proofs.Ytcdkkdlaalbgiaa.Q
