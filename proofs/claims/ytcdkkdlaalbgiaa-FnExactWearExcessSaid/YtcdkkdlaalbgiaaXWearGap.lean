/- The contract of the program's WearGap. Conditions: those before each theorem. -/
import Derived.Test.YtcdkkdlaalbgiaaGoodL
import Derived.Test.YtcdkkdlaalbgiaaXPickFree
namespace Go.Proofs.Ytcdkkdlaalbgiaa.Q
open Go.RowKit Go.Proofs.YtcdkkdlaalbgiaaW.PrintWords Go.Proofs.YtcdkkdlaalbgiaaW.PrintMore
set_option linter.unusedVariables false
def gapOf (er : List Int) (bad : List Bool) : Int :=
  if goodL er bad = [] then 0 else if allIn er 0 1000 = true then wrap64 (rd er (bestL gtB er (goodL er bad)) - rd er (bestL ltB er (goodL er bad))) else 0
def impl_WearGap.f (er : List Int) (bad : List Bool) : Option Int := if er.length ≤ 1000000000 then some (gapOf er bad) else none
theorem foldl_some (f : Int → Int → Bool) (er : List Int) : ∀ (bs : List Int) (a : Int), 0 ≤ a → (∀ b ∈ bs, 0 ≤ b ∧ b < er.length) → a < er.length → 0 ≤ bs.foldl (bstep f er) a
  | [], a, ha, _, _ => ha
  | b :: bs, a, ha, h, h2 => by
    have := bstep_range f er er.length a b (Or.inr ⟨ha, h2⟩) (h b (List.mem_cons_self ..))
    exact foldl_some f er bs _ this.1 (fun x hx => h x (List.mem_cons_of_mem _ hx)) this.2
theorem bestL_some (f : Int → Int → Bool) (er bs : List Int) (h : ∀ b ∈ bs, 0 ≤ b ∧ b < er.length) (hn : bs ≠ []) : 0 ≤ bestL f er bs ∧ bestL f er bs < er.length := by
  cases bs with
  | nil => exact absurd rfl hn
  | cons b bs =>
    have hb := h b (List.mem_cons_self ..)
    have e : bestL f er (b :: bs) = bs.foldl (bstep f er) b := rfl
    have h1 := foldl_some f er bs b hb.1 (fun x hx => h x (List.mem_cons_of_mem _ hx)) hb.2
    have h2 := foldl_range f er er.length bs b (Or.inr hb) (fun x hx => h x (List.mem_cons_of_mem _ hx))
    rw [e]
    omega
theorem good_calls (A0 : Option Addr) (c0 : Nat) (er : List Int) (A1 : Option Addr) (c1 : Nat) (bad : List Bool) (w : World) (hr0 : Kd.C (Kd.int .i64) w A0 er.length er) (hc0 : er.length ≤ c0) (hr1 : Kd.C Kd.bool w A1 bad.length bad) (hc1 : bad.length ≤ c1)
    (hl : er.length ≤ 17592186044416) :
    Calls Try.prog 36 #[.slice A0 er.length c0, .slice A1 bad.length c1] w fun e w' => ∃ v0_ : Value, e = .returned (v0_) ∧ Kd.R (Kd.int .i64) 2 w' w.heap.size (fun _ => True) v0_ (goodL er bad) ∧ Below w.heap.size w w' := by
  obtain ⟨K, h⟩ := good_ev er bad hl
  exact impl_good.calls K A0 c0 er A1 c1 bad (goodL er bad) w hr0 hc0 hr1 hc1 (h K (Nat.le_refl _))
set_option maxHeartbeats 1000000 in
theorem impl_WearGap.calls (A0 : Option Addr) (c0 : Nat) (l0 : List Int) (A1 : Option Addr) (c1 : Nat) (l1 : List Bool) (r : Int) (w : World) (hr0 : Kd.C (Kd.int .i64) w A0 l0.length l0) (hc0 : l0.length ≤ c0) (hr1 : Kd.C Kd.bool w A1 l1.length l1) (hc1 : l1.length ≤ c1)
    (h : impl_WearGap.f l0 l1 = some r) :
    Calls Try.prog 18 #[.slice A0 l0.length c0, .slice A1 l1.length c1] w fun e w' => e = .returned (.int .i64 r) ∧ Below w.heap.size w w' := by
  unfold impl_WearGap.f at h
  by_cases hl : l0.length ≤ 1000000000
  · rw [if_pos hl] at h
    obtain rfl := Option.some.inj h
    have hgood := good_calls A0 c0 l0 A1 c1 l1 w hr0 hc0 hr1 hc1 (by omega)
    have HIN := Aside0.mk (goodL_mem l0 l1)
    have hlen := goodL_length l0 l1
    have HR0 := Aside0.mk hr0
    have HC0 := Aside0.mk hc0
    clear hr0 hr1 hc1 h hc0
    unfold gapOf
    generalize goodL l0 l1 = bl at hgood HIN hlen ⊢
    cases bl with
    | nil =>
      rw [if_pos rfl]
      go_enter Try.func18, Try.ntmps18
      go_wp2_with (go_at_call 36; refine hgood.mono ?_; rintro e w' ⟨v, rfl, hv, hb⟩; obtain ⟨A, c, rfl, _, _⟩ := Kd.R_reads hv)
      go_ret
      exact ⟨rfl, hb⟩
    | cons b bl =>
      rw [if_neg (by simp)]
      have hne : (b :: bl : List Int) ≠ [] := by simp
      have hp1 := bestL_some gtB l0 (b :: bl) HIN.out hne
      have hp2 := bestL_some ltB l0 (b :: bl) HIN.out hne
      have hpos : 0 < (b :: bl : List Int).length := by simp
      generalize (b :: bl : List Int) = bs at hgood HIN hlen hp1 hp2 hpos ⊢
      clear hne
      have hz : ((bs.length : Int) == 0) = false := beq_eq_false_iff_ne.2 (by omega)
      have HALL : Aside0 (∀ w1, Below w.heap.size w w1 → Calls Try.prog 29 #[.slice A0 l0.length c0, .int .i64 0, .int .i64 1000] w1 fun e w' => e = .returned (.bool (allIn l0 0 1000)) ∧ Below w1.heap.size w1 w') := ⟨fun w1 hb => impl_allWithin.calls A0 c0 l0 0 1000 _ w1 (Kd.C_below HR0.out hb) HC0.out rfl⟩
      generalize allIn l0 0 1000 = t at HALL ⊢
      cases t with
      | false =>
        rw [if_neg (by decide)]
        go_enter Try.func18, Try.ntmps18
        go_wp2_with (first | (go_at_call 36; refine hgood.mono ?_; rintro e w1 ⟨v, rfl, hv, hb⟩; obtain ⟨A, c, rfl, _, _⟩ := Kd.R_reads hv; have HB1 := Aside0.mk hb; clear hb hv) | (go_at_call 29; refine (HALL.out _ HB1.out).mono ?_; rintro e w2 ⟨rfl, hb2⟩))
        go_ret
        exact ⟨rfl, HB1.out.trans (hb2.mono HB1.out.size)⟩
      | true =>
        rw [if_pos rfl]
        have HM : Aside0 (∀ w2 A c, Below w.heap.size w w2 → Kd.C (Kd.int .i64) w2 A bs.length bs → bs.length ≤ c → ∀ n, Calls Try.prog 30 #[.slice A0 l0.length c0, .slice A bs.length c, .func (.func 32) #[] #[]] (w2.drewN n) fun e w' => e = .returned (.int .i64 (bestL gtB l0 bs)) ∧ ∃ m, w' = w2.drewN m) :=
          ⟨fun w2 A c hb hv hc n => Calls.quiet_of (bestMore A0 c0 l0 A c bs _ (Kd.C_below HR0.out (below_drewN hb n)) HC0.out (Kd.C_below hv (below_drewN (Below.refl _ _) n)) hc HIN.out)⟩
        have HL : Aside0 (∀ w2 A c, Below w.heap.size w w2 → Kd.C (Kd.int .i64) w2 A bs.length bs → bs.length ≤ c → ∀ n, Calls Try.prog 30 #[.slice A0 l0.length c0, .slice A bs.length c, .func (.func 31) #[] #[]] (w2.drewN n) fun e w' => e = .returned (.int .i64 (bestL ltB l0 bs)) ∧ ∃ m, w' = w2.drewN m) :=
          ⟨fun w2 A c hb hv hc n => Calls.quiet_of (bestLess A0 c0 l0 A c bs _ (Kd.C_below HR0.out (below_drewN hb n)) HC0.out (Kd.C_below hv (below_drewN (Below.refl _ _) n)) hc HIN.out)⟩
        have hm1 := hp1.1
        have hm2 := hp1.2
        have hl1 := hp2.1
        have hl2 := hp2.2
        clear hp1 hp2 HIN
        generalize bestL gtB l0 bs = x at HM hm1 hm2 ⊢
        generalize bestL ltB l0 bs = y at HL hl1 hl2 ⊢
        obtain ⟨ad, rfl, hcx⟩ := Kd.at_int HR0.out x hm1 hm2
        obtain ⟨ad2, hA2, hcy⟩ := Kd.at_int HR0.out y hl1 hl2
        obtain rfl := Option.some.inj hA2
        generalize rd l0 x = u at hcx ⊢
        generalize rd l0 y = v at hcy ⊢
        have HCX : Aside0 (∀ w2, Below w.heap.size w w2 → w2.cell? _ = some (.int .i64 u)) := ⟨fun w2 hb => pw_cell_below hb hcx⟩
        have HCY : Aside0 (∀ w2, Below w.heap.size w w2 → w2.cell? _ = some (.int .i64 v)) := ⟨fun w2 hb => pw_cell_below hb hcy⟩
        clear hcx hcy
        go_enter Try.func18, Try.ntmps18
        go_wp2_with (first | (go_at_call 36; refine hgood.mono ?_; rintro e w1 ⟨v, rfl, hv, hb⟩; obtain ⟨A, c, rfl, hcap, hvc⟩ := Kd.R_reads hv; have HB1 := Aside0.mk hb; have HV := Aside0.mk hvc; have HCAP := Aside0.mk hcap; clear hb hv hvc hcap) | (go_at_call 29; refine (HALL.out _ HB1.out).mono ?_; rintro e w2 ⟨rfl, hb2⟩; have HB2 := Aside0.mk hb2; clear hb2))
        have HBO := Aside0.mk (HB1.out.trans (HB2.out.mono HB1.out.size))
        have hcx := HCX.out _ HBO.out
        have hcy := HCY.out _ HBO.out
        have HM2 := Aside0.mk (HM.out w2 A c HBO.out (Kd.C_below HV.out HB2.out) HCAP.out)
        have HL2 := Aside0.mk (HL.out w2 A c HBO.out (Kd.C_below HV.out HB2.out) HCAP.out)
        clear HM HL HCX HCY HB1 HB2 HV HCAP HALL HR0 HC0 hz hpos hlen hgood
        go_quiet ((first | (with_reducible exact HM2.out _) | (with_reducible exact HL2.out _)))
        go_wp2
        go_ret
        exact ⟨rfl, below_drewN HBO.out _⟩
  · rw [if_neg hl] at h
    exact absurd h (by simp)
end Go.Proofs.Ytcdkkdlaalbgiaa.Q
