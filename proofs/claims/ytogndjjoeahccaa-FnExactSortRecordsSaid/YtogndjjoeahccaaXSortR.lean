/- The contract of the program's SortRecords. Conditions: those before each theorem. -/
import Derived.Test.YtogndjjoeahccaaXSortW
import Derived.Test.YtogndjjoeahccaaXCloneR
import Derived.Test.YtogndjjoeahccaaRecOk
namespace Go.Proofs.Ytogndjjoeahccaa.Q
open Go.RowKit Go.Sort Go.Proofs.YtogndjjoeahccaaW.PrintWords Go.Proofs.YtogndjjoeahccaaW.PrintMore
set_option linter.unusedVariables false
def okX (x : S49) : Bool := okRec x.f0 x.f1 x.f2 x.f3 x.f4
def sortL (l : List S49) : List S49 := l.mergeSort fun x y => !(ltOf cmpX) y x
theorem isAggR (w : World) : (isAgg 49).run Try.prog w = .ok true w := by kernel_rfl
theorem sizeOfR (w : World) : (Go.sizeOf 49).run Try.prog w = .ok 5 w := by kernel_rfl
theorem sortR_calls (A : Option Addr) (c : Nat) (xs : List S49) (w0 w : World) (base : Nat) (ok : Nat → Prop) (HR : Kd.R k49 49 w base ok (.slice A xs.length c) xs) (HB : Below base w0 w) (hbase : base ≤ w.heap.size) (hsm : xs.length < 4611686018427387904) :
    Calls Try.prog 39 #[.slice A xs.length c, .func (.func 40) #[] #[]] w fun e w' => e = .returned (.tuple #[]) ∧ Kd.R k49 49 w' base ok (.slice A (sortL xs).length c) (sortL xs) ∧ Below base w0 w' := by
  by_cases h0 : xs = []
  · subst h0
    exact (AnyF.slices_SortFunc_none Try.sortR A c (.func (.func 40) #[] #[]) w).mono fun e w' ⟨he, hw⟩ => by
      subst hw
      exact ⟨he, by simpa [sortL] using HR, HB⟩
  · have hpos : 0 < xs.length := List.length_pos_iff.2 h0
    obtain ⟨gb, rfl⟩ : ∃ gb, A = some ⟨gb, 0, none⟩ := by
      obtain ⟨gb, cb, hv, _⟩ := Kd.R_form HR hpos
      injection hv with ha
      exact ⟨gb, ha⟩
    have hbg : base ≤ gb := Kd.R_base HR gb (by simp [Value.ownBlock])
    have hlt : gb < w.heap.size := Kd.R_lt HR gb (by simp [Value.ownBlock])
    have eg : ∀ args w, (callFunc 40 args).run Try.prog w = .ok (.enter 40 args) w := enters_of Try.func40 (by kernel_rfl) rfl
    have hcon := AnyQ.slices_SortFunc_total Try.sortR 5 isAggR sizeOfR encR (fun _ => rfl) (fun x v hv => by simp [encR] at hv; rcases hv with rfl | rfl | rfl | rfl | rfl <;> rfl) cmpX swoX 40 #[] gb 0 c xs.toArray w eg (cmpLaysX gb 0 xs.toArray.size w) (holdsR HR) hlt (by simpa using hsm) totX
    refine Calls.mono hcon ?_
    rintro e w' ⟨he, m, os, hw⟩
    have hlen : (sortL xs).length = xs.length := List.length_mergeSort _
    have := R_sorted HR hlt hlen m os
    rw [show sortWorldK encR 5 w gb 0 m (sortL xs).toArray os = w' from hw.symm] at this
    exact ⟨he, this.1, HB.grown this.2 hbase (fun k hk => by injection hk with hk; subst hk; exact hbg)⟩
theorem sort_pred (x : S49) (W : World) :
    Calls Try.prog 37 #[.agg #[.string x.f0, .int .i64 x.f1, .int .i64 x.f2, .string x.f3, .string x.f4]] W fun e w' => e = .returned (.bool (!okX x)) ∧ Below W.heap.size W w' := by
  obtain ⟨K, hK⟩ := implRec_ev x.f0 x.f1 x.f2 x.f3 x.f4
  have hcon := fun W => impl_ValidRecord.calls K x.f0 x.f1 x.f2 x.f3 x.f4 (okX x) W (hK K (Nat.le_refl _))
  generalize okX x = r at hcon ⊢
  have hB : Below W.heap.size W (W.alloc (.cells #[.string x.f0, .int .i64 x.f1, .int .i64 x.f2, .string x.f3, .string x.f4] 49)) := (Below.refl _ _).alloc (Nat.le_refl _) _
  have HB := Aside0.mk hB
  clear hB hK
  go_enter Try.func37, Try.ntmps37
  go_wp2_with (go_at_call 38; refine (hcon _).mono ?_; rintro e w1 ⟨rfl, hb1⟩)
  go_ret
  exact ⟨rfl, HB.out.trans (hb1.mono HB.out.size)⟩
def sortI (l : List S49) : List S49 := dedR (sortL (l.filter fun x => !!okX x))
def impl_SortRecords.f (l0 : List S49) : Option (List S49) := if l0.length < 2199023255552 then some (sortI l0) else none
set_option maxHeartbeats 2000000 in
theorem impl_SortRecords.calls (A0 : Option Addr) (c0 : Nat) (l0 : List S49) (r : List S49) (w : World) (hr0 : Kd.C k49 w A0 l0.length l0) (hc0 : l0.length ≤ c0) (h : impl_SortRecords.f l0 = some r) :
    Calls Try.prog 13 #[.slice A0 l0.length c0] w fun e w' => ∃ v0_ : Value, e = .returned (v0_) ∧ Kd.R k49 49 w' w.heap.size (fun _ => True) v0_ r ∧ Below w.heap.size w w' := by
  unfold impl_SortRecords.f at h
  by_cases hl : l0.length < 2199023255552
  · rw [if_pos hl] at h
    obtain rfl := Option.some.inj h
    unfold sortI
    have HC := slices_Clone_Record.calls A0 c0 l0 l0 w hr0 hc0 (if_pos hl)
    have HD : Aside0 (∀ (w2 : World) (A : Option Addr) (c : Nat), Below w.heap.size w w2 → Kd.R k49 49 w2 w.heap.size (fun _ => True) (.slice A l0.length c) l0 →
        Calls Try.prog 35 #[.slice A l0.length c, .func (.func 37) #[] #[]] w2 fun e w' => ∃ v, e = .returned v ∧ Kd.R k49 49 w' w.heap.size (fun _ => True) v (l0.filter fun x => !!okX x) ∧ Below w.heap.size w w') := ⟨by
      intro w2 A c hb hr
      exact delR_calls A c l0 w w2 w.heap.size _ hr hb hb.size 37 #[] (fun x => !okX x) (enters_of Try.func37 (by kernel_rfl) rfl) (fun W x _ hs hh => sort_pred x W)⟩
    have hsm : Aside0 ((l0.filter fun x => !!okX x).length < 4611686018427387904) := ⟨Nat.lt_of_le_of_lt (List.length_filter_le _ _) (by omega)⟩
    clear h hr0 hl
    generalize (l0.filter fun x => !!okX x) = rr at HD hsm ⊢
    have HS : Aside0 (∀ (w2 : World) (A : Option Addr) (c : Nat), Below w.heap.size w w2 → Kd.R k49 49 w2 w.heap.size (fun _ => True) (.slice A rr.length c) rr →
        Calls Try.prog 39 #[.slice A rr.length c, .func (.func 40) #[] #[]] w2 fun e w' => e = .returned (.tuple #[]) ∧ Kd.R k49 49 w' w.heap.size (fun _ => True) (.slice A (sortL rr).length c) (sortL rr) ∧ Below w.heap.size w w') := ⟨fun w2 A c hb hr => sortR_calls A c rr w w2 w.heap.size _ hr hb hb.size hsm.out⟩
    have HL := Aside0.mk (show (sortL rr).length = rr.length from List.length_mergeSort _)
    generalize sortL rr = ss at HS HL ⊢
    have HK : Aside0 (∀ (w2 : World) (A : Option Addr) (c : Nat), Below w.heap.size w w2 → Kd.R k49 49 w2 w.heap.size (fun _ => True) (.slice A ss.length c) ss →
        Calls Try.prog 41 #[.slice A ss.length c] w2 fun e w' => ∃ v, e = .returned v ∧ Kd.R k49 49 w' w.heap.size (fun _ => True) v (dedR ss) ∧ Below w.heap.size w w') := ⟨fun w2 A c hb hr => compactR_calls A c ss w w2 w.heap.size _ hr hb hb.size⟩
    generalize dedR ss = tt at HK ⊢
    go_enter Try.func13, Try.ntmps13
    go_wp2_with fail
    refine HC.mono ?_
    rintro e w1 ⟨v, rfl, hv, hb1⟩
    obtain ⟨A, c, rfl⟩ := Kd.R_slice hv
    have hd := HD.out w1 A c hb1 hv
    clear HC hv hb1
    go_wp2_with fail
    refine hd.mono ?_
    rintro e w2 ⟨v, rfl, hv, hb2⟩
    obtain ⟨A, c, rfl⟩ := Kd.R_slice hv
    have hs := HS.out w2 A c hb2 hv
    clear hd hv hb2
    go_wp2_with fail
    refine hs.mono ?_
    rintro e w3 ⟨rfl, hv, hb3⟩
    have hk := HK.out w3 A c hb3 hv
    rw [HL.out] at hk
    clear hs hv hb3
    go_wp2_with fail
    refine hk.mono ?_
    rintro e w4 ⟨v, rfl, hv, hb4⟩
    have HV := Aside0.mk hv
    have HB := Aside0.mk hb4
    clear hk hv hb4
    go_wp2
    go_ret
    exact ⟨_, rfl, HV.out, HB.out⟩
  · rw [if_neg hl] at h
    cases h
end Go.Proofs.Ytogndjjoeahccaa.Q
