/- The contract of the program's putAll. Conditions: those before each theorem. -/
import Derived.Test.YtolffokfddjceaaQ9
import Derived.Test.YtolffokfddjceaaPutOk
import Derived.Test.YtolffokfddjceaaXBuilder
namespace Go.Proofs.Ytolffokfddjceaa.Q
open Go.RowKit Go.Proofs.YtolffokfddjceaaW.PrintWords Go.Proofs.YtolffokfddjceaaW.PrintMore
set_option linter.unusedVariables false
def putX (x : S26) : ByteArray := putB x.f0 x.f1 x.f2 x.f3 x.f4
def putL (l : List S26) : List UInt8 := (l.map fun x => (putX x).data.toList).flatten
def shortX (x : S26) : Bool := decide (x.f0.size ≤ 1048576 ∧ (recData x.f2 x.f3 x.f4).size ≤ 1048576)
def impl_putAll.f (l : List S26) : Option ByteArray := if l.length ≤ 1000 then (if (l.all shortX) = true then some ⟨(putL l).toArray⟩ else none) else none
theorem putX_calls (x : S26) (hs : shortX x = true) (w : World) : Calls Try.prog 56 #[.agg #[.string x.f0, .int .i64 x.f1, .int .i64 x.f2, .string x.f3, .string x.f4]] w fun e w' => e = .returned (.string (putX x)) ∧ Below w.heap.size w w' := by
  obtain ⟨h1, h2⟩ := of_decide_eq_true hs
  obtain ⟨K, h⟩ := put_ev x.f0 x.f1 x.f2 x.f3 x.f4 (by omega) (by omega)
  exact impl_Record_put.calls K x.f0 x.f1 x.f2 x.f3 x.f4 _ w (h K (Nat.le_refl _))
theorem putX_size (x : S26) (hs : shortX x = true) : 1 ≤ (putX x).size ∧ (putX x).size ≤ 3000000 := by
  obtain ⟨h1, h2⟩ := of_decide_eq_true hs
  unfold putX
  rw [put_size]
  omega
theorem putL_take (l : List S26) (k : Nat) (h : k < l.length) : putL (l.take (k + 1)) = putL (l.take k) ++ (putX l[k]).data.toList := by
  unfold putL
  rw [List.take_succ_eq_append_getElem h, List.map_append, List.flatten_append]
  simp
theorem putL_len (l : List S26) (h : (l.all shortX) = true) : (putL l).length ≤ l.length * 3000000 := by
  induction l with
  | nil => simp [putL]
  | cons x l ih =>
    simp only [List.all_cons, Bool.and_eq_true] at h
    have h1 := (putX_size x h.1).2
    have h2 := ih h.2
    have e : putL (x :: l) = (putX x).data.toList ++ putL l := by simp [putL]
    rw [e, List.length_append, data_length, List.length_cons]
    omega
theorem zeroBu (w : World) : (zeroValue 83).run Try.prog w = .ok (.agg #[.pointer none, .slice none 0 0]) w := by kernel_rfl
set_option maxHeartbeats 4000000 in
set_option maxRecDepth 100000 in
theorem impl_putAll.calls (A0 : Option Addr) (c0 : Nat) (l0 : List S26) (r : ByteArray) (w : World) (hr0 : Kd.C k26 w A0 l0.length l0) (hc0 : l0.length ≤ c0) (h : impl_putAll.f l0 = some r) :
    Calls Try.prog 68 #[.slice A0 l0.length c0] w fun e w' => e = .returned (.string r) ∧ Below w.heap.size w w' := by
  unfold impl_putAll.f at h
  by_cases hl : l0.length ≤ 1000
  · rw [if_pos hl] at h
    by_cases ha : (l0.all shortX) = true
    · rw [if_pos ha] at h
      obtain rfl := Option.some.inj h
      have HR := Aside0.mk hr0
      have HA := Aside0.mk ha
      have hB0 : Below w.heap.size w (w.alloc (.cells #[.pointer none, .slice none 0 0] 83)) := (Below.refl _ _).alloc (Nat.le_refl _) _
      have HB0 := Aside0.mk hB0
      have HX0 : Aside0 (BX w.heap.size w.heap.size (.pointer none) (.slice none 0 0) [] (w.alloc (.cells #[.pointer none, .slice none 0 0] 83))) := ⟨blk_new _ _, World.ownsRow_nil _ _ _ _, by simp [Value.ownBlock]⟩
      clear h hr0 ha hB0
      go_enter Try.func68, Try.ntmps68
      go_wp2
      go_loopg [5, 8] l0.length (fun gg _ s8 wr => ∃ (kk : Nat) (p v : Value), s8 = .int .i64 kk ∧ kk ≤ l0.length ∧ l0.length - kk ≤ gg ∧ Aside0 (p = .pointer none ∨ p = .pointer (some ⟨w.heap.size, 0, none⟩)) ∧ Aside0 (BX w.heap.size w.heap.size p v (putL (l0.take kk)) wr) ∧ Aside0 (Below w.heap.size w wr) ∧ Aside0 (kk = 0 → v = .slice none 0 0))
      case atStart => exact ⟨0, _, _, rfl, Nat.zero_le _, by omega, ⟨.inl rfl⟩, HX0, HB0, ⟨fun _ => rfl⟩⟩
      case round =>
        obtain ⟨kk, p, v, rfl, hkk, hg, HP, HX, HB, HZ⟩ := hrel
        by_cases hlt : kk < l0.length
        · have hlti : (kk : Int) < (l0.length : Int) := by omega
          obtain ⟨ad, rfl, e0, e1, e2, e3, e4⟩ := at_T26 (Kd.C_below HR.out HB.out) (kk : Int) (by omega) (by omega)
          rw [Int.toNat_natCast, show rd_T26 l0 (kk : Int) = l0[kk] from by simp [rd_T26, hlt]] at e0 e1 e2 e3 e4
          have hsx : shortX l0[kk] = true := List.all_eq_true.1 HA.out _ (List.getElem_mem hlt)
          have HT := Aside0.mk (putL_take l0 kk hlt)
          have HL : Aside0 ((putL (l0.take kk)).length + (putX l0[kk]).size ≤ 140737488355328) := ⟨by
            have h1 := putL_len (l0.take kk) (List.all_eq_true.2 fun x hx => List.all_eq_true.1 HA.out x (List.mem_of_mem_take hx))
            have h2 := (putX_size _ hsx).2
            rw [List.length_take, Nat.min_eq_left (by omega)] at h1
            omega⟩
          have HC := Aside0.mk (putX_calls l0[kk] hsx)
          clear hsx
          generalize l0[kk] = x at e0 e1 e2 e3 e4 HT HL HC
          have HB5 : Aside0 (Below wr.heap.size wr (wr.alloc (.cells #[.string x.f0, .int .i64 x.f1, .int .i64 x.f2, .string x.f3, .string x.f4] 26))) := ⟨(Below.refl _ wr).alloc (Nat.le_refl _) _⟩
          go_wp2_with (first | (go_at_call 56; refine (HC.out _).mono ?_; rintro e w2 ⟨rfl, hb2⟩; have HB2 := Aside0.mk (HB5.out.trans (hb2.mono HB5.out.size)); clear hb2; have hwr := write_calls w.heap.size w.heap.size p v (putL (l0.take kk)) (putX x) w2 HP.out (BX_below HX.out HB2.out) (Nat.le_refl _) HL.out (Nat.le_trans HB.out.size HB2.out.size)) | (go_at_call 89; refine hwr.mono ?_; rintro e w3 ⟨rfl, v3, hx3, hb3, _⟩; have HX3 := Aside0.mk hx3; have HB3 := Aside0.mk hb3; clear hx3 hb3 hwr))
          go_roundg (l0.length - (kk + 1))
          case measure => omega
          case rel =>
            refine ⟨kk + 1, _, v3, by go_num, by omega, Nat.le_refl _, ⟨.inr rfl⟩, ⟨by rw [HT.out]; exact HX3.out⟩, ⟨HB.out.trans ((HB2.out.mono HB.out.size).trans HB3.out)⟩, ⟨fun e => absurd e (by omega)⟩⟩
        · obtain rfl : kk = l0.length := by omega
          have hlti : ¬ (l0.length : Int) < (l0.length : Int) := by omega
          have hst : Calls Try.prog 90 #[.pointer (some ⟨w.heap.size, 0, none⟩)] wr fun e w' => e = .returned (.string ⟨(putL l0).toArray⟩) ∧ Below w.heap.size wr w' := by
            have hX := HX.out
            rw [List.take_length] at hX
            by_cases hz : l0 = []
            · subst hz
              have hv := HZ.out rfl
              subst hv
              exact string_nil w.heap.size w.heap.size p wr hX.1
            · refine (string_calls w.heap.size w.heap.size p v (putL l0) wr hX (fun e => hz ?_)).mono fun e w' ⟨he, hb, _⟩ => ⟨he, hb⟩
              cases l0 with
              | nil => rfl
              | cons x l =>
                have h1 := (putX_size x (List.all_eq_true.1 HA.out x (by simp))).1
                have e2 : putL (x :: l) = (putX x).data.toList ++ putL l := by simp [putL]
                rw [e2] at e
                have e3 := (List.append_eq_nil_iff.1 e).1
                have e4 := data_length (putX x)
                rw [e3] at e4
                simp at e4
                omega
          clear hlti
          go_wp2_with (go_at_call 90; refine hst.mono ?_; rintro e w4 ⟨rfl, hb4⟩)
          go_ret
          exact ⟨rfl, HB.out.trans hb4⟩
    · rw [if_neg ha] at h
      cases h
  · rw [if_neg hl] at h
    cases h
end Go.Proofs.Ytolffokfddjceaa.Q
