/- The calls of the program's tests of a zone, as truth values of the zone's fields. Conditions: those before each theorem. -/
import Derived.Test.YtdjbphffibcbeaaXState
import Derived.Test.YtdjbphffibcbeaaXContents
import Derived.Test.YtdjbphffibcbeaaXReady
import Derived.Test.YtdjbphffibcbeaaXIdxS
import Derived.Test.YtdjbphffibcbeaaXAllW
import Derived.Test.YtdjbphffibcbeaaQ12
namespace Go.Proofs.Ytdjbphffibcbeaa.Q
open Go.RowKit Go.Proofs.YtdjbphffibcbeaaW.PrintWords Go.Proofs.YtdjbphffibcbeaaW.PrintMore Go.Proofs.YtdjbphffibcbeaaW.PrintLast
set_option linter.unusedVariables false
set_option linter.unusedSimpArgs false
def longS (s : ByteArray) : Bool := decide (64 < (s.size : Int))
def sumW : List Int → Int → Int
  | [], s => s
  | x :: l, s => sumW l (wrap64 (s + x))
def contB (d p : Int) (x : S50) : Bool := !decide (p < (x.f4.length : Int)) && (allIn x.f4 1 (wrap64 (d - 1)) && (!decide (wrap64 (d - 1) ≤ (x.f5.length : Int)) && ((x.f3 == sumW x.f4 0) && ((x.f2 == wrap64 (x.f3 + (x.f5.length : Int))) && !(x.f5.any longS)))))
def readyB (L : List (S68)) (x : S50) : Bool := !(x.f1.any fun y => (rd_T68 L y).f1 != (x.f4.length : Int))
def zstateB (p : Int) (L : List (S68)) (x : S50) : Bool := stateV x.f0 x.f2 p x.f4.length x.f5.length (readyB L x)
theorem total_loop (l : List Int) (hl : l.length ≤ 9223372036854775807) (d : Nat) : ∀ (i : Nat) (s : Int), i ≤ l.length → l.length - i = d → Ev (fun k => impl_total.l0 k s l (l.length : Int) i) (sumW (l.drop i) s) := by
  induction d with
  | zero =>
    intro i s h1 h2
    rw [List.drop_of_length_le (by omega)]
    refine Ev.step (f := fun _ => some s) (fun k => ?_) (Ev.now _)
    rw [impl_total.l0, if_neg (by omega)]
  | succ d ih =>
    intro i s h1 h2
    have hi : i < l.length := by omega
    have e1 : rd l (i : Int) = l[i] := by simp [rd, hi]
    have ei : wrap64 ((i : Int) + 1) = ((i + 1 : Nat) : Int) := by unfold wrap64; omega
    have ih1 := ih (i + 1) (wrap64 (s + l[i])) (by omega) (by omega)
    rw [List.drop_eq_getElem_cons hi, sumW]
    refine Ev.step (fun k => ?_) ih1
    rw [impl_total.l0, if_pos (by omega), if_pos (by omega), if_pos (by omega), e1, ei]
theorem total_ev (l : List Int) (hl : l.length ≤ 9223372036854775807) : Ev (fun k => impl_total.f k l) (sumW l 0) := by
  have := total_loop l hl l.length 0 0 (by omega) (by omega)
  rw [List.drop_zero] at this
  exact this
theorem toBelowZ {w w' : World} (h : Drawn0 w w') : Below w.heap.size w w' := by
  obtain ⟨nn, rfl⟩ := h.out
  exact pw_below_drewN (Below.refl _ _) nn
theorem long_pred (s : ByteArray) (W : World) : Calls Try.prog 48 #[.string s] W fun e w' => e = .returned (.bool (longS s)) ∧ w' = W := by
  unfold longS
  go_enter Try.func48, Try.ntmps48
  go_wp2
  go_ret
  exact ⟨by first | rfl | simp, rfl⟩
theorem contZ_calls (g : Nat) (d b p : Int) (A3 : Option Addr) (c3 : Nat) (L : List (S68)) (u v : Int) (o : Bool) (z : Int) (A8 : Option Addr) (n8 c8 : Nat) (x : S50) (B1 : Option Addr) (e1 : Nat) (B4 : Option Addr) (e4 : Nat) (B5 : Option Addr) (e5 : Nat) (w : World) (BK : w.heap[g]? = some (.cells #[.int .i64 d, .int .i64 b, .int .i64 p, .slice A3 L.length c3, .int .i64 u, .int .i64 v, .bool o, .int .i64 z, .slice A8 n8 c8] 38 (0, 0))) (hC1 : Kd.C (Kd.int .i64) w B1 x.f1.length x.f1) (hl1 : x.f1.length ≤ e1) (hC4 : Kd.C (Kd.int .i64) w B4 x.f4.length x.f4) (hl4 : x.f4.length ≤ e4) (hC5 : Kd.C Kd.string w B5 x.f5.length x.f5) (hl5 : x.f5.length ≤ e5) :
    Calls Try.prog 25 #[.pointer (some ⟨g, 0, none⟩), .agg #[.int .i64 x.f0, .slice B1 x.f1.length e1, .int .i64 x.f2, .int .i64 x.f3, .slice B4 x.f4.length e4, .slice B5 x.f5.length e5]] w fun e w' => e = .returned (.bool (contB d p x)) ∧ Below w.heap.size w w' := by
  have hbig := hC4.2.1
  obtain ⟨K, hK⟩ := total_ev x.f4 (by omega)
  have eg : ∀ args w, (callFunc 48 args).run Try.prog w = .ok (.enter 48 args) w := enters_of Try.func48 (by kernel_rfl) rfl
  refine contents_core g d b p A3 c3 L u v o z A8 n8 c8 x.f0 B1 e1 x.f1 x.f2 x.f3 B4 x.f4.length e4 B5 x.f5.length e5 (sumW x.f4 0) _ (allIn x.f4 1 (wrap64 (d - 1))) _ _ _ (x.f5.any longS) _ w BK ?_ ?_ ?_ rfl rfl rfl rfl rfl
  · exact fun W hb => impl_allWithin.calls B4 e4 x.f4 1 (wrap64 (d - 1)) _ W (Kd.C_below hC4 hb) hl4 rfl
  · exact fun W hb => (impl_total.calls K B4 e4 x.f4 _ W (Kd.C_below hC4 hb) hl4 (hK K (Nat.le_refl _))).mono fun e w' ⟨he, hd⟩ => ⟨he, toBelowZ hd⟩
  · exact fun W hb => anyS_calls B5 e5 x.f5 W (Kd.C_below hC5 hb) hl5 48 #[] longS eg (fun W2 s _ hb2 => (long_pred s W2).mono fun e w' ⟨he, hw⟩ => ⟨he, by rw [hw]; exact hb2⟩)
theorem stateZ_calls (g : Nat) (d b p : Int) (A3 : Option Addr) (c3 : Nat) (L : List (S68)) (u v : Int) (o : Bool) (z : Int) (A8 : Option Addr) (n8 c8 : Nat) (x : S50) (B1 : Option Addr) (e1 : Nat) (B4 : Option Addr) (e4 : Nat) (B5 : Option Addr) (e5 : Nat) (w : World) (BK : w.heap[g]? = some (.cells #[.int .i64 d, .int .i64 b, .int .i64 p, .slice A3 L.length c3, .int .i64 u, .int .i64 v, .bool o, .int .i64 z, .slice A8 n8 c8] 38 (0, 0))) (hrL : Kd.C k68 w A3 L.length L) (hC1 : Kd.C (Kd.int .i64) w B1 x.f1.length x.f1) (hl1 : x.f1.length ≤ e1) (hC4 : Kd.C (Kd.int .i64) w B4 x.f4.length x.f4) (hl4 : x.f4.length ≤ e4) (hC5 : Kd.C Kd.string w B5 x.f5.length x.f5) (hl5 : x.f5.length ≤ e5) (hin : ∀ y ∈ x.f1, 0 ≤ y ∧ y < L.length) :
    Calls Try.prog 26 #[.pointer (some ⟨g, 0, none⟩), .agg #[.int .i64 x.f0, .slice B1 x.f1.length e1, .int .i64 x.f2, .int .i64 x.f3, .slice B4 x.f4.length e4, .slice B5 x.f5.length e5]] w fun e w' => e = .returned (.bool (zstateB p L x)) ∧ Below w.heap.size w w' := by
  refine state_core g d b p A3 c3 L u v o z A8 n8 c8 x.f0 B1 e1 x.f1 x.f2 x.f3 B4 x.f4.length e4 B5 x.f5.length e5 (readyB L x) _ w BK ?_ rfl
  exact fun W hb => ready_calls g d b p A3 c3 L u v o z A8 n8 c8 x.f0 B1 e1 x.f1 x.f2 x.f3 B4 x.f4.length e4 B5 x.f5.length e5 W (blk_below BK hb) (Kd.C_below hrL hb) (Kd.C_below hC1 hb) hl1 hin
theorem place_in {d b : Int} {bl : List Int} (hd : 2 ≤ d ∧ d ≤ 3) (hb : 4 ≤ b ∧ b ≤ 12) (h : placesB d b bl = true) : (bl.length : Int) = d ∧ ∀ y ∈ bl, 0 ≤ y ∧ y < wrap64 (d * b) := by
  unfold placesB at h
  rw [Bool.and_eq_true, beq_iff_eq] at h
  refine ⟨h.1, fun y hy => ?_⟩
  obtain ⟨i, hi, rfl⟩ := List.mem_iff_getElem.1 hy
  have h2 := List.all_eq_true.1 h.2 i (List.mem_range.2 hi)
  have e1 : rd bl (i : Int) = bl[i] := by simp [rd, hi]
  unfold placeAt at h2
  rw [decide_eq_true_eq, e1] at h2
  generalize bl[i] = q at h2 ⊢
  have hlen := h.1
  have ew : ∀ m : Int, 0 ≤ m → m ≤ 1000 → wrap64 m = m := fun m q0 q1 => by unfold wrap64; omega
  have hdb : wrap64 (d * b) = d * b := by
    have hd2 : d = 2 ∨ d = 3 := by omega
    rcases hd2 with rfl | rfl <;> exact ew _ (by omega) (by omega)
  have hm : 0 ≤ (i : Int) * b ∧ (i : Int) * b ≤ 100 ∧ (i : Int) * b + b ≤ d * b := by
    have hi3 : i = 0 ∨ i = 1 ∨ i = 2 := by omega
    have hd2 : d = 2 ∨ d = 3 := by omega
    rcases hi3 with rfl | rfl | rfl <;> rcases hd2 with rfl | rfl <;> simp at hlen ⊢ <;> omega
  rw [hdb]
  generalize (i : Int) * b = m at h2 hm
  generalize d * b = n at hm ⊢
  rw [ew m (by omega) (by omega), ew (m + b) (by omega) (by omega), ew (m + b - 1) (by omega) (by omega)] at h2
  omega
end Go.Proofs.Ytdjbphffibcbeaa.Q
