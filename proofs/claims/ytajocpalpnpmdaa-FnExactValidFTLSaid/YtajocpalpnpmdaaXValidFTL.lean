/- The contract of the program's ValidFTL. Conditions: those before each theorem. -/
import Derived.Test.YtajocpalpnpmdaaXFtlCore
import Derived.Test.YtajocpalpnpmdaaXFlash
import Derived.Test.YtajocpalpnpmdaaXIMap
import Derived.Test.YtajocpalpnpmdaaXOpenI
import Derived.Test.YtajocpalpnpmdaaHeatV
import Derived.Test.YtajocpalpnpmdaaQ5
namespace Go.Proofs.Ytajocpalpnpmdaa.Q
open Go.RowKit Go.Proofs.YtajocpalpnpmdaaW.PrintWords Go.Proofs.YtajocpalpnpmdaaW.PrintMore Go.Proofs.YtajocpalpnpmdaaW.PrintLast
set_option linter.unusedVariables false
set_option linter.unusedSimpArgs false
theorem toBelow {w w' : World} (h : Drawn0 w w') : Below w.heap.size w w' := by
  obtain ⟨nn, rfl⟩ := h.out
  exact pw_below_drewN (Below.refl _ _) nn
def ftlI (d b p : Int) (L : List (S92)) (u v z mb mp : Int) (M : List Int) (T : List Bool) (H : List Int) (hn sq : Int) (O X : List Int) (bd po : Int) : Bool :=
  flashB d b p L u v z && (mapB mb mp M T && ((mb == wrap64 (d * b)) && ((mp == p) && (okHeat H hn && (((H.length : Int) == (M.length : Int)) && (decide (1 ≤ sq ∧ sq ≤ 1000001) && (openB O (wrap64 (d * b)) && (((X.length : Int) == wrap64 (d * b)) && (allIn X 0 1000000 && (decide (1 ≤ bd ∧ bd ≤ 100) && decide (1 ≤ po ∧ po ≤ 2)))))))))))
def impl_ValidFTL.f (a0_0 : Int) (a0_1 : Int) (a0_2 : Int) (l0_3 : List (S92)) (a0_4 : Int) (a0_5 : Int) (a0_6 : Bool) (a0_7 : Int) (a0_8 : Int) (a0_9 : Int) (l0_10 : List Int) (l0_11 : List Bool) (l0_12 : List Int) (a0_13 : Int) (a0_14 : Int) (l0_15 : List Int) (l0_16 : List Int) (a0_17 : Int) (a0_18 : Int) : Option Bool := some (ftlI a0_0 a0_1 a0_2 l0_3 a0_4 a0_5 a0_7 a0_8 a0_9 l0_10 l0_11 l0_12 a0_13 a0_14 l0_15 l0_16 a0_17 a0_18)
theorem policyOk_eq (a b : Int) : impl_policyOk.f a b = some (decide (1 ≤ a ∧ a ≤ 100) && decide (1 ≤ b ∧ b ≤ 2)) := by
  unfold impl_policyOk.f
  rw [within_eq, within_eq]
  cases decide (1 ≤ a ∧ a ≤ 100) <;> rfl
theorem impl_ValidFTL.calls (a0_0 : Int) (a0_1 : Int) (a0_2 : Int) (A0_3 : Option Addr) (c0_3 : Nat) (l0_3 : List (S92)) (a0_4 : Int) (a0_5 : Int) (a0_6 : Bool) (a0_7 : Int) (a0_8 : Int) (a0_9 : Int) (A0_10 : Option Addr) (c0_10 : Nat) (l0_10 : List Int) (A0_11 : Option Addr) (c0_11 : Nat) (l0_11 : List Bool) (A0_12 : Option Addr) (c0_12 : Nat) (l0_12 : List Int) (a0_13 : Int) (a0_14 : Int) (A0_15 : Option Addr) (c0_15 : Nat) (l0_15 : List Int) (A0_16 : Option Addr) (c0_16 : Nat) (l0_16 : List Int) (a0_17 : Int) (a0_18 : Int) (r : Bool) (w : World) (hr0_3 : Kd.C k92 w A0_3 l0_3.length l0_3) (hc0_3 : l0_3.length ≤ c0_3) (hr0_10 : Kd.C (Kd.int .i64) w A0_10 l0_10.length l0_10) (hc0_10 : l0_10.length ≤ c0_10) (hr0_11 : Kd.C Kd.bool w A0_11 l0_11.length l0_11) (hc0_11 : l0_11.length ≤ c0_11) (hr0_12 : Kd.C (Kd.int .i64) w A0_12 l0_12.length l0_12) (hc0_12 : l0_12.length ≤ c0_12) (hr0_15 : Kd.C (Kd.int .i64) w A0_15 l0_15.length l0_15) (hc0_15 : l0_15.length ≤ c0_15) (hr0_16 : Kd.C (Kd.int .i64) w A0_16 l0_16.length l0_16) (hc0_16 : l0_16.length ≤ c0_16) (h : impl_ValidFTL.f a0_0 a0_1 a0_2 l0_3 a0_4 a0_5 a0_6 a0_7 a0_8 a0_9 l0_10 l0_11 l0_12 a0_13 a0_14 l0_15 l0_16 a0_17 a0_18 = some r) :
    Calls Try.prog 8 #[.agg #[.int .i64 a0_0, .int .i64 a0_1, .int .i64 a0_2, .slice A0_3 l0_3.length c0_3, .int .i64 a0_4, .int .i64 a0_5, .bool a0_6, .int .i64 a0_7, .int .i64 a0_8, .int .i64 a0_9, .slice A0_10 l0_10.length c0_10, .slice A0_11 l0_11.length c0_11, .slice A0_12 l0_12.length c0_12, .int .i64 a0_13, .int .i64 a0_14, .slice A0_15 l0_15.length c0_15, .slice A0_16 l0_16.length c0_16, .int .i64 a0_17, .int .i64 a0_18]] w fun e w' => e = .returned (.bool r) ∧ Below w.heap.size w w' := by
  have h := Option.some.inj h
  refine ftlI_core a0_0 a0_1 a0_2 A0_3 l0_3.length c0_3 a0_4 a0_5 a0_6 a0_7 a0_8 a0_9 A0_10 l0_10.length c0_10 A0_11 l0_11.length c0_11 A0_12 l0_12.length c0_12 a0_13 a0_14 A0_15 l0_15.length c0_15 A0_16 l0_16.length c0_16 a0_17 a0_18 _ _ _ _ _ _ _ _ _ _ _ r w ?_ ?_ ?_ ?_ ?_ ?_ ?_ ?_ rfl rfl rfl rfl h
  · exact fun W hb => impl_ValidFlash.calls a0_0 a0_1 a0_2 A0_3 c0_3 l0_3 a0_4 a0_5 a0_6 a0_7 _ W (Kd.C_below hr0_3 hb) hc0_3 rfl
  · exact fun W hb => iMap_calls a0_8 a0_9 A0_10 c0_10 l0_10 A0_11 c0_11 l0_11 W (Kd.C_below hr0_10 hb) hc0_10 (Kd.C_below hr0_11 hb) hc0_11
  · exact fun W => impl_Geometry_all.calls a0_0 a0_1 a0_2 _ W rfl
  · exact fun W hb => (impl_ValidHeat.calls A0_12 c0_12 l0_12 a0_13 _ W (Kd.C_below hr0_12 hb) hc0_12 (implHeat_eq _ _))
  · exact fun W => (impl_within.calls a0_14 1 1000001 _ W (within_eq _ _ _)).mono fun e w' ⟨he, hd⟩ => ⟨he, toBelow hd⟩
  · exact fun W hb => impl_FTL_openOk.calls a0_0 a0_1 a0_2 A0_3 c0_3 l0_3 a0_4 a0_5 a0_6 a0_7 a0_8 a0_9 A0_10 c0_10 l0_10 A0_11 c0_11 l0_11 A0_12 c0_12 l0_12 a0_13 a0_14 A0_15 c0_15 l0_15 A0_16 c0_16 l0_16 a0_17 a0_18 _ W (Kd.C_below hr0_3 hb) hc0_3 (Kd.C_below hr0_10 hb) hc0_10 (Kd.C_below hr0_11 hb) hc0_11 (Kd.C_below hr0_12 hb) hc0_12 (Kd.C_below hr0_15 hb) hc0_15 (Kd.C_below hr0_16 hb) hc0_16 rfl
  · exact fun W hb => impl_allWithin.calls A0_16 c0_16 l0_16 0 1000000 _ W (Kd.C_below hr0_16 hb) hc0_16 rfl
  · exact fun W => (impl_policyOk.calls a0_17 a0_18 _ W (policyOk_eq _ _)).mono fun e w' ⟨he, hd⟩ => ⟨he, toBelow hd⟩
end Go.Proofs.Ytajocpalpnpmdaa.Q
