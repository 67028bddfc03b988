/- What NewDevice answers, on both sides. No condition. -/
import Derived.Test.YtaecdlhomihejaaQ2
import Derived.Test.YtaecdlhomihejaaQ3
import Derived.Test.YtaecdlhomihejaaGeoOk
import Derived.Test.YtaecdlhomihejaaInS
import Derived.Test.YtaecdlhomihejaaInOk
namespace Go.Proofs.Ytaecdlhomihejaa.Q
open Go.RowKit Go.Proofs.YtaecdlhomihejaaW.PrintWords
set_option linter.unusedVariables false
def blkZ (p : Int) : S120 := ⟨0, 0, false, List.replicate p.toNat (⟨#[]⟩ : ByteArray)⟩
def dieL (b i : Int) (n : Nat) : List Int := (List.range n).map (fun t : Nat => wrap64 (wrap64 ((t : Int) * b) + i))
def zoneZ (b : Int) (n : Nat) (i : Int) : S132 := ⟨1, dieL b i n, 0, 0, [], []⟩
def zonesL (b : Int) (n i : Nat) : List S132 := (List.range i).map (fun t : Nat => zoneZ b n (t : Int))
theorem rep_snoc {α : Type} (n : Nat) (x : α) : List.replicate n x ++ [x] = List.replicate (n + 1) x := by rw [List.replicate_succ']
theorem dieL_snoc (b i : Int) (n : Nat) : dieL b i n ++ [wrap64 (wrap64 ((n : Int) * b) + i)] = dieL b i (n + 1) := by simp [dieL, List.range_succ]
theorem zonesL_snoc (b : Int) (n i : Nat) : zonesL b n i ++ [zoneZ b n i] = zonesL b n (i + 1) := by simp [zonesL, List.range_succ]
theorem dieL_length (b i : Int) (n : Nat) : (dieL b i n).length = n := by simp [dieL]
theorem zonesL_length (b : Int) (n i : Nat) : (zonesL b n i).length = i := by simp [zonesL]
theorem sNew_loop (d b p : Int) (n : Nat) (hn : wrap64 (d * b) = n) (hs : n ≤ 100) (h0 : 0 ≤ p) (h1 : p ≤ 16) : ∀ j i : Nat, i + j = n →
    Ev (fun k => spec_l06New.l0 k (i : Int) d b p d b p (List.replicate i (blkZ p)) (-1) 0 false 0) (d, b, p, List.replicate n (blkZ p), -1, 0, false, 0)
  | 0, i, hi => by
    obtain rfl : i = n := hi
    refine Ev.step (f := fun _ => some (d, b, p, List.replicate i (blkZ p), -1, 0, false, 0)) (fun k => ?_) (Ev.now _)
    rw [spec_l06New.l0, hn, if_neg (by omega)]
  | j + 1, i, hi => by
    refine Ev.step (fun k => ?_) (sNew_loop d b p n hn hs h0 h1 j (i + 1) (by omega))
    rw [spec_l06New.l0, hn, if_pos (by omega), if_pos h0, if_pos (by omega), if_pos (by rw [List.length_replicate]; omega), wrap64_id (by omega) (by omega), ← rep_snoc]
    rfl
theorem iNew_loop (d b p : Int) (n : Nat) (hs : n ≤ 100) (h0 : 0 ≤ p) (h1 : p ≤ 16) : ∀ j i : Nat, i + j = n →
    Ev (fun k => impl_newFlash.l0 k (n : Int) (i : Int) d b p d b p (List.replicate i (blkZ p)) (-1) 0 false 0) (d, b, p, List.replicate n (blkZ p), -1, 0, false, 0)
  | 0, i, hi => by
    obtain rfl : i = n := hi
    refine Ev.step (f := fun _ => some (d, b, p, List.replicate i (blkZ p), -1, 0, false, 0)) (fun k => ?_) (Ev.now _)
    rw [impl_newFlash.l0, if_neg (by omega)]
  | j + 1, i, hi => by
    refine Ev.step (fun k => ?_) (iNew_loop d b p n hs h0 h1 j (i + 1) (by omega))
    rw [impl_newFlash.l0, if_pos (by omega), if_pos h0, if_pos (by omega), if_pos (by rw [List.length_replicate]; omega), wrap64_id (by omega) (by omega), ← rep_snoc]
    rfl
section
variable (z b c f0 f1 f2 : Int) (fl : List S120) (f4 f5 : Int) (f6 : Bool) (f7 : Int) (n : Nat)
theorem sDie_loop (hn : n ≤ 100) (i : Int) (Zl : List S132) (hz : Zl.length ≤ 100) {R : Int × Int × Int × (List (S120)) × Int × Int × Bool × Int × (List (S132)) × Int}
    (next : Ev (fun k => spec_NewDevice.l0 k z (wrap64 (i + 1)) n b c f0 f1 f2 fl f4 f5 f6 f7 (Zl ++ [zoneZ b n i])) R) : ∀ j t : Nat, t + j = n →
    Ev (fun k => spec_NewDevice.l1 k z i (t : Int) n b c f0 f1 f2 fl f4 f5 f6 f7 Zl 1 (dieL b i t) 0 0) R
  | 0, t, ht => by
    obtain rfl : t = n := ht
    refine Ev.step (fun k => ?_) next
    rw [spec_NewDevice.l1, if_neg (by omega), if_pos (by omega)]
    rfl
  | j + 1, t, ht => by
    refine Ev.step (fun k => ?_) (sDie_loop hn i Zl hz next j (t + 1) (by omega))
    rw [spec_NewDevice.l1, if_pos (by omega), if_pos (by rw [dieL_length]; omega), dieL_snoc, wrap64_id (x := (t : Int) + 1) (by omega) (by omega)]
    rfl
theorem sZone_loop (m : Nat) (hn : n ≤ 100) (hm : m ≤ 100) (hz : z = m) : ∀ j i : Nat, i + j = m →
    Ev (fun k => spec_NewDevice.l0 k z (i : Int) n b c f0 f1 f2 fl f4 f5 f6 f7 (zonesL b n i)) (f0, f1, f2, fl, f4, f5, f6, f7, zonesL b n m, 0)
  | 0, i, hi => by
    obtain rfl : i = m := hi
    refine Ev.step (f := fun _ => some (f0, f1, f2, fl, f4, f5, f6, f7, zonesL b n i, 0)) (fun k => ?_) (Ev.now _)
    rw [spec_NewDevice.l0, if_neg (by omega)]
  | j + 1, i, hi => by
    have p := sZone_loop m hn hm hz j (i + 1) (by omega)
    rw [← zonesL_snoc, show ((i + 1 : Nat) : Int) = wrap64 ((i : Int) + 1) from by rw [wrap64_id (by omega) (by omega)]; rfl] at p
    refine Ev.step (fun k => ?_) (sDie_loop z b c f0 f1 f2 fl f4 f5 f6 f7 n hn (i : Int) (zonesL b n i) (by rw [zonesL_length]; omega) p n 0 (by omega))
    rw [spec_NewDevice.l0, if_pos (by omega)]
    rfl
theorem iDie_loop (hn : n ≤ 100) (i : Int) (Zl : List S132) (hz : Zl.length ≤ 100) {R : Int × Int × Int × (List (S120)) × Int × Int × Bool × Int × (List (S132))}
    (next : Ev (fun k => impl_newDevice.l0 k z (wrap64 (i + 1)) n b c f0 f1 f2 fl f4 f5 f6 f7 (Zl ++ [zoneZ b n i])) R) : ∀ j t : Nat, t + j = n →
    Ev (fun k => impl_newDevice.l1 k i z i n (t : Int) n b c f0 f1 f2 fl f4 f5 f6 f7 Zl 1 (dieL b i t) 0 0) R
  | 0, t, ht => by
    obtain rfl : t = n := ht
    refine Ev.step (fun k => ?_) next
    rw [impl_newDevice.l1, if_neg (by omega), if_pos (by omega)]
    rfl
  | j + 1, t, ht => by
    refine Ev.step (fun k => ?_) (iDie_loop hn i Zl hz next j (t + 1) (by omega))
    rw [impl_newDevice.l1, if_pos (by omega), if_pos (by rw [dieL_length]; omega), dieL_snoc, wrap64_id (x := (t : Int) + 1) (by omega) (by omega)]
    rfl
theorem iZone_loop (m : Nat) (hn : n ≤ 100) (hm : m ≤ 100) (hz : z = m) : ∀ j i : Nat, i + j = m →
    Ev (fun k => impl_newDevice.l0 k z (i : Int) n b c f0 f1 f2 fl f4 f5 f6 f7 (zonesL b n i)) (f0, f1, f2, fl, f4, f5, f6, f7, zonesL b n m)
  | 0, i, hi => by
    obtain rfl : i = m := hi
    refine Ev.step (f := fun _ => some (f0, f1, f2, fl, f4, f5, f6, f7, zonesL b n i)) (fun k => ?_) (Ev.now _)
    rw [impl_newDevice.l0, if_neg (by omega)]
  | j + 1, i, hi => by
    have p := iZone_loop m hn hm hz j (i + 1) (by omega)
    rw [← zonesL_snoc, show ((i + 1 : Nat) : Int) = wrap64 ((i : Int) + 1) from by rw [wrap64_id (by omega) (by omega)]; rfl] at p
    refine Ev.step (fun k => ?_) (iDie_loop z b c f0 f1 f2 fl f4 f5 f6 f7 n hn (i : Int) (zonesL b n i) (by rw [zonesL_length]; omega) p n 0 (by omega))
    rw [impl_newDevice.l0, if_pos (by omega)]
    rfl
end
def okZones (b z : Int) : Bool := decide (1 ≤ z ∧ z ≤ mn 12 b)
theorem specZones_eq (a b c z : Int) : spec_l16Zones.f a b c z = some (okZones b z) := by
  unfold spec_l16Zones.f okZones spec_l00Min.f mn
  by_cases h : (12 : Int) < b
  · rw [if_pos h, if_neg (by omega), Option.bind_some, l00In_eq]; rfl
  · rw [if_neg h, Option.bind_some, l00In_eq]
    by_cases h2 : b < 12
    · rw [if_pos h2]; rfl
    · rw [if_neg h2, show b = 12 from by omega]; rfl
theorem implZones_eq (a b c z : Int) : impl_zonesOk.f a b c z = some (okZones b z) := by
  unfold impl_zonesOk.f okZones
  rw [within_eq]; rfl
theorem newDev_ev (g0 g1 g2 z : Int) : ∃ d0 d1 d2 L d4 d5 d6 d7 Z cd, Ev (fun k => spec_NewDevice.f k g0 g1 g2 z) (d0, d1, d2, L, d4, d5, d6, d7, Z, cd) ∧ Ev (fun k => impl_NewDevice.f k g0 g1 g2 z) (d0, d1, d2, L, d4, d5, d6, d7, Z, cd) ∧
    L.length ≤ 100 ∧ (∀ x ∈ L, x.f3.length ≤ 16) ∧ Z.length ≤ 100 ∧ (∀ x ∈ Z, x.f1.length ≤ 3 ∧ x.f4 = [] ∧ x.f5 = []) := by
  by_cases h : okGeo g0 g1 g2 = true
  · by_cases hz : okZones g1 z = true
    · have hg : (2 ≤ g0 ∧ g0 ≤ 3) ∧ (4 ≤ g1 ∧ g1 ≤ 12) ∧ (g2 = 8 ∨ g2 = 16) := by simpa [okGeo] using h
      have hzz : 1 ≤ z ∧ z ≤ mn 12 g1 := by simpa [okZones] using hz
      have hz2 : z ≤ 12 := by have := hzz.2; unfold mn at this; split at this <;> omega
      obtain ⟨n, rfl⟩ : ∃ n : Nat, g0 = n := ⟨g0.toNat, by omega⟩
      obtain ⟨m, rfl⟩ : ∃ m : Nat, z = m := ⟨z.toNat, by omega⟩
      obtain ⟨b, rfl⟩ : ∃ b : Nat, g1 = b := ⟨g1.toNat, by omega⟩
      have hnb : n * b ≤ 36 := Nat.le_trans (Nat.mul_le_mul (show n ≤ 3 by omega) (show b ≤ 12 by omega)) (by decide)
      have hw : wrap64 ((n : Int) * (b : Int)) = ((n * b : Nat) : Int) := by rw [← Int.natCast_mul, wrap64_id (by omega) (by omega)]
      have s1 := sNew_loop n b g2 (n * b) hw (by omega) (by omega) (by omega) (n * b) 0 (by omega)
      have i1 := iNew_loop n b g2 (n * b) (by omega) (by omega) (by omega) (n * b) 0 (by omega)
      refine ⟨n, b, g2, List.replicate (n * b) (blkZ g2), -1, 0, false, 0, zonesL b n m, 0, ?_, ?_, by rw [List.length_replicate]; omega, ?_, by rw [zonesL_length]; omega, ?_⟩
      · unfold spec_NewDevice.f
        rw [specGeo_eq, h, specZones_eq, hz]
        refine Ev.bind1 rfl (Ev.if_pos rfl (Ev.bind1 rfl (Ev.if_pos rfl (Ev.bind (a := ((n : Int), (b : Int), g2, List.replicate (n * b) (blkZ g2), -1, 0, false, 0)) s1 ?_))))
        exact sZone_loop m b g2 n b g2 (List.replicate (n * b) (blkZ g2)) (-1) 0 false 0 n m (by omega) (by omega) rfl m 0 (by omega)
      · unfold impl_NewDevice.f
        rw [implGeo_eq, h, implZones_eq, hz]
        refine Ev.bind1 rfl (Ev.if_pos rfl (Ev.bind1 rfl (Ev.if_pos rfl (Ev.bind (a := ((n : Int), (b : Int), g2, List.replicate (n * b) (blkZ g2), -1, 0, false, 0, zonesL b n m)) ?_ (Ev.now _)))))
        unfold impl_newDevice.f
        refine Ev.bind (a := ((n : Int), (b : Int), g2, List.replicate (n * b) (blkZ g2), -1, 0, false, 0)) ?_ ?_
        · unfold impl_newFlash.f impl_Geometry_all.f
          exact Ev.bind1 rfl (by rw [hw]; exact i1)
        · exact iZone_loop m b g2 n b g2 (List.replicate (n * b) (blkZ g2)) (-1) 0 false 0 n m (by omega) (by omega) rfl m 0 (by omega)
      · intro x hx
        rw [List.eq_of_mem_replicate hx]
        simp only [blkZ, List.length_replicate]
        omega
      · intro x hx
        obtain ⟨t, _, rfl⟩ := List.mem_map.1 hx
        exact ⟨by show (dieL _ _ _).length ≤ 3; rw [dieL_length]; omega, rfl, rfl⟩
    · refine ⟨0, 0, 0, [], 0, 0, false, 0, [], 2, ?_, ?_, by simp, by simp, by simp, by simp⟩
      · unfold spec_NewDevice.f
        rw [specGeo_eq, h, specZones_eq]
        exact Ev.bind1 rfl (Ev.if_pos rfl (Ev.bind1 rfl (Ev.if_neg hz (Ev.now _))))
      · unfold impl_NewDevice.f
        rw [implGeo_eq, h, implZones_eq]
        exact Ev.bind1 rfl (Ev.if_pos rfl (Ev.bind1 rfl (Ev.if_neg hz (Ev.now _))))
  · refine ⟨0, 0, 0, [], 0, 0, false, 0, [], 1, ?_, ?_, by simp, by simp, by simp, by simp⟩
    · unfold spec_NewDevice.f
      rw [specGeo_eq]
      exact Ev.bind1 rfl (Ev.if_neg h (Ev.now _))
    · unfold impl_NewDevice.f
      rw [implGeo_eq]
      exact Ev.bind1 rfl (Ev.if_neg h (Ev.now _))
end Go.Proofs.Ytaecdlhomihejaa.Q
