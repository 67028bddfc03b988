/- The contract of the program's ScanMem. Conditions: those before each theorem. -/
import Derived.Test.YtolffokfddjceaaQ10
import Derived.Test.YtolffokfddjceaaQ7
import Derived.Test.YtolffokfddjceaaXCloneR
import Derived.Test.YtolffokfddjceaaXDelR
namespace Go.Proofs.Ytolffokfddjceaa.Q
open Go.RowKit Go.Proofs.YtolffokfddjceaaW.PrintWords Go.Proofs.YtolffokfddjceaaW.PrintMore
set_option linter.unusedVariables false
theorem max_str (ats : Array TypeId) (ty : TypeId) (a b : ByteArray) : Builtin.max_ ats ty #[.string a, .string b] = pure (.string (if Op.bytesLess a.toList b.toList = true then b else a)) := by
  cases h : Op.bytesLess a.toList b.toList <;> simp [Builtin.max_, Builtin.max2, Op.stringOp, h, asBool]
attribute [go_sem] max_str
def mxS (a b : ByteArray) : ByteArray := if Op.bytesLess a.toList b.toList = true then b else a
def affIn (x : S26) (low high : ByteArray) : Bool :=
  if x.f2 = 3 then (Op.bytesLess (mxS x.f0 low).toList x.f4.toList && (high.toList == [] || Op.bytesLess (mxS x.f0 low).toList high.toList))
  else (!Op.bytesLess x.f0.toList low.toList && (high.toList == [] || Op.bytesLess x.f0.toList high.toList))
set_option maxHeartbeats 1000000 in
theorem affIn_calls (x : S26) (low high : ByteArray) (W : World) :
    Calls Try.prog 77 #[.agg #[.string x.f0, .int .i64 x.f1, .int .i64 x.f2, .string x.f3, .string x.f4], .string low, .string high] W fun e w' => e = .returned (.bool (affIn x low high)) ∧ Below W.heap.size W w' := by
  obtain ⟨a0, a1, a2, a3, a4⟩ := x
  by_cases c3 : a2 = 3
  · subst c3
    have HB : Aside0 (Below W.heap.size W (W.alloc (.cells #[.string a0, .int .i64 a1, .int .i64 3, .string a3, .string a4] 26))) := ⟨(Below.refl _ _).alloc (Nat.le_refl _) _⟩
    go_enter Try.func77, Try.ntmps77
    go_wp2
    all_goals
      go_ret
      exact ⟨by simp [affIn, mxS, *], HB.out⟩
  · have HB : Aside0 (Below W.heap.size W (W.alloc (.cells #[.string a0, .int .i64 a1, .int .i64 a2, .string a3, .string a4] 26))) := ⟨(Below.refl _ _).alloc (Nat.le_refl _) _⟩
    go_enter Try.func77, Try.ntmps77
    go_wp2
    all_goals
      go_ret
      exact ⟨by simp [affIn, *], HB.out⟩
set_option maxHeartbeats 1000000 in
theorem scan_pred (x : S26) (B B2 : Nat) (low high : ByteArray) (W : World) (hc : W.cell? ⟨B, 0, none⟩ = some (.string low)) (hd : W.cell? ⟨B2, 0, none⟩ = some (.string high)) :
    Calls Try.prog 76 #[.agg #[.string x.f0, .int .i64 x.f1, .int .i64 x.f2, .string x.f3, .string x.f4], .pointer (some ⟨B, 0, none⟩), .pointer (some ⟨B2, 0, none⟩)] W fun e w' => e = .returned (.bool (!affIn x low high)) ∧ Below W.heap.size W w' := by
  have hB : Below W.heap.size W (W.alloc (.cells #[.string x.f0, .int .i64 x.f1, .int .i64 x.f2, .string x.f3, .string x.f4] 26)) := (Below.refl _ _).alloc (Nat.le_refl _) _
  have hc2 := (hB.cell (p := ⟨B, 0, none⟩) (World.block_lt_of_cell? W _ hc)).trans hc
  have hd2 := (hB.cell (p := ⟨B2, 0, none⟩) (World.block_lt_of_cell? W _ hd)).trans hd
  have HB := Aside0.mk hB
  have hcall := affIn_calls x low high (W.alloc (.cells #[.string x.f0, .int .i64 x.f1, .int .i64 x.f2, .string x.f3, .string x.f4] 26))
  clear hB hc hd
  generalize affIn x low high = t at hcall ⊢
  go_enter Try.func76, Try.ntmps76
  go_wp2_with (go_at_call 77; refine hcall.mono ?_; rintro e w1 ⟨rfl, hb1⟩)
  go_ret
  exact ⟨rfl, HB.out.trans (hb1.mono HB.out.size)⟩
def impl_ScanMem.f (l0 : List S26) (a1 a2 : ByteArray) : Option (List S26 × Int) := (impl_ValidMem.f l0).bind fun t => if t = true then ((impl_boundsOk.f a1 a2).bind fun u => if u = true then (if l0.length < 2199023255552 then some (l0.filter (fun x => !(!affIn x a1 a2)), 0) else none) else some ([], 2)) else some ([], 1)
set_option maxHeartbeats 4000000 in
theorem impl_ScanMem.calls (A0 : Option Addr) (c0 : Nat) (l0 : List S26) (a1 a2 : ByteArray) (r1 : List S26) (r2 : Int) (w : World) (hr0 : Kd.C k26 w A0 l0.length l0) (hc0 : l0.length ≤ c0) (h : impl_ScanMem.f l0 a1 a2 = some (r1, r2)) :
    Calls Try.prog 46 #[.slice A0 l0.length c0, .string a1, .string a2] w fun e w' => ∃ v0_ : Value, e = .returned (.tuple #[v0_, .int .i64 r2]) ∧ Kd.R k26 26 w' w.heap.size (fun _ => True) v0_ r1 ∧ Below w.heap.size w w' := by
  obtain ⟨b, h1, h2⟩ := Option.bind_eq_some_iff.1 h
  have hB : Below w.heap.size w ((w.alloc (.cells #[.string a1] 9)).alloc (.cells #[.string a2] 9)) := ((Below.refl _ _).alloc (Nat.le_refl _) _).alloc (by simp) _
  have hvm := impl_ValidMem.calls A0 c0 l0 b ((w.alloc (.cells #[.string a1] 9)).alloc (.cells #[.string a2] 9)) (Kd.C_below hr0 hB) hc0 h1
  have HB := Aside0.mk hB
  have HBK : Aside0 (((w.alloc (.cells #[.string a1] 9)).alloc (.cells #[.string a2] 9)).cell? ⟨w.heap.size, 0, none⟩ = some (.string a1) ∧ ((w.alloc (.cells #[.string a1] 9)).alloc (.cells #[.string a2] 9)).cell? ⟨w.heap.size + 1, 0, none⟩ = some (.string a2)) := ⟨by
    constructor
    · simp
    · have := blk_new (w.alloc (.cells #[.string a1] 9)) (.cells #[.string a2] 9)
      simp at this
      rw [World.cell?]
      simp [this]⟩
  cases b with
  | false =>
    rw [if_neg (by decide)] at h2
    obtain ⟨rfl, rfl⟩ := Prod.mk.inj (Option.some.inj h2)
    clear h2 h1 h hB hr0
    go_enter Try.func46, Try.ntmps46
    go_wp2_with (go_at_call 34; refine hvm.mono ?_; rintro e w1 ⟨rfl, hb1⟩; have HB1 := Aside0.mk (HB.out.trans (hb1.mono HB.out.size)); have k1 := (hb1.cell (p := ⟨w.heap.size, 0, none⟩) (World.block_lt_of_cell? _ _ HBK.out.1)).trans HBK.out.1; have k2 := (hb1.cell (p := ⟨w.heap.size + 1, 0, none⟩) (World.block_lt_of_cell? _ _ HBK.out.2)).trans HBK.out.2; clear hb1)
    go_ret2
    exact ⟨_, rfl, Kd.R_nil _ _ _ _ _, HB1.out⟩
  | true =>
    rw [if_pos rfl] at h2
    obtain ⟨b2, h3, h4⟩ := Option.bind_eq_some_iff.1 h2
    have HBO : Aside0 (∀ W, Calls Try.prog 75 #[.string a1, .string a2] W fun e w' => e = .returned (.bool b2) ∧ Below W.heap.size W w') := ⟨fun W => (impl_boundsOk.calls a1 a2 b2 W h3).mono fun e w' ⟨he, hd⟩ => ⟨he, hd.below⟩⟩
    cases b2 with
    | false =>
      rw [if_neg (by decide)] at h4
      obtain ⟨rfl, rfl⟩ := Prod.mk.inj (Option.some.inj h4)
      clear h2 h1 h h4 hB hr0 h3
      go_enter Try.func46, Try.ntmps46
      go_wp2_with (first | (go_at_call 34; refine hvm.mono ?_; rintro e w1 ⟨rfl, hb1⟩; have HB1 := Aside0.mk (HB.out.trans (hb1.mono HB.out.size)); have k1 := (hb1.cell (p := ⟨w.heap.size, 0, none⟩) (World.block_lt_of_cell? _ _ HBK.out.1)).trans HBK.out.1; have k2 := (hb1.cell (p := ⟨w.heap.size + 1, 0, none⟩) (World.block_lt_of_cell? _ _ HBK.out.2)).trans HBK.out.2; clear hb1) | (go_at_call 75; refine (HBO.out _).mono ?_; rintro e w2 ⟨rfl, hb2⟩))
      go_ret2
      exact ⟨_, rfl, Kd.R_nil _ _ _ _ _, HB1.out.trans (hb2.mono HB1.out.size)⟩
    | true =>
      rw [if_pos rfl] at h4
      by_cases hl : l0.length < 2199023255552
      · rw [if_pos hl] at h4
        obtain ⟨rfl, rfl⟩ := Prod.mk.inj (Option.some.inj h4)
        have HC : Aside0 (∀ w1, Below w.heap.size w w1 → Calls Try.prog 70 #[.slice A0 l0.length c0] w1 fun e w' => ∃ v0_ : Value, e = .returned (v0_) ∧ Kd.R k26 26 w' w1.heap.size (fun _ => True) v0_ l0 ∧ Below w1.heap.size w1 w') := ⟨fun w1 hb => slices_Clone_Record.calls A0 c0 l0 l0 w1 (Kd.C_below hr0 hb) hc0 (if_pos hl)⟩
        have HD : Aside0 (∀ (w1 w2 : World) (A : Option Addr) (c : Nat), w1.cell? ⟨w.heap.size, 0, none⟩ = some (.string a1) → w1.cell? ⟨w.heap.size + 1, 0, none⟩ = some (.string a2) → Below w1.heap.size w1 w2 → Kd.R k26 26 w2 w1.heap.size (fun _ => True) (.slice A l0.length c) l0 →
            Calls Try.prog 69 #[.slice A l0.length c, .func (.func 76) #[] #[.pointer (some ⟨w.heap.size, 0, none⟩), .pointer (some ⟨w.heap.size + 1, 0, none⟩)]] w2 fun e w' => ∃ v, e = .returned v ∧ Kd.R k26 26 w' w1.heap.size (fun _ => True) v (l0.filter fun x => !(!affIn x a1 a2)) ∧ Below w1.heap.size w1 w') := ⟨by
          intro w1 w2 A c hcell hcell2 hb hr
          have hlt := World.block_lt_of_cell? w1 _ hcell
          have hlt2 := World.block_lt_of_cell? w1 _ hcell2
          refine delR_calls A c l0 w1 w2 w1.heap.size _ hr hb hb.size 76 #[.pointer (some ⟨w.heap.size, 0, none⟩), .pointer (some ⟨w.heap.size + 1, 0, none⟩)] (fun x => !affIn x a1 a2) (enters_of Try.func76 (by kernel_rfl) rfl) (fun W x _ hs hh => ?_)
          have h0 : W.heap[w.heap.size]? = w2.heap[w.heap.size]? := hh _ (Nat.lt_of_lt_of_le hlt hb.size) (fun e => by have := Kd.R_base hr _ e.symm; exact absurd hlt (by show ¬ w.heap.size < _; omega))
          have h1 : W.heap[w.heap.size + 1]? = w2.heap[w.heap.size + 1]? := hh _ (Nat.lt_of_lt_of_le hlt2 hb.size) (fun e => by have := Kd.R_base hr _ e.symm; exact absurd hlt2 (by show ¬ w.heap.size + 1 < _; omega))
          refine scan_pred x w.heap.size (w.heap.size + 1) a1 a2 W ?_ ?_
          · exact ((World.cell?_of_block (a := ⟨w.heap.size, 0, none⟩) h0).trans (hb.cell (p := ⟨w.heap.size, 0, none⟩) hlt)).trans hcell
          · exact ((World.cell?_of_block (a := ⟨w.heap.size + 1, 0, none⟩) h1).trans (hb.cell (p := ⟨w.heap.size + 1, 0, none⟩) hlt2)).trans hcell2⟩
        clear h2 h1 h hB hr0 hl h3 h4
        generalize l0.filter (fun x => !(!affIn x a1 a2)) = rr at HD ⊢
        go_enter Try.func46, Try.ntmps46
        go_wp2_with (first | (go_at_call 34; refine hvm.mono ?_; rintro e w1 ⟨rfl, hb1⟩; have HB1 := Aside0.mk (HB.out.trans (hb1.mono HB.out.size)); have k1 := (hb1.cell (p := ⟨w.heap.size, 0, none⟩) (World.block_lt_of_cell? _ _ HBK.out.1)).trans HBK.out.1; have k2 := (hb1.cell (p := ⟨w.heap.size + 1, 0, none⟩) (World.block_lt_of_cell? _ _ HBK.out.2)).trans HBK.out.2; clear hb1) | (go_at_call 75; refine (HBO.out _).mono ?_; rintro e w2 ⟨rfl, hb2⟩; have HB2 := Aside0.mk (HB1.out.trans (hb2.mono HB1.out.size)); have m1 := (hb2.cell (p := ⟨w.heap.size, 0, none⟩) (World.block_lt_of_cell? _ _ k1)).trans k1; have m2 := (hb2.cell (p := ⟨w.heap.size + 1, 0, none⟩) (World.block_lt_of_cell? _ _ k2)).trans k2; clear hb2 k1 k2) | (go_at_call 70; refine (HC.out _ HB2.out).mono ?_; rintro e w3 ⟨v, rfl, hv, hb3⟩; obtain ⟨A, c, rfl⟩ := Kd.R_slice hv; have hd := HD.out _ w3 A c m1 m2 hb3 hv; clear hv hb3 m1 m2) | (go_at_call 69; refine hd.mono ?_; rintro e w4 ⟨v4, rfl, hv4, hb4⟩; have HV4 := Aside0.mk hv4; have HB4 := Aside0.mk hb4; clear hv4 hb4 hd))
        go_ret2
        exact ⟨_, rfl, Kd.R_lower HV4.out HB2.out.size, HB2.out.trans (HB4.out.mono HB2.out.size)⟩
      · rw [if_neg hl] at h4
        cases h4
end Go.Proofs.Ytolffokfddjceaa.Q
