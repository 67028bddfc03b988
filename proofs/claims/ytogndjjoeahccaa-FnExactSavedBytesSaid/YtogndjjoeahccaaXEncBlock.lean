/- The contract of the program's encodeBlock. Conditions: those before each theorem. -/
import Derived.Test.YtogndjjoeahccaaQ8
import Derived.Test.YtogndjjoeahccaaEncB
import Derived.Test.YtogndjjoeahccaaXBuilder
import Derived.Deep.RegionHeld3
import Derived.Deep.RegionWith
import Derived.Deep.DeepCutAuto
namespace Go.Proofs.Ytogndjjoeahccaa.Q
open Go.RowKit Go.Proofs.YtogndjjoeahccaaW.PrintWords Go.Proofs.YtogndjjoeahccaaW.PrintMore Go.Proofs.YtogndjjoeahccaaW.PrintLast
set_option linter.unusedVariables false
theorem below_chain2 {g : Nat} {wr W W' : World} (hg : wr.heap.size = g) (h : Aside0 (Below g wr W)) (hb : Below W.heap.size W W') : Aside0 (Below g wr W') := ⟨h.out.trans (hb.mono (by rw [← hg]; exact h.out.size))⟩
theorem fixed_calls (n : Int) (s : Nat) (hs : s ≤ 8) (w : World) : Calls Try.prog 71 #[.int .i64 n, .int .i64 (s : Int)] w fun e w' => e = .returned (.string (fixB n s)) ∧ Below w.heap.size w w' := by
  obtain ⟨K, h⟩ := fixed_ev n s hs
  exact impl_fixed.calls K n (s : Int) _ w (h K (Nat.le_refl _))
theorem other_calls (x : S49) (w : World) : Calls Try.prog 73 #[.agg #[.string x.f0, .int .i64 x.f1, .int .i64 x.f2, .string x.f3, .string x.f4]] w fun e w' => e = .returned (.string (dataX x)) ∧ Below w.heap.size w w' := by
  refine impl_Record_other.calls x.f0 x.f1 x.f2 x.f3 x.f4 _ w ?_
  unfold impl_Record_other.f dataX
  by_cases h : x.f2 = 3
  · rw [if_pos h, if_pos h]
  · rw [if_neg h, if_neg h]
theorem len_calls (B b : Nat) (p v : Value) (l : List UInt8) (w : World) (h : BX B b p v l w) :
    Calls Try.prog 72 #[.pointer (some ⟨b, 0, none⟩)] w fun e w' => e = .returned (.int .i64 l.length) ∧ w' = w := by
  obtain ⟨hbk, hown, hne⟩ := h
  obtain ⟨ao, cap, rfl⟩ : ∃ ao cap, v = .slice ao l.length cap := by
    rcases hown.2 with ⟨hv, h0⟩ | ⟨g, cap, cur, hv, _⟩
    · exact ⟨none, 0, by rw [hv, h0]⟩
    · exact ⟨_, _, hv⟩
  have c1 : w.cell? ⟨b, 1, none⟩ = some (.slice ao l.length cap) := by rw [Lib.cell_of_heap hbk]; rfl
  clear hbk hown hne
  go_enter Try.func72, Try.ntmps72
  go_wp2
  go_ret
  exact ⟨rfl, rfl⟩
def apartV (u v : Value) : Prop := ∀ k, u.ownBlock = some k → v.ownBlock ≠ some k
theorem apart_grown {u u' v : Value} {w : World} (h : apartV u v) (hu : u'.ownBlock = u.ownBlock ∨ u'.ownBlock = some w.heap.size) (hv : ∀ k, v.ownBlock = some k → k < w.heap.size) : apartV u' v := by
  intro k hk
  rcases hu with e | e
  · exact h k (e ▸ hk)
  · intro hvk
    have := hv k hvk
    rw [hk] at e
    injection e with e
    omega
theorem apart_symm {u v : Value} (h : apartV u v) : apartV v u := fun k hk he => h k he hk
theorem write2_calls (g b b2 : Nat) (p v p2 v2 : Value) (l l2 : List UInt8) (s : ByteArray) (w : World) (hp : p = .pointer none ∨ p = .pointer (some ⟨b, 0, none⟩)) (h : BX g b p v l w) (h2 : BX g b2 p2 v2 l2 w) (hne : b ≠ b2) (ha : apartV v v2) (hB : g ≤ b) (hlen : l.length + s.size ≤ 140737488355328) :
    Calls Try.prog 70 #[.pointer (some ⟨b, 0, none⟩), .string s] w fun e w' => e = .returned (.tuple #[.int .i64 s.size, .nilIface]) ∧ ∃ v', BX g b (.pointer (some ⟨b, 0, none⟩)) v' (l ++ s.data.toList) w' ∧ BX g b2 p2 v2 l2 w' ∧ Below g w w' ∧ apartV v' v2 ∧ (∀ k, k < w.heap.size → k ≠ b → some k ≠ v.ownBlock → w'.heap[k]? = w.heap[k]?) := by
  have hlt := blk_lt h.1
  have hlt2 := blk_lt h2.1
  refine (write_calls g b p v l s w hp h hB hlen (by omega)).mono ?_
  rintro e w' ⟨he, v', hx, hb, hk, hw⟩
  have hne2 := Lib.ownBlock_ne h.2.1 h2.1 (by decide : 84 ≠ 5)
  have hne3 := Lib.ownBlock_ne h2.2.1 h.1 (by decide : 84 ≠ 5)
  refine ⟨he, v', hx, BX_keep h2 (fun k hk2 => ?_), hb, apart_grown ha hw (fun k hk2 => own_lt h2.2.1 k hk2), hk⟩
  rcases hk2 with rfl | hk2
  · exact hk _ hlt2 (Ne.symm hne) (Ne.symm hne2)
  · refine hk _ (own_lt h2.2.1 k hk2.symm) (fun e => hne3 (by rw [← hk2, e])) (fun e => ?_)
    exact ha k e.symm hk2.symm
def impl_encodeBlock.f (l : List S49) : Option ByteArray := if 1 ≤ l.length ∧ l.length ≤ 1000 then (if (l.all shortE) = true then some (encB l) else none) else none
set_option linter.unusedSimpArgs false in
set_option maxHeartbeats 8000000 in
set_option maxRecDepth 100000 in
theorem impl_encodeBlock.calls (A0 : Option Addr) (c0 : Nat) (l0 : List S49) (r : ByteArray) (w : World) (hr0 : Kd.C k49 w A0 l0.length l0) (hc0 : l0.length ≤ c0) (h : impl_encodeBlock.f l0 = some r) :
    Calls Try.prog 47 #[.slice A0 l0.length c0] w fun e w' => e = .returned (.string r) ∧ Below w.heap.size w w' := by
  unfold impl_encodeBlock.f at h
  by_cases hl : 1 ≤ l0.length ∧ l0.length ≤ 1000
  · rw [if_pos hl] at h
    by_cases ha : (l0.all shortE) = true
    · rw [if_pos ha] at h
      obtain rfl := Option.some.inj h
      obtain ⟨hl1, hl2⟩ := hl
      have HR := Aside0.mk hr0
      have HA := Aside0.mk (short_all l0 ha)
      have HB0 : Aside0 (Below w.heap.size w ((w.alloc (.cells #[.pointer none, .slice none 0 0] 84)).alloc (.cells #[.pointer none, .slice none 0 0] 84))) := ⟨((Below.refl _ _).alloc (Nat.le_refl _) _).alloc (by simp) _⟩
      have HX0 : Aside0 (BX w.heap.size w.heap.size (.pointer none) (.slice none 0 0) (bodyB l0 0) ((w.alloc (.cells #[.pointer none, .slice none 0 0] 84)).alloc (.cells #[.pointer none, .slice none 0 0] 84))) := ⟨⟨(Below.block (((Below.refl _ _).alloc (Nat.le_refl _) _ : Below (w.alloc (.cells #[.pointer none, .slice none 0 0] 84)).heap.size (w.alloc (.cells #[.pointer none, .slice none 0 0] 84)) _)) _ (by simp)).trans (blk_new _ _), World.ownsRow_nil _ _ _ _, by simp [Value.ownBlock]⟩⟩
      have HY0 : Aside0 (BX w.heap.size (w.heap.size + 1) (.pointer none) (.slice none 0 0) (offB l0 0) ((w.alloc (.cells #[.pointer none, .slice none 0 0] 84)).alloc (.cells #[.pointer none, .slice none 0 0] 84))) := ⟨⟨by have := blk_new (w.alloc (.cells #[.pointer none, .slice none 0 0] 84)) (.cells #[.pointer none, .slice none 0 0] 84); simpa using this, World.ownsRow_nil _ _ _ _, by simp [Value.ownBlock]⟩⟩
      have HAP0 : Aside0 (apartV (.slice none 0 0) (.slice none 0 0)) := ⟨fun k hk => by simp [Value.ownBlock] at hk⟩
      clear h hr0 ha
      go_enter Try.func47, Try.ntmps47
      go_wp2
      go_loopg [5, 6, 7, 8, 11] l0.length (fun gg s5 _ _ _ s11 wr => ∃ (kk rc : Nat) (p1 v1 p2 v2 : Value), s5 = .int .i64 (rc : Int) ∧ s11 = .int .i64 (kk : Int) ∧ rc = (kk + 3) / 4 ∧ kk ≤ l0.length ∧ l0.length - kk ≤ gg ∧ Aside0 (p1 = .pointer none ∨ p1 = .pointer (some ⟨w.heap.size, 0, none⟩)) ∧ Aside0 (p2 = .pointer none ∨ p2 = .pointer (some ⟨w.heap.size + 1, 0, none⟩)) ∧ Aside0 (BX w.heap.size w.heap.size p1 v1 (bodyB l0 kk) wr) ∧ Aside0 (BX w.heap.size (w.heap.size + 1) p2 v2 (offB l0 kk) wr) ∧ Aside0 (apartV v1 v2) ∧ Aside0 (Below w.heap.size w wr))
      case atStart => exact ⟨0, 0, _, _, _, _, rfl, rfl, rfl, Nat.zero_le _, by omega, ⟨.inl rfl⟩, ⟨.inl rfl⟩, HX0, HY0, HAP0, HB0⟩
      case round =>
        obtain ⟨kk, rc, p1, v1, p2, v2, rfl, rfl, hrc, hkk, hg, HP1, HP2, HX, HY, HAP, HB⟩ := hrel
        by_cases hlt : kk < l0.length
        · have hlti : (kk : Int) < (l0.length : Int) := by omega
          obtain ⟨ad, hA, e0, e1, e2, e3, e4⟩ := at_T49 (Kd.C_below HR.out HB.out) (kk : Int) (by omega) (by omega)
          subst hA
          rw [Int.toNat_natCast] at e0 e1 e2 e3 e4
          have HBL := Aside0.mk (body_len l0 HA.out kk)
          have HOL := Aside0.mk (off_len l0 kk)
          have HNS := Aside0.mk (nSh_le l0 kk HA.out)
          have HSX := Aside0.mk (of_decide_eq_true (HA.out (kk : Int)))
          have HES := Aside0.mk (entB_size l0 kk HA.out)
          have HRD : Aside0 (rd_T49 l0 (kk : Int) = rd_T49 l0 (kk : Int)) := ⟨rfl⟩
          generalize hx : rd_T49 l0 (kk : Int) = x at e0 e1 e2 e3 e4 HNS HSX
          have HX_ := Aside0.mk hx
          clear hx HRD
          have HBN : Aside0 ((wr.alloc (.cells #[.string x.f0, .int .i64 x.f1, .int .i64 x.f2, .string x.f3, .string x.f4] 49)).heap[wr.heap.size]? = some (.cells #[.string x.f0, .int .i64 x.f1, .int .i64 x.f2, .string x.f3, .string x.f4] 49 (0, 0))) := ⟨blk_new wr _⟩
          have HB5 : Aside0 (Below wr.heap.size wr (wr.alloc (.cells #[.string x.f0, .int .i64 x.f1, .int .i64 x.f2, .string x.f3, .string x.f4] 49))) := ⟨(Below.refl _ wr).alloc (Nat.le_refl _) _⟩
          have hrb : rc ≤ 300 := by omega
          have HRQ := Aside0.mk hrc
          clear hrc
          have HX5 := Aside0.mk (BX_below HX.out HB5.out)
          have HY5 := Aside0.mk (BX_below HY.out HB5.out)
          have HBW5 := Aside0.mk (HB.out.trans (HB5.out.mono HB.out.size))
          go_upto_if 18 with fail
          go_cut [5, 8] (fun s5 s8 wx => ∃ (p3 v3 : Value), s5 = .int .i64 (((kk + 1 + 3) / 4 : Nat) : Int) ∧ s8 = .int .i64 ((nSh l0 kk : Nat) : Int) ∧ Aside0 (p3 = .pointer none ∨ p3 = .pointer (some ⟨w.heap.size + 1, 0, none⟩)) ∧ Aside0 (BX w.heap.size w.heap.size p1 v1 (bodyB l0 kk) wx) ∧ Aside0 (BX w.heap.size (w.heap.size + 1) p3 v3 (offB l0 (kk + 1)) wx) ∧ Aside0 (apartV v1 v3) ∧ Aside0 (Below w.heap.size w wx) ∧ Aside0 (wx.heap[wr.heap.size]? = some (.cells #[.string x.f0, .int .i64 x.f1, .int .i64 x.f2, .string x.f3, .string x.f4] 49 (0, 0))))
          case first =>
            by_cases c4 : kk % 4 = 0
            · have h18 : (((kk : Int) % 4) == 0) = true := beq_iff_eq.2 (by omega)
              have HOF : Aside0 (offB l0 (kk + 1) = offB l0 kk ++ (fixB ((bodyB l0 kk).length : Int) 2).data.toList) := ⟨if_pos c4⟩
              have HN0 : Aside0 (nSh l0 kk = 0) := ⟨if_pos c4⟩
              have HRC : Aside0 ((((kk + 1 + 3) / 4 : Nat) : Int) = (rc : Int) + 1) := ⟨by have := HRQ.out; omega⟩
              have hlen := len_calls w.heap.size w.heap.size p1 v1 (bodyB l0 kk) (wr.alloc (.cells #[.string x.f0, .int .i64 x.f1, .int .i64 x.f2, .string x.f3, .string x.f4] 49)) HX5.out
              have HF : Aside0 (∀ W, Calls Try.prog 71 #[.int .i64 ((bodyB l0 kk).length : Int), .int .i64 2] W fun e w' => e = .returned (.string (fixB ((bodyB l0 kk).length : Int) 2)) ∧ Below W.heap.size W w') := ⟨fun W => fixed_calls _ 2 (by decide) W⟩
              have HFZ : Aside0 ((offB l0 kk).length + (fixB ((bodyB l0 kk).length : Int) 2).size ≤ 140737488355328) := ⟨by rw [fixE_size, HOL.out]; omega⟩
              clear c4
              generalize fixB ((bodyB l0 kk).length : Int) 2 = fx at HF HOF HFZ
              go_wp2_with (first | (go_at_call 72; refine hlen.mono ?_; rintro e w' ⟨rfl, rfl⟩; clear hlen) | (go_at_call 71; refine (HF.out _).mono ?_; rintro e w2 ⟨rfl, hb2⟩; have HB2 := Aside0.mk (HB5.out.trans (hb2.mono HB5.out.size)); have HK2 := Aside0.mk ((hb2.block _ (blk_lt HBN.out)).trans HBN.out); have hwr := write2_calls w.heap.size (w.heap.size + 1) w.heap.size p2 v2 p1 v1 (offB l0 kk) (bodyB l0 kk) fx w2 HP2.out (BX_below HY5.out hb2) (BX_below HX5.out hb2) (by omega) (apart_symm HAP.out) (by omega) HFZ.out; clear hb2) | (go_at_call 70; refine hwr.mono ?_; rintro e w3 ⟨rfl, v3, hy3, hx3, hb3, ha3, hf3⟩; have HF3 := Aside0.mk hf3; clear hf3; have HY3 := Aside0.mk hy3; have HX3 := Aside0.mk hx3; have HB3 := Aside0.mk hb3; have HA3 := Aside0.mk ha3; clear hy3 hx3 hb3 ha3 hwr))
              go_meet
              case rel =>
                exact ⟨_, v3, by rw [HRC.out], by rw [HN0.out]; rfl, ⟨.inr rfl⟩, HX3, ⟨by rw [HOF.out]; exact HY3.out⟩, ⟨apart_symm HA3.out⟩, ⟨HB.out.trans ((HB2.out.mono HB.out.size).trans HB3.out)⟩, ⟨(HF3.out _ (blk_lt HK2.out) (by have := blk_lt HY.out.1; omega) (fun e => by have := own_lt HY.out.2.1 _ e.symm; omega)).trans HK2.out⟩⟩
            · have h18 : (((kk : Int) % 4) == 0) = false := beq_eq_false_iff_ne.2 (by omega)
              have HOF : Aside0 (offB l0 (kk + 1) = offB l0 kk) := ⟨if_neg c4⟩
              have HRC : Aside0 ((((kk + 1 + 3) / 4 : Nat) : Int) = (rc : Int)) := ⟨by have := HRQ.out; omega⟩
              obtain ⟨kp, hkp⟩ : ∃ kp : Nat, (kk : Int) - 1 = (kp : Int) := ⟨kk - 1, by omega⟩
              have hi0 : (0 : Int) ≤ (kp : Int) := by omega
              have hi1 : (kp : Int) < (l0.length : Int) := by omega
              have HNS2 : Aside0 (nSh l0 kk = sharedN (rd_T49 l0 (kp : Int)).f0 x.f0) := ⟨by
                have e1 : (kk - 1 : Nat) = kp := by omega
                have e2 : nSh l0 kk = sharedN (rd_T49 l0 ((kk - 1 : Nat) : Int)).f0 (rd_T49 l0 (kk : Int)).f0 := if_neg c4
                rw [e2, e1, HX_.out]⟩
              have HPY := Aside0.mk (of_decide_eq_true (HA.out (kp : Int)))
              obtain ⟨ad2, hA2, p0, _, _, _, _⟩ := at_T49 (Kd.C_below HR.out HB.out) (kp : Int) (by omega) (by omega)
              obtain rfl := Option.some.inj hA2
              rw [Int.toNat_natCast] at p0
              have hw1 : IntKind.i64.wrap ((kp : Int)) = (kp : Int) := wraps_i64 _ (by omega) (by omega)
              have hw2 : wrap64 ((kp : Int)) = (kp : Int) := wrap64_id (by omega) (by omega)
              replace p0 := pw_cell_below HB5.out p0
              generalize (rd_T49 l0 (kp : Int)).f0 = py at p0 HNS2 HPY
              have HSH : Aside0 (∀ W, Calls Try.prog 51 #[.string py, .string x.f0] W fun e w' => e = .returned (.int .i64 ((sharedN py x.f0 : Nat) : Int)) ∧ Below W.heap.size W w') := ⟨fun W => by
                obtain ⟨K, hK⟩ := implShared_ev py x.f0 (by have := HPY.out; omega)
                exact (impl_SharedPrefix.calls K py x.f0 _ W (hK K (Nat.le_refl _))).mono fun e w' ⟨he, hd⟩ => ⟨he, hd.below⟩⟩
              have HKP := Aside0.mk hkp
              have b0 : (wr.alloc (.cells #[.string x.f0, .int .i64 x.f1, .int .i64 x.f2, .string x.f3, .string x.f4] 49)).cell? ⟨wr.heap.size, 0, none⟩ = some (.string x.f0) := (blk_cell HBN.out 0).trans rfl
              clear c4
              go_wp2_with fail
              have HW5 : Aside0 (Below (wr.alloc (.cells #[.string x.f0, .int .i64 x.f1, .int .i64 x.f2, .string x.f3, .string x.f4] 49)).heap.size (wr.alloc (.cells #[.string x.f0, .int .i64 x.f1, .int .i64 x.f2, .string x.f3, .string x.f4] 49)) (wr.alloc (.cells #[.string x.f0, .int .i64 x.f1, .int .i64 x.f2, .string x.f3, .string x.f4] 49))) := ⟨Below.refl _ _⟩
              generalize wr.alloc (.cells #[.string x.f0, .int .i64 x.f1, .int .i64 x.f2, .string x.f3, .string x.f4] 49) = W5 at HW5 HBN HX5 HY5 HBW5 HB5 p0 b0 ⊢
              generalize hgs : W5.heap.size = g5 at HW5
              clear e0 e1 e2 e3 e4
              refine start_ (n := 10) (S := fun w' => w'.cell? (ad.add (kp * 5)) = some (.string py) ∧ w'.cell? ⟨wr.heap.size, 0, none⟩ = some (.string x.f0) ∧ Aside0 (Below g5 W5 w')) (ds := []) #[false, false, false, false, false, false, false, false, false, false] (by kernel_rfl) rfl rfl ⟨p0, b0, ⟨Below.drew HW5.out⟩⟩ (fun hHeld => ?_)
              refine pure_ (i := 0) (N := some 24) (v := ?_) (a' := ?_) #[true, false, false, false, false, false, false, false, false, false] rfl rfl (by kernel_rfl) (fun _ _ _ h => h) (Or.inl ⟨by rfl, ?_⟩) ?_ ?_
              rotate_left
              · intro w'
                go_simp
                with_reducible rfl
              rotate_left
              · simp only [Act.put, List.setIfInBounds_toArray, List.set_cons_zero, List.set_cons_succ, i64_w, i32_w]
                rfl
              refine pure_ (i := 1) (N := some 25) (v := ?_) (a' := ?_) #[true, true, false, false, false, false, false, false, false, false] rfl rfl (by kernel_rfl) (fun _ _ _ h => h) (Or.inl ⟨by rfl, ?_⟩) ?_ ?_
              rotate_left
              · intro w'
                go_simp
                with_reducible rfl
              rotate_left
              · simp only [Act.put, List.setIfInBounds_toArray, List.set_cons_zero, List.set_cons_succ, i64_w, i32_w]
                rfl
              refine pure_ (i := 2) (N := some 26) (v := ?_) (a' := ?_) #[true, true, true, false, false, false, false, false, false, false] rfl rfl (by kernel_rfl) (fun _ _ _ h => h) (Or.inl ⟨by rfl, ?_⟩) ?_ ?_
              rotate_left
              · intro w'
                go_simp
                with_reducible rfl
              rotate_left
              · simp only [Act.put, List.setIfInBounds_toArray, List.set_cons_zero, List.set_cons_succ, i64_w, i32_w]
                rfl
              refine pure_ (i := 3) (N := some 27) (v := ?_) (a' := ?_) #[true, true, true, true, false, false, false, false, false, false] rfl rfl (by kernel_rfl) (fun _ _ _ h => h) (Or.inl ⟨by rfl, ?_⟩) ?_ ?_
              rotate_left
              · intro w'
                go_simp
                with_reducible rfl
              rotate_left
              · simp only [Act.put, List.setIfInBounds_toArray, List.set_cons_zero, List.set_cons_succ, i64_w, i32_w]
                rfl
              refine pure_ (i := 4) (N := some 28) (v := ?_) (a' := ?_) #[true, true, true, true, true, false, false, false, false, false] rfl rfl (by kernel_rfl) (fun _ _ _ h => h) (Or.inl ⟨by rfl, ?_⟩) ?_ ?_
              rotate_left
              · intro w'
                go_simp
                with_reducible rfl
              rotate_left
              · simp only [Act.put, List.setIfInBounds_toArray, List.set_cons_zero, List.set_cons_succ, i64_w, i32_w]
                rfl
              refine pure_ (i := 6) (N := some 30) (v := ?_) (a' := ?_) #[true, true, true, true, true, false, true, false, false, false] rfl rfl (by kernel_rfl) (fun _ _ _ h => h) (Or.inl ⟨by rfl, ?_⟩) ?_ ?_
              rotate_left
              · intro w'
                go_simp
                with_reducible rfl
              rotate_left
              · simp only [Act.put, List.setIfInBounds_toArray, List.set_cons_zero, List.set_cons_succ, i64_w, i32_w]
                rfl
              refine take_ (i := 5) (N := some 29) (v := ?_) (a' := ?_) #[true, true, true, true, true, true, true, false, false, false] rfl rfl (by kernel_rfl) (fun _ _ _ h => h) (Or.inl ⟨by rfl, ?_⟩) hHeld ?_ ?_
              rotate_left
              · rintro w' ⟨s0, s1, s2⟩
                go_simp
                with_reducible rfl
              rotate_left
              · simp only [Act.put, List.setIfInBounds_toArray, List.set_cons_zero, List.set_cons_succ, i64_w, i32_w]
                rfl
              refine take_ (i := 7) (N := some 31) (v := ?_) (a' := ?_) #[true, true, true, true, true, true, true, true, false, false] rfl rfl (by kernel_rfl) (fun _ _ _ h => h) (Or.inl ⟨by rfl, ?_⟩) hHeld ?_ ?_
              rotate_left
              · rintro w' ⟨s0, s1, s2⟩
                go_simp
                with_reducible rfl
              rotate_left
              · simp only [Act.put, List.setIfInBounds_toArray, List.set_cons_zero, List.set_cons_succ, i64_w, i32_w]
                rfl
              refine one_ (i := 8) (N := some 32) #[true, true, true, true, true, true, true, true, true, false] rfl rfl (by kernel_rfl) (by decide) (fun K hK => ?_)
              refine goes_ Try.func51 (by kernel_rfl) rfl #[.string py, .string x.f0] (by rfl) rfl rfl (by simp only [List.map_toArray, List.map_cons, List.map_nil]; rfl) ?_
              with_reducible refine (HSH.out _).mono ?_
              rintro e w1 ⟨rfl, hb1⟩
              refine ⟨_, rfl, ?_⟩
              refine hK.out _ _ ⟨(pw_cell_below hb1 (hHeld.1)), (pw_cell_below hb1 (hHeld.2.1)), (below_chain2 hgs (hHeld.2.2) hb1)⟩ (fun hHeld => ?_)
              clear hK K
              refine norm_ (a' := ?_) ?_ ?_
              rotate_left
              · show Act.put _ (some 32) _ = _
                simp only [Act.put, List.setIfInBounds_toArray, List.set_cons_zero, List.set_cons_succ, i64_w, i32_w]
                rfl
              refine pure_ (i := 9) (N := some 8) (v := ?_) (a' := ?_) #[true, true, true, true, true, true, true, true, true, true] rfl rfl (by kernel_rfl) (fun _ _ _ h => h) (Or.inl ⟨by rfl, ?_⟩) ?_ ?_
              rotate_left
              · intro w'
                go_simp
                with_reducible rfl
              rotate_left
              · simp only [Act.put, List.setIfInBounds_toArray, List.set_cons_zero, List.set_cons_succ, i64_w, i32_w]
                rfl
              refine done_ (by kernel_rfl) ?_
              have B := Aside0.out hHeld.2.2
              rw [← hgs] at B
              have HBB := Aside0.mk B
              clear B hHeld hgs hkp hw1 hw2
              go_wp2_with fail
              go_meet
              case rel =>
                exact ⟨p2, v2, by rw [HRC.out], by rw [HNS2.out], HP2, ⟨BX_below HX5.out HBB.out⟩, ⟨by rw [HOF.out]; exact BX_below HY5.out HBB.out⟩, HAP, ⟨HBW5.out.trans (HBB.out.mono HBW5.out.size)⟩, ⟨(HBB.out.block _ (blk_lt HBN.out)).trans HBN.out⟩⟩
          case rest =>
            obtain ⟨p3, v3, rfl, rfl, HP3, HX6, HY6, HAP6, HB6, HBK6⟩ := hcut
            clear e0 e1 e2 e3 e4 HBN HB5 HX5 HY5 HBW5
            have hnn := HNS.out
            have hsx := HSX.out
            have HEN : Aside0 (entB l0 kk = entry x (nSh l0 kk)) := ⟨by unfold entB; rw [HX_.out]⟩
            have HES6 : Aside0 ((bodyB l0 kk).length + (entry x (nSh l0 kk)).size ≤ 140737488355328) := ⟨by rw [← HEN.out]; have := HBL.out; have := HES.out; omega⟩
            have ew : wrap64 ((x.f0.size : Int) - ((nSh l0 kk : Nat) : Int)) = (x.f0.size : Int) - ((nSh l0 kk : Nat) : Int) := wrap64_id (by omega) (by omega)
            have HT1 : Aside0 (∀ W, Calls Try.prog 71 #[.int .i64 ((nSh l0 kk : Nat) : Int), .int .i64 1] W fun e w' => e = .returned (.string (fixB ((nSh l0 kk : Nat) : Int) 1)) ∧ Below W.heap.size W w') := ⟨fun W => fixed_calls _ 1 (by decide) W⟩
            have HT2 : Aside0 (∀ W, Calls Try.prog 71 #[.int .i64 (wrap64 ((x.f0.size : Int) - ((nSh l0 kk : Nat) : Int))), .int .i64 1] W fun e w' => e = .returned (.string (fixB ((x.f0.size : Int) - ((nSh l0 kk : Nat) : Int)) 1)) ∧ Below W.heap.size W w') := ⟨fun W => by rw [ew]; exact fixed_calls _ 1 (by decide) W⟩
            have HT3 : Aside0 (∀ W, Calls Try.prog 71 #[.int .i64 x.f1, .int .i64 3] W fun e w' => e = .returned (.string (fixB x.f1 3)) ∧ Below W.heap.size W w') := ⟨fun W => fixed_calls _ 3 (by decide) W⟩
            have HT4 : Aside0 (∀ W, Calls Try.prog 71 #[.int .i64 x.f2, .int .i64 1] W fun e w' => e = .returned (.string (fixB x.f2 1)) ∧ Below W.heap.size W w') := ⟨fun W => fixed_calls _ 1 (by decide) W⟩
            have HT5 : Aside0 (∀ W, Calls Try.prog 71 #[.int .i64 ((dataX x).size : Int), .int .i64 1] W fun e w' => e = .returned (.string (fixB ((dataX x).size : Int) 1)) ∧ Below W.heap.size W w') := ⟨fun W => fixed_calls _ 1 (by decide) W⟩
            have HOT : Aside0 (∀ W, Calls Try.prog 73 #[.agg #[.string x.f0, .int .i64 x.f1, .int .i64 x.f2, .string x.f3, .string x.f4]] W fun e w' => e = .returned (.string (dataX x)) ∧ Below W.heap.size W w') := ⟨fun W => other_calls x W⟩
            clear ew
            have z1 := fixE_size ((nSh l0 kk : Nat) : Int) 1
            have z2 := fixE_size ((x.f0.size : Int) - ((nSh l0 kk : Nat) : Int)) 1
            have z3 := fixE_size x.f1 3
            have z4 := fixE_size x.f2 1
            have z5 := fixE_size ((dataX x).size : Int) 1
            unfold entry at HEN HES6
            generalize nSh l0 kk = nn at hnn HEN HES6 HT1 HT2 z1 z2 ⊢
            generalize fixB (nn : Int) 1 = t1 at HEN HES6 HT1 z1
            generalize fixB ((x.f0.size : Int) - (nn : Int)) 1 = t2 at HEN HES6 HT2 z2
            generalize fixB x.f1 3 = t3 at HEN HES6 HT3 z3
            generalize fixB x.f2 1 = t4 at HEN HES6 HT4 z4
            generalize fixB ((dataX x).size : Int) 1 = t5 at HEN HES6 HT5 z5
            generalize dataX x = dt at hsx HEN HES6 HOT HT5
            have HWR : Aside0 (∀ W, Below wc.heap.size wc W → Calls Try.prog 70 #[.pointer (some ⟨w.heap.size, 0, none⟩), .string ((((((t1 ++ t2) ++ t3) ++ t4) ++ t5) ++ x.f0.extract nn x.f0.size) ++ dt)] W fun e w' => e = .returned (.tuple #[.int .i64 ((((((t1 ++ t2) ++ t3) ++ t4) ++ t5) ++ x.f0.extract nn x.f0.size) ++ dt).size, .nilIface]) ∧ ∃ v', BX w.heap.size w.heap.size (.pointer (some ⟨w.heap.size, 0, none⟩)) v' (bodyB l0 kk ++ ((((((t1 ++ t2) ++ t3) ++ t4) ++ t5) ++ x.f0.extract nn x.f0.size) ++ dt).data.toList) w' ∧ BX w.heap.size (w.heap.size + 1) p3 v3 (offB l0 (kk + 1)) w' ∧ Below w.heap.size W w' ∧ apartV v' v3) := ⟨fun W hb => (write2_calls w.heap.size w.heap.size (w.heap.size + 1) p1 v1 p3 v3 (bodyB l0 kk) (offB l0 (kk + 1)) ((((((t1 ++ t2) ++ t3) ++ t4) ++ t5) ++ x.f0.extract nn x.f0.size) ++ dt) W HP1.out (BX_below HX6.out hb) (BX_below HY6.out hb) (by omega) HAP6.out (Nat.le_refl _) HES6.out).mono fun e w' ⟨he, v', a1, a2, a3, a4, _⟩ => ⟨he, v', a1, a2, a3, a4⟩⟩
            have q1 : (9223372036854775807 < t1.size + t2.size) = False := eq_false (by omega)
            have q2 : (9223372036854775807 < t1.size + t2.size + t3.size) = False := eq_false (by omega)
            have q3 : (9223372036854775807 < t1.size + t2.size + t3.size + t4.size) = False := eq_false (by omega)
            have q4 : (9223372036854775807 < t1.size + t2.size + t3.size + t4.size + t5.size) = False := eq_false (by omega)
            have q5 : (9223372036854775807 < t1.size + t2.size + t3.size + t4.size + t5.size + (x.f0.size - nn)) = False := eq_false (by omega)
            have q6 : (9223372036854775807 < t1.size + t2.size + t3.size + t4.size + t5.size + (x.f0.size - nn) + dt.size) = False := eq_false (by omega)
            have q7 : (0 : Int) ≤ (nn : Int) := by omega
            have q8 : (nn : Int) ≤ (x.f0.size : Int) := by omega
            clear z1 z2 z3 z4 z5
            go_wp2_with fail
            have b0 : wc.cell? ⟨wr.heap.size, 0, none⟩ = some (.string x.f0) := (blk_cell HBK6.out 0).trans rfl
            have b1 : wc.cell? ⟨wr.heap.size, 1, none⟩ = some (.int .i64 x.f1) := (blk_cell HBK6.out 1).trans rfl
            have b2 : wc.cell? ⟨wr.heap.size, 2, none⟩ = some (.int .i64 x.f2) := (blk_cell HBK6.out 2).trans rfl
            have b3 : wc.cell? ⟨wr.heap.size, 3, none⟩ = some (.string x.f3) := (blk_cell HBK6.out 3).trans rfl
            have b4 : wc.cell? ⟨wr.heap.size, 4, none⟩ = some (.string x.f4) := (blk_cell HBK6.out 4).trans rfl
            have HW6 : Aside0 (Below wc.heap.size wc wc) := ⟨Below.refl _ _⟩
            generalize wr.heap.size = gr at b0 b1 b2 b3 b4 HBK6 ⊢
            generalize hgs : wc.heap.size = g6 at HW6 HWR
            refine start_ (n := 31) (S := fun w' => w'.cell? ⟨gr, 0, none⟩ = some (.string x.f0) ∧ w'.cell? ⟨gr, 1, none⟩ = some (.int .i64 x.f1) ∧ w'.cell? ⟨gr, 2, none⟩ = some (.int .i64 x.f2) ∧ w'.cell? ⟨gr, 3, none⟩ = some (.string x.f3) ∧ w'.cell? ⟨gr, 4, none⟩ = some (.string x.f4) ∧ Aside0 (Below g6 wc w')) (ds := [30]) #[false, false, false, false, false, false, false, false, false, false, false, false, false, false, false, false, false, false, false, false, false, false, false, false, false, false, false, false, false, false, false] (by kernel_rfl) rfl rfl ⟨b0, b1, b2, b3, b4, ⟨Below.drew HW6.out⟩⟩ (fun hHeld => ?_)
            refine pure_ (i := 0) (N := some 33) (v := ?_) (a' := ?_) #[true, false, false, false, false, false, false, false, false, false, false, false, false, false, false, false, false, false, false, false, false, false, false, false, false, false, false, false, false, false, false] rfl rfl (by kernel_rfl) (fun _ _ _ h => h) (Or.inl ⟨by rfl, ?_⟩) ?_ ?_
            rotate_left
            · intro w'
              go_simp
              with_reducible rfl
            rotate_left
            · simp only [Act.put, List.setIfInBounds_toArray, List.set_cons_zero, List.set_cons_succ, i64_w, i32_w]
              rfl
            refine pure_ (i := 2) (N := some 35) (v := ?_) (a' := ?_) #[true, false, true, false, false, false, false, false, false, false, false, false, false, false, false, false, false, false, false, false, false, false, false, false, false, false, false, false, false, false, false] rfl rfl (by kernel_rfl) (fun _ _ _ h => h) (Or.inl ⟨by rfl, ?_⟩) ?_ ?_
            rotate_left
            · intro w'
              go_simp
              with_reducible rfl
            rotate_left
            · simp only [Act.put, List.setIfInBounds_toArray, List.set_cons_zero, List.set_cons_succ, i64_w, i32_w]
              rfl
            refine pure_ (i := 5) (N := some 38) (v := ?_) (a' := ?_) #[true, false, true, false, false, true, false, false, false, false, false, false, false, false, false, false, false, false, false, false, false, false, false, false, false, false, false, false, false, false, false] rfl rfl (by kernel_rfl) (fun _ _ _ h => h) (Or.inl ⟨by rfl, ?_⟩) ?_ ?_
            rotate_left
            · intro w'
              go_simp
              with_reducible rfl
            rotate_left
            · simp only [Act.put, List.setIfInBounds_toArray, List.set_cons_zero, List.set_cons_succ, i64_w, i32_w]
              rfl
            refine pure_ (i := 9) (N := some 42) (v := ?_) (a' := ?_) #[true, false, true, false, false, true, false, false, false, true, false, false, false, false, false, false, false, false, false, false, false, false, false, false, false, false, false, false, false, false, false] rfl rfl (by kernel_rfl) (fun _ _ _ h => h) (Or.inl ⟨by rfl, ?_⟩) ?_ ?_
            rotate_left
            · intro w'
              go_simp
              with_reducible rfl
            rotate_left
            · simp only [Act.put, List.setIfInBounds_toArray, List.set_cons_zero, List.set_cons_succ, i64_w, i32_w]
              rfl
            refine pure_ (i := 13) (N := some 46) (v := ?_) (a' := ?_) #[true, false, true, false, false, true, false, false, false, true, false, false, false, true, false, false, false, false, false, false, false, false, false, false, false, false, false, false, false, false, false] rfl rfl (by kernel_rfl) (fun _ _ _ h => h) (Or.inl ⟨by rfl, ?_⟩) ?_ ?_
            rotate_left
            · intro w'
              go_simp
              with_reducible rfl
            rotate_left
            · simp only [Act.put, List.setIfInBounds_toArray, List.set_cons_zero, List.set_cons_succ, i64_w, i32_w]
              rfl
            refine pure_ (i := 22) (N := some 55) (v := ?_) (a' := ?_) #[true, false, true, false, false, true, false, false, false, true, false, false, false, true, false, false, false, false, false, false, false, false, true, false, false, false, false, false, false, false, false] rfl rfl (by kernel_rfl) (fun _ _ _ h => h) (Or.inl ⟨by rfl, ?_⟩) ?_ ?_
            rotate_left
            · intro w'
              go_simp
              with_reducible rfl
            rotate_left
            · simp only [Act.put, List.setIfInBounds_toArray, List.set_cons_zero, List.set_cons_succ, i64_w, i32_w]
              rfl
            refine pure_ (i := 24) (N := some 57) (v := ?_) (a' := ?_) #[true, false, true, false, false, true, false, false, false, true, false, false, false, true, false, false, false, false, false, false, false, false, true, false, true, false, false, false, false, false, false] rfl rfl (by kernel_rfl) (fun _ _ _ h => h) (Or.inl ⟨by rfl, ?_⟩) ?_ ?_
            rotate_left
            · intro w'
              go_simp
              with_reducible rfl
            rotate_left
            · simp only [Act.put, List.setIfInBounds_toArray, List.set_cons_zero, List.set_cons_succ, i64_w, i32_w]
              rfl
            refine take_ (i := 3) (N := some 36) (v := ?_) (a' := ?_) #[true, false, true, true, false, true, false, false, false, true, false, false, false, true, false, false, false, false, false, false, false, false, true, false, true, false, false, false, false, false, false] rfl rfl (by kernel_rfl) (fun _ _ _ h => h) (Or.inl ⟨by rfl, ?_⟩) hHeld ?_ ?_
            rotate_left
            · rintro w' ⟨s0, s1, s2, s3, s4, s5⟩
              go_simp
              with_reducible rfl
            rotate_left
            · simp only [Act.put, List.setIfInBounds_toArray, List.set_cons_zero, List.set_cons_succ, i64_w, i32_w]
              rfl
            refine pure_ (i := 4) (N := some 37) (v := ?_) (a' := ?_) #[true, false, true, true, true, true, false, false, false, true, false, false, false, true, false, false, false, false, false, false, false, false, true, false, true, false, false, false, false, false, false] rfl rfl (by kernel_rfl) (fun _ _ _ h => h) (Or.inl ⟨by rfl, ?_⟩) ?_ ?_
            rotate_left
            · intro w'
              go_simp
              with_reducible rfl
            rotate_left
            · simp only [Act.put, List.setIfInBounds_toArray, List.set_cons_zero, List.set_cons_succ, i64_w, i32_w]
              rfl
            refine pure_ (i := 6) (N := some 39) (v := ?_) (a' := ?_) #[true, false, true, true, true, true, true, false, false, true, false, false, false, true, false, false, false, false, false, false, false, false, true, false, true, false, false, false, false, false, false] rfl rfl (by kernel_rfl) (fun _ _ _ h => h) (Or.inl ⟨by rfl, ?_⟩) ?_ ?_
            rotate_left
            · intro w'
              go_simp
              with_reducible rfl
            rotate_left
            · simp only [Act.put, List.setIfInBounds_toArray, List.set_cons_zero, List.set_cons_succ, i64_w, i32_w]
              rfl
            refine take_ (i := 10) (N := some 43) (v := ?_) (a' := ?_) #[true, false, true, true, true, true, true, false, false, true, true, false, false, true, false, false, false, false, false, false, false, false, true, false, true, false, false, false, false, false, false] rfl rfl (by kernel_rfl) (fun _ _ _ h => h) (Or.inl ⟨by rfl, ?_⟩) hHeld ?_ ?_
            rotate_left
            · rintro w' ⟨s0, s1, s2, s3, s4, s5⟩
              go_simp
              with_reducible rfl
            rotate_left
            · simp only [Act.put, List.setIfInBounds_toArray, List.set_cons_zero, List.set_cons_succ, i64_w, i32_w]
              rfl
            refine take_ (i := 14) (N := some 47) (v := ?_) (a' := ?_) #[true, false, true, true, true, true, true, false, false, true, true, false, false, true, true, false, false, false, false, false, false, false, true, false, true, false, false, false, false, false, false] rfl rfl (by kernel_rfl) (fun _ _ _ h => h) (Or.inl ⟨by rfl, ?_⟩) hHeld ?_ ?_
            rotate_left
            · rintro w' ⟨s0, s1, s2, s3, s4, s5⟩
              go_simp
              with_reducible rfl
            rotate_left
            · simp only [Act.put, List.setIfInBounds_toArray, List.set_cons_zero, List.set_cons_succ, i64_w, i32_w]
              rfl
            refine take_ (i := 17) (N := some 50) (v := ?_) (a' := ?_) #[true, false, true, true, true, true, true, false, false, true, true, false, false, true, true, false, false, true, false, false, false, false, true, false, true, false, false, false, false, false, false] rfl rfl (by kernel_rfl) (fun _ _ _ h => h) (Or.inl ⟨by rfl, ?_⟩) hHeld ?_ ?_
            rotate_left
            · rintro w' ⟨s0, s1, s2, s3, s4, s5⟩
              go_simp
              with_reducible rfl
            rotate_left
            · simp only [Act.put, List.setIfInBounds_toArray, List.set_cons_zero, List.set_cons_succ, i64_w, i32_w]
              rfl
            refine take_ (i := 23) (N := some 56) (v := ?_) (a' := ?_) #[true, false, true, true, true, true, true, false, false, true, true, false, false, true, true, false, false, true, false, false, false, false, true, true, true, false, false, false, false, false, false] rfl rfl (by kernel_rfl) (fun _ _ _ h => h) (Or.inl ⟨by rfl, ?_⟩) hHeld ?_ ?_
            rotate_left
            · rintro w' ⟨s0, s1, s2, s3, s4, s5⟩
              go_simp
              with_reducible rfl
            rotate_left
            · simp only [Act.put, List.setIfInBounds_toArray, List.set_cons_zero, List.set_cons_succ, i64_w, i32_w]
              rfl
            refine pure_ (i := 25) (N := some 58) (v := ?_) (a' := ?_) #[true, false, true, true, true, true, true, false, false, true, true, false, false, true, true, false, false, true, false, false, false, false, true, true, true, true, false, false, false, false, false] rfl rfl (by kernel_rfl) (fun _ _ _ h => h) (Or.inl ⟨by rfl, ?_⟩) ?_ ?_
            rotate_left
            · intro w'
              go_simp
              with_reducible rfl
            rotate_left
            · simp only [Act.put, List.setIfInBounds_toArray, List.set_cons_zero, List.set_cons_succ, i64_w, i32_w]
              rfl
            refine take_ (i := 27) (N := some 60) (v := ?_) (a' := ?_) #[true, false, true, true, true, true, true, false, false, true, true, false, false, true, true, false, false, true, false, false, false, false, true, true, true, true, false, true, false, false, false] rfl rfl (by kernel_rfl) (fun _ _ _ h => h) (Or.inl ⟨by rfl, ?_⟩) hHeld ?_ ?_
            rotate_left
            · rintro w' ⟨s0, s1, s2, s3, s4, s5⟩
              go_simp
              with_reducible rfl
            rotate_left
            · simp only [Act.put, List.setIfInBounds_toArray, List.set_cons_zero, List.set_cons_succ, i64_w, i32_w]
              rfl
            refine one_ (i := 1) (N := some 34) #[true, true, true, true, true, true, true, false, false, true, true, false, false, true, true, false, false, true, false, false, false, false, true, true, true, true, false, true, false, false, false] rfl rfl (by kernel_rfl) (by decide) (fun K hK => ?_)
            refine goes_ Try.func71 (by kernel_rfl) rfl #[.int .i64 (nn : Int), .int .i64 1] (by rfl) rfl rfl (by simp only [List.map_toArray, List.map_cons, List.map_nil]; rfl) ?_
            with_reducible refine (HT1.out _).mono ?_
            rintro e w1 ⟨rfl, hb1⟩
            refine ⟨_, rfl, ?_⟩
            refine hK.out _ _ ⟨(pw_cell_below hb1 (hHeld.1)), (pw_cell_below hb1 (hHeld.2.1)), (pw_cell_below hb1 (hHeld.2.2.1)), (pw_cell_below hb1 (hHeld.2.2.2.1)), (pw_cell_below hb1 (hHeld.2.2.2.2.1)), (below_chain2 hgs (hHeld.2.2.2.2.2) hb1)⟩ (fun hHeld => ?_)
            clear hK K
            refine norm_ (a' := ?_) ?_ ?_
            rotate_left
            · show Act.put _ (some 34) _ = _
              simp only [Act.put, List.setIfInBounds_toArray, List.set_cons_zero, List.set_cons_succ, i64_w, i32_w]
              rfl
            refine one_ (i := 7) (N := some 40) #[true, true, true, true, true, true, true, true, false, true, true, false, false, true, true, false, false, true, false, false, false, false, true, true, true, true, false, true, false, false, false] rfl rfl (by kernel_rfl) (by decide) (fun K hK => ?_)
            refine goes_ Try.func71 (by kernel_rfl) rfl #[.int .i64 (wrap64 ((x.f0.size : Int) - (nn : Int))), .int .i64 1] (by rfl) rfl rfl (by simp only [List.map_toArray, List.map_cons, List.map_nil]; rfl) ?_
            with_reducible refine (HT2.out _).mono ?_
            rintro e w1 ⟨rfl, hb1⟩
            refine ⟨_, rfl, ?_⟩
            refine hK.out _ _ ⟨(pw_cell_below hb1 (hHeld.1)), (pw_cell_below hb1 (hHeld.2.1)), (pw_cell_below hb1 (hHeld.2.2.1)), (pw_cell_below hb1 (hHeld.2.2.2.1)), (pw_cell_below hb1 (hHeld.2.2.2.2.1)), (below_chain2 hgs (hHeld.2.2.2.2.2) hb1)⟩ (fun hHeld => ?_)
            clear hK K
            refine norm_ (a' := ?_) ?_ ?_
            rotate_left
            · show Act.put _ (some 40) _ = _
              simp only [Act.put, List.setIfInBounds_toArray, List.set_cons_zero, List.set_cons_succ, i64_w, i32_w]
              rfl
            refine pure_ (i := 8) (N := some 41) (v := ?_) (a' := ?_) #[true, true, true, true, true, true, true, true, true, true, true, false, false, true, true, false, false, true, false, false, false, false, true, true, true, true, false, true, false, false, false] rfl rfl (by kernel_rfl) (fun _ _ _ h => h) (Or.inl ⟨by rfl, ?_⟩) ?_ ?_
            rotate_left
            · intro w'
              go_simp
              with_reducible rfl
            rotate_left
            · simp only [Act.put, List.setIfInBounds_toArray, List.set_cons_zero, List.set_cons_succ, i64_w, i32_w]
              rfl
            refine one_ (i := 11) (N := some 44) #[true, true, true, true, true, true, true, true, true, true, true, true, false, true, true, false, false, true, false, false, false, false, true, true, true, true, false, true, false, false, false] rfl rfl (by kernel_rfl) (by decide) (fun K hK => ?_)
            refine goes_ Try.func71 (by kernel_rfl) rfl #[.int .i64 x.f1, .int .i64 3] (by rfl) rfl rfl (by simp only [List.map_toArray, List.map_cons, List.map_nil]; rfl) ?_
            with_reducible refine (HT3.out _).mono ?_
            rintro e w1 ⟨rfl, hb1⟩
            refine ⟨_, rfl, ?_⟩
            refine hK.out _ _ ⟨(pw_cell_below hb1 (hHeld.1)), (pw_cell_below hb1 (hHeld.2.1)), (pw_cell_below hb1 (hHeld.2.2.1)), (pw_cell_below hb1 (hHeld.2.2.2.1)), (pw_cell_below hb1 (hHeld.2.2.2.2.1)), (below_chain2 hgs (hHeld.2.2.2.2.2) hb1)⟩ (fun hHeld => ?_)
            clear hK K
            refine norm_ (a' := ?_) ?_ ?_
            rotate_left
            · show Act.put _ (some 44) _ = _
              simp only [Act.put, List.setIfInBounds_toArray, List.set_cons_zero, List.set_cons_succ, i64_w, i32_w]
              rfl
            refine pure_ (i := 12) (N := some 45) (v := ?_) (a' := ?_) #[true, true, true, true, true, true, true, true, true, true, true, true, true, true, true, false, false, true, false, false, false, false, true, true, true, true, false, true, false, false, false] rfl rfl (by kernel_rfl) (fun _ _ _ h => h) (Or.inl ⟨by rfl, ?_⟩) ?_ ?_
            rotate_left
            · intro w'
              go_simp
              with_reducible rfl
            rotate_left
            · simp only [Act.put, List.setIfInBounds_toArray, List.set_cons_zero, List.set_cons_succ, i64_w, i32_w]
              rfl
            refine one_ (i := 15) (N := some 48) #[true, true, true, true, true, true, true, true, true, true, true, true, true, true, true, true, false, true, false, false, false, false, true, true, true, true, false, true, false, false, false] rfl rfl (by kernel_rfl) (by decide) (fun K hK => ?_)
            refine goes_ Try.func71 (by kernel_rfl) rfl #[.int .i64 x.f2, .int .i64 1] (by rfl) rfl rfl (by simp only [List.map_toArray, List.map_cons, List.map_nil]; rfl) ?_
            with_reducible refine (HT4.out _).mono ?_
            rintro e w1 ⟨rfl, hb1⟩
            refine ⟨_, rfl, ?_⟩
            refine hK.out _ _ ⟨(pw_cell_below hb1 (hHeld.1)), (pw_cell_below hb1 (hHeld.2.1)), (pw_cell_below hb1 (hHeld.2.2.1)), (pw_cell_below hb1 (hHeld.2.2.2.1)), (pw_cell_below hb1 (hHeld.2.2.2.2.1)), (below_chain2 hgs (hHeld.2.2.2.2.2) hb1)⟩ (fun hHeld => ?_)
            clear hK K
            refine norm_ (a' := ?_) ?_ ?_
            rotate_left
            · show Act.put _ (some 48) _ = _
              simp only [Act.put, List.setIfInBounds_toArray, List.set_cons_zero, List.set_cons_succ, i64_w, i32_w]
              rfl
            refine pure_ (i := 16) (N := some 49) (v := ?_) (a' := ?_) #[true, true, true, true, true, true, true, true, true, true, true, true, true, true, true, true, true, true, false, false, false, false, true, true, true, true, false, true, false, false, false] rfl rfl (by kernel_rfl) (fun _ _ _ h => h) (Or.inl ⟨by rfl, ?_⟩) ?_ ?_
            rotate_left
            · intro w'
              go_simp
              with_reducible rfl
            rotate_left
            · simp only [Act.put, List.setIfInBounds_toArray, List.set_cons_zero, List.set_cons_succ, i64_w, i32_w]
              rfl
            refine one_ (i := 18) (N := some 51) #[true, true, true, true, true, true, true, true, true, true, true, true, true, true, true, true, true, true, true, false, false, false, true, true, true, true, false, true, false, false, false] rfl rfl (by kernel_rfl) (by decide) (fun K hK => ?_)
            refine goes_ Try.func73 (by kernel_rfl) rfl #[.agg #[.string x.f0, .int .i64 x.f1, .int .i64 x.f2, .string x.f3, .string x.f4]] (by rfl) rfl rfl (by simp only [List.map_toArray, List.map_cons, List.map_nil]; rfl) ?_
            with_reducible refine (HOT.out _).mono ?_
            rintro e w1 ⟨rfl, hb1⟩
            refine ⟨_, rfl, ?_⟩
            refine hK.out _ _ ⟨(pw_cell_below hb1 (hHeld.1)), (pw_cell_below hb1 (hHeld.2.1)), (pw_cell_below hb1 (hHeld.2.2.1)), (pw_cell_below hb1 (hHeld.2.2.2.1)), (pw_cell_below hb1 (hHeld.2.2.2.2.1)), (below_chain2 hgs (hHeld.2.2.2.2.2) hb1)⟩ (fun hHeld => ?_)
            clear hK K
            refine norm_ (a' := ?_) ?_ ?_
            rotate_left
            · show Act.put _ (some 51) _ = _
              simp only [Act.put, List.setIfInBounds_toArray, List.set_cons_zero, List.set_cons_succ, i64_w, i32_w]
              rfl
            refine pure_ (i := 19) (N := some 52) (v := ?_) (a' := ?_) #[true, true, true, true, true, true, true, true, true, true, true, true, true, true, true, true, true, true, true, true, false, false, true, true, true, true, false, true, false, false, false] rfl rfl (by kernel_rfl) (fun _ _ _ h => h) (Or.inl ⟨by rfl, ?_⟩) ?_ ?_
            rotate_left
            · intro w'
              go_simp
              with_reducible rfl
            rotate_left
            · simp only [Act.put, List.setIfInBounds_toArray, List.set_cons_zero, List.set_cons_succ, i64_w, i32_w]
              rfl
            refine one_ (i := 20) (N := some 53) #[true, true, true, true, true, true, true, true, true, true, true, true, true, true, true, true, true, true, true, true, true, false, true, true, true, true, false, true, false, false, false] rfl rfl (by kernel_rfl) (by decide) (fun K hK => ?_)
            refine goes_ Try.func71 (by kernel_rfl) rfl #[.int .i64 (dt.size : Int), .int .i64 1] (by rfl) rfl rfl (by simp only [List.map_toArray, List.map_cons, List.map_nil]; rfl) ?_
            with_reducible refine (HT5.out _).mono ?_
            rintro e w1 ⟨rfl, hb1⟩
            refine ⟨_, rfl, ?_⟩
            refine hK.out _ _ ⟨(pw_cell_below hb1 (hHeld.1)), (pw_cell_below hb1 (hHeld.2.1)), (pw_cell_below hb1 (hHeld.2.2.1)), (pw_cell_below hb1 (hHeld.2.2.2.1)), (pw_cell_below hb1 (hHeld.2.2.2.2.1)), (below_chain2 hgs (hHeld.2.2.2.2.2) hb1)⟩ (fun hHeld => ?_)
            clear hK K
            refine norm_ (a' := ?_) ?_ ?_
            rotate_left
            · show Act.put _ (some 53) _ = _
              simp only [Act.put, List.setIfInBounds_toArray, List.set_cons_zero, List.set_cons_succ, i64_w, i32_w]
              rfl
            refine pure_ (i := 21) (N := some 54) (v := ?_) (a' := ?_) #[true, true, true, true, true, true, true, true, true, true, true, true, true, true, true, true, true, true, true, true, true, true, true, true, true, true, false, true, false, false, false] rfl rfl (by kernel_rfl) (fun _ _ _ h => h) (Or.inl ⟨by rfl, ?_⟩) ?_ ?_
            rotate_left
            · intro w'
              go_simp
              with_reducible rfl
            rotate_left
            · simp only [Act.put, List.setIfInBounds_toArray, List.set_cons_zero, List.set_cons_succ, i64_w, i32_w]
              rfl
            refine pure_ (i := 26) (N := some 59) (v := ?_) (a' := ?_) #[true, true, true, true, true, true, true, true, true, true, true, true, true, true, true, true, true, true, true, true, true, true, true, true, true, true, true, true, false, false, false] rfl rfl (by kernel_rfl) (fun _ _ _ h => h) (Or.inl ⟨by rfl, ?_⟩) ?_ ?_
            rotate_left
            · intro w'
              go_simp
              with_reducible rfl
            rotate_left
            · simp only [Act.put, List.setIfInBounds_toArray, List.set_cons_zero, List.set_cons_succ, i64_w, i32_w]
              rfl
            refine one_ (i := 28) (N := some 61) #[true, true, true, true, true, true, true, true, true, true, true, true, true, true, true, true, true, true, true, true, true, true, true, true, true, true, true, true, true, false, false] rfl rfl (by kernel_rfl) (by decide) (fun K hK => ?_)
            refine goes_ Try.func73 (by kernel_rfl) rfl #[.agg #[.string x.f0, .int .i64 x.f1, .int .i64 x.f2, .string x.f3, .string x.f4]] (by rfl) rfl rfl (by simp only [List.map_toArray, List.map_cons, List.map_nil]; rfl) ?_
            with_reducible refine (HOT.out _).mono ?_
            rintro e w1 ⟨rfl, hb1⟩
            refine ⟨_, rfl, ?_⟩
            refine hK.out _ _ ⟨(pw_cell_below hb1 (hHeld.1)), (pw_cell_below hb1 (hHeld.2.1)), (pw_cell_below hb1 (hHeld.2.2.1)), (pw_cell_below hb1 (hHeld.2.2.2.1)), (pw_cell_below hb1 (hHeld.2.2.2.2.1)), (below_chain2 hgs (hHeld.2.2.2.2.2) hb1)⟩ (fun hHeld => ?_)
            clear hK K
            refine norm_ (a' := ?_) ?_ ?_
            rotate_left
            · show Act.put _ (some 61) _ = _
              simp only [Act.put, List.setIfInBounds_toArray, List.set_cons_zero, List.set_cons_succ, i64_w, i32_w]
              rfl
            refine pure_ (i := 29) (N := some 62) (v := ?_) (a' := ?_) #[true, true, true, true, true, true, true, true, true, true, true, true, true, true, true, true, true, true, true, true, true, true, true, true, true, true, true, true, true, true, false] rfl rfl (by kernel_rfl) (fun _ _ _ h => h) (Or.inl ⟨by rfl, ?_⟩) ?_ ?_
            rotate_left
            · intro w'
              go_simp
              with_reducible rfl
            rotate_left
            · simp only [Act.put, List.setIfInBounds_toArray, List.set_cons_zero, List.set_cons_succ, i64_w, i32_w]
              rfl
            refine last_ (i := 30) (N := some 63) #[true, true, true, true, true, true, true, true, true, true, true, true, true, true, true, true, true, true, true, true, true, true, true, true, true, true, true, true, true, true, true] rfl rfl (by kernel_rfl) (by decide) (fun K hK => ?_)
            refine goes_ Try.func70 (by kernel_rfl) rfl #[.pointer (some ⟨w.heap.size, 0, none⟩), .string (t1 ++ t2 ++ t3 ++ t4 ++ t5 ++ x.f0.extract nn x.f0.size ++ dt)] (by rfl) rfl rfl (by simp only [List.map_toArray, List.map_cons, List.map_nil]; rfl) ?_
            with_reducible refine (HWR.out _ (Aside0.out (hHeld.2.2.2.2.2))).mono ?_
            rintro e w9 ⟨rfl, v9, hx9, hy9, hb9, ha9⟩
            refine ⟨_, rfl, ?_⟩
            refine hK.out _ _ ?_
            clear hK K
            refine norm_ (a' := ?_) ?_ ?_
            rotate_left
            · show Act.put _ (some 63) _ = _
              simp only [Act.put, List.setIfInBounds_toArray, List.set_cons_zero, List.set_cons_succ, i64_w, i32_w]
              rfl
            refine done_ (by kernel_rfl) ?_
            have HX9 := Aside0.mk hx9
            have HY9 := Aside0.mk hy9
            have HA9 := Aside0.mk ha9
            have HB9 := Aside0.mk hb9
            have HH := Aside0.mk (Aside0.out (hHeld.2.2.2.2.2))
            clear hx9 hy9 ha9 hb9 hHeld
            go_wp2
            go_roundg (l0.length - (kk + 1))
            case measure => omega
            case rel =>
              refine ⟨kk + 1, (kk + 1 + 3) / 4, _, v9, p3, v3, rfl, by go_num, rfl, by omega, Nat.le_refl _, ⟨.inr rfl⟩, HP3, ⟨?_⟩, HY9, HA9, ⟨?_⟩⟩
              · have e : bodyB l0 (kk + 1) = bodyB l0 kk ++ (entB l0 kk).data.toList := rfl
                rw [e, HEN.out]
                exact HX9.out
              · exact HB6.out.trans ((HH.out.mono (by rw [← hgs]; exact HB6.out.size)).trans HB9.out)
        · obtain rfl : kk = l0.length := by omega
          have hlti : ¬ (l0.length : Int) < (l0.length : Int) := by omega
          have hbl := body_len l0 HA.out l0.length
          have hol := off_len l0 l0.length
          have hnb : bodyB l0 l0.length ≠ [] := fun e => by rw [e] at hbl; simp at hbl; omega
          have hno : offB l0 l0.length ≠ [] := fun e => by rw [e] at hol; simp at hol; omega
          have hs1 := string_calls w.heap.size w.heap.size p1 v1 (bodyB l0 l0.length) wr HX.out hnb
          have HS2 : Aside0 (∀ W, (∀ k, some k ≠ v1.ownBlock → W.heap[k]? = wr.heap[k]?) → Calls Try.prog 74 #[.pointer (some ⟨w.heap.size + 1, 0, none⟩)] W fun e w' => e = .returned (.string ⟨(offB l0 l0.length).toArray⟩) ∧ Below w.heap.size W w') := ⟨fun W hk => (string_calls w.heap.size (w.heap.size + 1) p2 v2 (offB l0 l0.length) W (BX_keep HY.out (fun k hk2 => hk k (fun e => by
            rcases hk2 with rfl | hk2
            · exact Lib.ownBlock_ne HX.out.2.1 HY.out.1 (by decide : 84 ≠ 5) e.symm
            · exact HAP.out k e.symm hk2.symm))) hno).mono fun e w' ⟨he, hb, _⟩ => ⟨he, hb⟩⟩
          have HF : Aside0 (∀ W, Calls Try.prog 71 #[.int .i64 (rc : Int), .int .i64 1] W fun e w' => e = .returned (.string (fixB (rc : Int) 1)) ∧ Below W.heap.size W w') := ⟨fun W => fixed_calls _ 1 (by decide) W⟩
          have HEN : Aside0 (encB l0 = ((⟨(bodyB l0 l0.length).toArray⟩ : ByteArray) ++ ⟨(offB l0 l0.length).toArray⟩) ++ fixB (rc : Int) 1) := ⟨by unfold encB; rw [hrc]⟩
          have z1 : (⟨(bodyB l0 l0.length).toArray⟩ : ByteArray).size = (bodyB l0 l0.length).length := by show (bodyB l0 l0.length).toArray.size = _; simp
          have z2 : (⟨(offB l0 l0.length).toArray⟩ : ByteArray).size = (offB l0 l0.length).length := by show (offB l0 l0.length).toArray.size = _; simp
          have z3 := fixE_size (rc : Int) 1
          generalize fixB (rc : Int) 1 = fx at HF HEN z3
          generalize (⟨(bodyB l0 l0.length).toArray⟩ : ByteArray) = sb at hs1 HEN z1
          generalize (⟨(offB l0 l0.length).toArray⟩ : ByteArray) = so at HS2 HEN z2
          have q1 : (9223372036854775807 < sb.size + so.size) = False := eq_false (by omega)
          have q2 : (9223372036854775807 < sb.size + so.size + fx.size) = False := eq_false (by omega)
          clear hbl hol hnb hno z1 z2 z3 hrc
          go_wp2_with (first | (go_at_call_of 74 (Value.pointer (some ⟨w.heap.size, 0, none⟩)); refine hs1.mono ?_; rintro e w2 ⟨rfl, hb2, hk2, _⟩; have HB2 := Aside0.mk hb2; have hs2 := HS2.out w2 hk2; clear hb2 hk2) | (go_at_call 74; refine hs2.mono ?_; rintro e w3 ⟨rfl, hb3⟩; have HB3 := Aside0.mk hb3; clear hb3 hs2) | (go_at_call 71; refine (HF.out _).mono ?_; rintro e w4 ⟨rfl, hb4⟩; have HB4 := Aside0.mk hb4; clear hb4))
          go_ret
          exact ⟨by rw [HEN.out]; rfl, HB.out.trans (HB2.out.trans (HB3.out.trans (HB4.out.mono (Nat.le_trans HB.out.size (Nat.le_trans HB2.out.size HB3.out.size)))))⟩
    · rw [if_neg ha] at h
      cases h
  · rw [if_neg hl] at h
    cases h
end Go.Proofs.Ytogndjjoeahccaa.Q
