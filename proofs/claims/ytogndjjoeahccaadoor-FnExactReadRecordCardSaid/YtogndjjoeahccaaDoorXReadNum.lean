/- The contract of the program's readNumbers at a list of one word. Conditions: the list lies in the world; the library's variables are laid (TW). -/
import Derived.Lib.ParseIntBTie
import Derived.Test.YtogndjjoeahccaaDoorXDecimal
namespace Go.Proofs.YtogndjjoeahccaaDoor.Q
open Go.RowKit Go.Sort Go.Proofs.YtogndjjoeahccaaDoorW.PrintWords Go.Proofs.YtogndjjoeahccaaDoorW.PrintMore
set_option linter.unusedVariables false
theorem infoI : (Tryd.prog.info? 2).map (fun i => (i.zero, i.size, i.bytes)) = some (some (.int .i64 0), 1, 8) := by kernel_rfl
def rdN (x : ByteArray) : Option Int := match Lib.parseIntB 64 x.data.toList with
  | .ok v => if decB v = x then some v else none
  | _ => none
def impl_readNumbers.f (l : List ByteArray) : Option (List Int × Bool) := match l with
  | [x] => if x.size ≤ 281474976710656 then some (match rdN x with | some v => ([v], true) | none => ([], false)) else none
  | _ => none
set_option maxHeartbeats 4000000 in
set_option maxRecDepth 100000 in
theorem impl_readNumbers.calls (A : Option Addr) (c : Nat) (l : List ByteArray) (r1 : List Int) (r2 : Bool) (w : World) (hr : Kd.C Kd.string w A l.length l) (hc : l.length ≤ c) (htw : TW w) (h : impl_readNumbers.f l = some (r1, r2)) :
    Calls Tryd.prog 20 #[.slice A l.length c] w fun e w' => ∃ v0_ : Value, e = .returned (.tuple #[v0_, .bool r2]) ∧ Kd.R (Kd.int .i64) 2 w' w.heap.size (fun _ => True) v0_ r1 ∧ Below w.heap.size w w' := by
  unfold impl_readNumbers.f at h
  match l, hr, hc, h with
  | [x], hr, hc, h =>
    simp only at h
    by_cases hx : x.size ≤ 281474976710656
    · rw [if_pos hx] at h
      replace h := Option.some.inj h
      obtain ⟨ad, rfl, hcell⟩ := Kd.at_string hr (0 : Int) (by omega) (by simp)
      rw [show ((0 : Int).toNat) = 0 from rfl, show rdOf ByteArray.empty [x] (0 : Int) = x from rfl] at hcell
      replace hcell : w.cell? ad = some (.string x) := by simpa [Go.Addr.add] using hcell
      have HTW := Aside0.mk htw
      clear htw hr
      have hlti : (0 : Int) < (([x] : List ByteArray).length : Int) := by simp
      have e1 : (([x] : List ByteArray).length : Int) = 1 := rfl
      have e2 : ([x] : List ByteArray).length = 1 := rfl
      rw [e2] at hc ⊢
      have hHR := Aside0.mk (Kd.R_nil (Kd.int .i64) 2 w w.heap.size (fun _ => True))
      cases hp : Lib.parseIntB 64 x.data.toList with
      | ok v =>
        have hb := Lib.parseIntB_bounds hp
        have hcon := (Any.strconv_ParseInt_10_at64_ok Tryd.parseL x (by omega) v hp w).mono (R' := fun e w' => e = .returned (.tuple #[.int .i64 v, .nilIface]) ∧ Below w.heap.size w w') (by
          rintro e w' ⟨rfl, hw⟩
          refine ⟨rfl, ?_⟩
          rcases hw with rfl | ⟨t, rfl⟩
          · exact Below.refl _ _
          · exact Lib.bytesWorld_below _ _ _)
        change Calls Tryd.prog 33 _ _ _ at hcon
        have hdec := fun (w1 : World) (h1 : Below w.heap.size w w1) => impl_decimal.calls v (decB v) w1 (TW_below HTW.out h1) (by unfold impl_decimal.f; rw [if_pos (by have := hb.1; have := hb.2; omega)])
        have hrd : rdN x = if decB v = x then some v else none := by unfold rdN; rw [hp]
        rw [hrd] at h
        clear hrd hp hb
        generalize decB v = y at hdec h
        by_cases hy : y = x
        · rw [if_pos hy] at h
          obtain ⟨rfl, rfl⟩ := Prod.mk.inj h
          clear h
          subst hy
          go_enter Tryd.func20, Tryd.ntmps20
          go_wp2
          go_loopg [4, 11] 1 (fun gg s4 s11 wr => (s11 = .int .i64 0 ∧ 1 ≤ gg ∧ Aside0 (Kd.R (Kd.int .i64) 2 wr w.heap.size (fun _ => True) s4 []) ∧ w = wr) ∨ (s11 = .int .i64 1 ∧ Aside0 (Kd.R (Kd.int .i64) 2 wr w.heap.size (fun _ => True) s4 [v]) ∧ Aside0 (Below w.heap.size w wr)))
          case atStart => exact .inl ⟨rfl, Nat.le_refl _, hHR, rfl⟩
          case round =>
            rcases hrel with ⟨rfl, hgg, HO, rfl⟩ | ⟨rfl, HO, HB⟩
            · go_wp2_with (first | (go_at_call 33; refine hcon.mono ?_; rintro e w1 ⟨rfl, hb1⟩) | (go_at_call 34; refine (hdec _ ?hbw).mono ?_; (case hbw => exact hb1); rintro e w2 ⟨rfl, hb2⟩; have HO2 := Aside0.mk (Kd.R_below (Kd.R_below HO.out hb1) hb2); have HB2 := Aside0.mk (below_step hb1 hb2); clear hb1 hb2) | ((with_reducible refine gate_builtin (b := .append) (xs := #[.tmp 28, .tmp 30]) rfl ?_); go_loud (at_builtin; refine Kd.R_append (Kd.int .i64) (w0 := w) w.heap.size rfl (.tmp 28) (.tmp 30) 41 2 (.int .i64 0) 8 rfl Tryd.underlying41 infoI rfl (by decide) (by omega) _ [] v [.int .i64 v] (fun _ => True) (fun _ => False) rfl rfl ?aP (fun _ hk => hk.elim) ?aF ?aO ?aB ?aS ?aL ?_; (case aP => exact rfl); (case aF => exact (fun _ _ => trivial)); (case aO => exact (by (with_reducible repeat (first | apply Kd.R_alloc | apply Kd.R_drewN | apply Kd.R_drew)); exact HO2.out)); (case aB => exact (by repeat (first | (with_reducible first | exact HB2.out | apply below_alloc | apply pw_below_drewN | apply below_drew1) | exact HB2.out))); (case aS => exact (below_size (by repeat (first | (with_reducible first | exact HB2.out | apply below_alloc | apply pw_below_drewN | apply below_drew1) | exact HB2.out)))); (case aL => simp); intro v8 w8 ho8 hb8 hg8 hat8; have HO8 := Aside0.mk ho8; have HB8 := Aside0.mk hb8; clear ho8 hb8 hg8 hat8)))
              go_roundg 0
              case measure => omega
              case rel => exact .inr ⟨rfl, HO8, HB8⟩
            · go_wp2
              go_ret2
              exact ⟨_, rfl, HO.out, HB.out⟩
        · rw [if_neg hy] at h
          obtain ⟨rfl, rfl⟩ := Prod.mk.inj h
          clear h
          have hyx : (y.toList == x.toList) = false := by
            rw [Bool.eq_false_iff]
            intro e
            have e2 : y.toList = x.toList := by simpa using e
            rw [Lib.toList_data, Lib.toList_data] at e2
            exact hy (ByteArray.ext (Array.ext' e2))
          go_enter Tryd.func20, Tryd.ntmps20
          go_wp2
          refine wp_loop_rounds 2 ?_
          rw [rounds_succ]
          go_wp2_with (first | (go_at_call 33; refine hcon.mono ?_; rintro e w1 ⟨rfl, hb1⟩) | (go_at_call 34; refine (hdec _ ?hbw).mono ?_; (case hbw => exact hb1); rintro e w2 ⟨rfl, hb2⟩))
          go_ret2
          exact ⟨_, rfl, Kd.R_nil _ _ _ _ _, below_step hb1 hb2⟩
      | «syntax» =>
        have hrd : rdN x = none := by unfold rdN; rw [hp]
        rw [hrd] at h
        obtain ⟨ev, hev, hk⟩ := HTW.out.2.2.1
        have hcon := (Any.strconv_ParseInt_10_at64_syntax Tryd.parseL x hx hp ev w hev hk)
        change Calls Tryd.prog 33 _ _ _ at hcon
        clear hrd hp hev hk
        obtain ⟨rfl, rfl⟩ := Prod.mk.inj h
        clear h
        go_enter Tryd.func20, Tryd.ntmps20
        go_wp2
        refine wp_loop_rounds 2 ?_
        rw [rounds_succ]
        go_wp2_with (go_at_call 33; refine hcon.mono ?_; rintro e w1 ⟨N1, rfl, _, _, hb1⟩)
        go_ret2
        exact ⟨_, rfl, Kd.R_nil _ _ _ _ _, hb1⟩
      | range =>
        have hrd : rdN x = none := by unfold rdN; rw [hp]
        rw [hrd] at h
        obtain ⟨ev, hev, hk⟩ := HTW.out.2.2.2
        have hcon := (Any.strconv_ParseInt_10_at64_range Tryd.parseL x hx hp ev w hev hk)
        change Calls Tryd.prog 33 _ _ _ at hcon
        generalize Lib.intSat 64 x.data.toList = v at hcon
        clear hrd hp hev hk
        obtain ⟨rfl, rfl⟩ := Prod.mk.inj h
        clear h
        go_enter Tryd.func20, Tryd.ntmps20
        go_wp2
        refine wp_loop_rounds 2 ?_
        rw [rounds_succ]
        go_wp2_with (go_at_call 33; refine hcon.mono ?_; rintro e w1 ⟨N1, rfl, _, _, hb1⟩)
        go_ret2
        exact ⟨_, rfl, Kd.R_nil _ _ _ _ _, hb1⟩
    · rw [if_neg hx] at h
      cases h
  | [], hr, hc, h => cases h
  | _ :: _ :: _, hr, hc, h => cases h
end Go.Proofs.YtogndjjoeahccaaDoor.Q
