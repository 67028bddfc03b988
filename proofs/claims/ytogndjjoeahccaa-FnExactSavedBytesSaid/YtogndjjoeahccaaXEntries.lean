/- The contract of the program's entries. Conditions: those before each theorem. -/
import Derived.Test.YtogndjjoeahccaaQ8
import Derived.Test.YtogndjjoeahccaaDecNum
import Derived.Lib.Bytealg
import Derived.Deep.RegionHeld3
import Derived.Deep.RegionWith
import Derived.Deep.DeepCutAuto
namespace Go.Proofs.Ytogndjjoeahccaa.Q
open Go.RowKit Go.Proofs.YtogndjjoeahccaaW.PrintWords Go.Proofs.YtogndjjoeahccaaW.PrintMore Go.Proofs.YtogndjjoeahccaaW.PrintLast
set_option linter.unusedVariables false
def entKey (s key : ByteArray) : ByteArray := key.extract 0 (btN s 0) ++ s.extract 7 (7 + btN s 1)
def entText (s : ByteArray) : ByteArray := s.extract (7 + btN s 1) (7 + btN s 1 + btN s 6)
def entRec (s key : ByteArray) : S49 := if btN s 5 = 3 then ⟨entKey s key, ((numN (s.extract 2 5) 3 : Nat) : Int), ((btN s 5 : Nat) : Int), ⟨#[]⟩, entText s⟩ else ⟨entKey s key, ((numN (s.extract 2 5) 3 : Nat) : Int), ((btN s 5 : Nat) : Int), entText s, ⟨#[]⟩⟩
def entRest (s : ByteArray) : ByteArray := s.extract (7 + btN s 1 + btN s 6) s.size
def pEnt : Nat → ByteArray → List S49 → ByteArray → List S49 × Bool
  | 0, _, _, _ => ([], false)
  | d + 1, s, acc, key => if s.size = 0 then (acc, true) else if s.size < 7 then ([], false) else if btN s 0 > key.size then ([], false) else if s.size < 7 + btN s 1 + btN s 6 then ([], false) else pEnt d (entRest s) (acc ++ [entRec s key]) (entKey s key)
def impl_entries.f (s : ByteArray) : Option (List S49 × Bool) := if s.size ≤ 1048576 then some (pEnt (s.size + 1) s [] ⟨#[]⟩) else none
theorem idx_byte (s : ByteArray) (i n : Nat) (hn : btN s i = n) : ∀ h : i < s.size, ((s[i]'h).toNat : Int) = (n : Int) := fun h => by rw [← bt_get s i h, btN_eq, hn]
theorem wrap_small (n : Nat) (h : n ≤ 1000000000) : IntKind.i64.wrap (n : Int) = (n : Int) ∧ wrap64 (n : Int) = (n : Int) := ⟨wraps_i64 _ (by omega) (by omega), wrap64_id (by omega) (by omega)⟩
theorem wrap_sums (m o e1 e2 : Nat) (hm : m < 256) (ho : o < 256) (h1 : e1 = 7 + m) (h2 : e2 = 7 + m + o) :
    wrap64 (7 + (m : Int)) = (e1 : Int) ∧ wrap64 ((e1 : Int) + (o : Int)) = (e2 : Int) ∧ IntKind.i64.wrap (7 + (m : Int)) = (e1 : Int) ∧ IntKind.i64.wrap ((e1 : Int) + (o : Int)) = (e2 : Int) := by
  have x1 : (7 + (m : Int)) = (e1 : Int) := by omega
  have x2 : ((e1 : Int) + (o : Int)) = (e2 : Int) := by omega
  rw [x1, x2]
  exact ⟨(wrap_small e1 (by omega)).2, (wrap_small e2 (by omega)).2, (wrap_small e1 (by omega)).1, (wrap_small e2 (by omega)).1⟩
theorem ba_sub (s : ByteArray) (i j d : Nat) (h : j ≤ s.size) (hd : j - i = d) : (s.extract i j).size = d := by
  rw [ByteArray.size_extract]
  omega
theorem toList_nil (s : ByteArray) (h : s.size = 0) : s.toList = [] := by
  have h1 := data_length s
  rw [← Lib.toList_data, h] at h1
  exact List.eq_nil_of_length_eq_zero h1
theorem toList_ne (s : ByteArray) (h : ¬ s.size = 0) : ¬ s.toList = [] := fun e => h (by
  have h1 := data_length s
  rw [← Lib.toList_data, e] at h1
  simpa using h1.symm)
set_option linter.unusedSimpArgs false in
set_option maxHeartbeats 8000000 in
set_option maxRecDepth 100000 in
theorem impl_entries.calls (a0 : ByteArray) (r1 : List S49) (r2 : Bool) (w : World) (h : impl_entries.f a0 = some (r1, r2)) :
    Calls Try.prog 76 #[.string a0] w fun e w' => ∃ v0_ : Value, e = .returned (.tuple #[v0_, .bool r2]) ∧ Kd.R k49 49 w' w.heap.size (fun _ => True) v0_ r1 ∧ Below w.heap.size w w' := by
  unfold impl_entries.f at h
  by_cases hl : a0.size ≤ 1048576
  · rw [if_pos hl] at h
    have H0 := Aside0.mk (Option.some.inj h)
    have HB0 := Aside0.mk (Below.refl w.heap.size w)
    clear h
    go_enter Try.func76, Try.ntmps76
    go_wp2
    go_loopg [0, 4, 5] (a0.size + 1) (fun kq v0 v4 v5 wr => ∃ (s : ByteArray) (acc : List S49) (key : ByteArray), v0 = .string s ∧ v5 = .string key ∧ s.size < kq ∧ s.size ≤ 1048576 ∧ key.size ≤ 1000 ∧ Aside0 (acc.length ≤ 1048576 - s.size) ∧ Aside0 (pEnt kq s acc key = (r1, r2)) ∧ Aside0 (Kd.R k49 49 wr w.heap.size (fun _ => True) v4 acc) ∧ Aside0 (Below w.heap.size w wr))
    case atStart => exact ⟨a0, [], ⟨#[]⟩, rfl, rfl, by omega, hl, by decide, ⟨Nat.zero_le _⟩, H0, ⟨Kd.R_nil _ _ _ _ _⟩, HB0⟩
    case round =>
      clear H0
      obtain ⟨s, acc, key, rfl, rfl, hlt, hs, hk, HAL, HE, HO, HB⟩ := hrel
      cases gk with
      | zero => exact absurd hlt (Nat.not_lt_zero _)
      | succ kj =>
        by_cases hz : s.size = 0
        · have hE := toList_nil s hz
          have HR : Aside0 (acc = r1 ∧ true = r2) := ⟨by have := HE.out; unfold pEnt at this; rw [if_pos hz] at this; exact Prod.mk.inj this⟩
          clear hlt hz
          go_wp2
          go_ret2
          obtain ⟨h1, h2⟩ := HR.out
          subst h1; subst h2
          exact ⟨_, rfl, HO.out, HB.out⟩
        · have hE := toList_ne s hz
          have hE2 : (s.toList == []) = false := beq_eq_false_iff_ne.2 hE
          by_cases h7 : s.size < 7
          · have HR : Aside0 ([] = r1 ∧ false = r2) := ⟨by have := HE.out; unfold pEnt at this; rw [if_neg hz, if_pos h7] at this; exact Prod.mk.inj this⟩
            have h7i : (s.size : Int) < 7 := by omega
            clear hlt hz
            go_wp2
            go_ret2
            obtain ⟨h1, h2⟩ := HR.out
            subst h1; subst h2
            exact ⟨_, rfl, Kd.R_nil _ _ _ _ _, HB.out⟩
          · have h7i : ¬ (s.size : Int) < 7 := by omega
            obtain ⟨n, hn⟩ : ∃ n, btN s 0 = n := ⟨_, rfl⟩
            obtain ⟨m, hm⟩ : ∃ m, btN s 1 = m := ⟨_, rfl⟩
            obtain ⟨o, ho⟩ : ∃ o, btN s 6 = o := ⟨_, rfl⟩
            have hn2 : n < 256 := by rw [← hn]; exact btN_lt s 0
            have hm2 : m < 256 := by rw [← hm]; exact btN_lt s 1
            have ho2 : o < 256 := by rw [← ho]; exact btN_lt s 6
            have hx0 := idx_byte s 0 n hn
            have hx1 := idx_byte s 1 m hm
            have hx6 := idx_byte s 6 o ho
            have hp0 : 0 < s.size := by omega
            have hp1 : 1 < s.size := by omega
            have hp6 : 6 < s.size := by omega
            have hq0 : (0 : Int) < (s.size : Int) := by omega
            have hq1 : (1 : Int) < (s.size : Int) := by omega
            have hq6 : (6 : Int) < (s.size : Int) := by omega
            have HE' := Aside0.mk (show (if n > key.size then (([] : List S49), false) else if s.size < 7 + m + o then ([], false) else pEnt kj (entRest s) (acc ++ [entRec s key]) (entKey s key)) = (r1, r2) from by
              have := HE.out
              unfold pEnt at this
              rwa [if_neg hz, if_neg h7, hn, hm, ho] at this)
            have HNB : Aside0 (n ≤ 1000000000) := ⟨by omega⟩
            have HMB : Aside0 (m ≤ 1000000000) := ⟨by omega⟩
            have HOB : Aside0 (o ≤ 1000000000) := ⟨by omega⟩
            have HN := Aside0.mk hn
            have HM := Aside0.mk hm
            have HOO := Aside0.mk ho
            clear hn hm ho hz HE
            by_cases c1 : n > key.size
            · have HR : Aside0 ([] = r1 ∧ false = r2) := ⟨by have := HE'.out; rw [if_pos c1] at this; exact Prod.mk.inj this⟩
              have c1i : (key.size : Int) < (n : Int) := by omega
              have c1d : decide ((key.size : Int) < (n : Int)) = true := decide_eq_true c1i
              have c1e : decide (key.size < n) = true := decide_eq_true c1
              obtain ⟨hwn, hwn2⟩ := wrap_small n HNB.out
              obtain ⟨hwm, hwm2⟩ := wrap_small m HMB.out
              obtain ⟨hwo, hwo2⟩ := wrap_small o HOB.out
              go_wp2_with fail
              refine start_ (n := 12) (S := fun w' => True) (ds := []) #[false, false, false, false, false, false, false, false, false, false, false, false] (by kernel_rfl) rfl rfl trivial (fun hHeld => ?_)
              refine pure_ (i := 0) (N := some 16) (v := ?_) (a' := ?_) #[true, false, false, false, false, false, false, false, false, false, false, false] rfl rfl (by kernel_rfl) (fun _ _ _ h => h) (Or.inl ⟨by rfl, ?_⟩) ?_ ?_
              rotate_left
              · intro w'
                go_simp
                with_reducible rfl
              rotate_left
              · simp only [Act.put, List.setIfInBounds_toArray, List.set_cons_zero, List.set_cons_succ, i64_w, i32_w]
                rfl
              refine pure_ (i := 3) (N := some 19) (v := ?_) (a' := ?_) #[true, false, false, true, false, false, false, false, false, false, false, false] rfl rfl (by kernel_rfl) (fun _ _ _ h => h) (Or.inl ⟨by rfl, ?_⟩) ?_ ?_
              rotate_left
              · intro w'
                go_simp
                with_reducible rfl
              rotate_left
              · simp only [Act.put, List.setIfInBounds_toArray, List.set_cons_zero, List.set_cons_succ, i64_w, i32_w]
                rfl
              refine pure_ (i := 6) (N := some 22) (v := ?_) (a' := ?_) #[true, false, false, true, false, false, true, false, false, false, false, false] rfl rfl (by kernel_rfl) (fun _ _ _ h => h) (Or.inl ⟨by rfl, ?_⟩) ?_ ?_
              rotate_left
              · intro w'
                go_simp
                with_reducible rfl
              rotate_left
              · simp only [Act.put, List.setIfInBounds_toArray, List.set_cons_zero, List.set_cons_succ, i64_w, i32_w]
                rfl
              refine take_ (i := 1) (N := some 17) (v := ?_) (a' := ?_) #[true, true, false, true, false, false, true, false, false, false, false, false] rfl rfl (by kernel_rfl) (fun _ _ _ h => h) (Or.inl ⟨by rfl, ?_⟩) hHeld ?_ ?_
              rotate_left
              · intro w' _
                go_simp
                with_reducible rfl
              rotate_left
              · simp only [Act.put, List.setIfInBounds_toArray, List.set_cons_zero, List.set_cons_succ, i64_w, i32_w]
                rfl
              refine pure_ (i := 2) (N := some 18) (v := ?_) (a' := ?_) #[true, true, true, true, false, false, true, false, false, false, false, false] rfl rfl (by kernel_rfl) (fun _ _ _ h => h) (Or.inl ⟨by rfl, ?_⟩) ?_ ?_
              rotate_left
              · intro w'
                go_simp
                with_reducible rfl
              rotate_left
              · simp only [Act.put, List.setIfInBounds_toArray, List.set_cons_zero, List.set_cons_succ, i64_w, i32_w]
                rfl
              refine pure_ (i := 9) (N := some 6) (v := ?_) (a' := ?_) #[true, true, true, true, false, false, true, false, false, true, false, false] rfl rfl (by kernel_rfl) (fun _ _ _ h => h) (Or.inl ⟨by rfl, ?_⟩) ?_ ?_
              rotate_left
              · intro w'
                go_simp
                with_reducible rfl
              rotate_left
              · simp only [Act.put, List.setIfInBounds_toArray, List.set_cons_zero, List.set_cons_succ, i64_w, i32_w]
                rfl
              refine take_ (i := 4) (N := some 20) (v := ?_) (a' := ?_) #[true, true, true, true, true, false, true, false, false, true, false, false] rfl rfl (by kernel_rfl) (fun _ _ _ h => h) (Or.inl ⟨by rfl, ?_⟩) hHeld ?_ ?_
              rotate_left
              · intro w' _
                go_simp
                with_reducible rfl
              rotate_left
              · simp only [Act.put, List.setIfInBounds_toArray, List.set_cons_zero, List.set_cons_succ, i64_w, i32_w]
                rfl
              refine pure_ (i := 5) (N := some 21) (v := ?_) (a' := ?_) #[true, true, true, true, true, true, true, false, false, true, false, false] rfl rfl (by kernel_rfl) (fun _ _ _ h => h) (Or.inl ⟨by rfl, ?_⟩) ?_ ?_
              rotate_left
              · intro w'
                go_simp
                with_reducible rfl
              rotate_left
              · simp only [Act.put, List.setIfInBounds_toArray, List.set_cons_zero, List.set_cons_succ, i64_w, i32_w]
                rfl
              refine pure_ (i := 10) (N := some 7) (v := ?_) (a' := ?_) #[true, true, true, true, true, true, true, false, false, true, true, false] rfl rfl (by kernel_rfl) (fun _ _ _ h => h) (Or.inl ⟨by rfl, ?_⟩) ?_ ?_
              rotate_left
              · intro w'
                go_simp
                with_reducible rfl
              rotate_left
              · simp only [Act.put, List.setIfInBounds_toArray, List.set_cons_zero, List.set_cons_succ, i64_w, i32_w]
                rfl
              refine take_ (i := 7) (N := some 23) (v := ?_) (a' := ?_) #[true, true, true, true, true, true, true, true, false, true, true, false] rfl rfl (by kernel_rfl) (fun _ _ _ h => h) (Or.inl ⟨by rfl, ?_⟩) hHeld ?_ ?_
              rotate_left
              · intro w' _
                go_simp
                with_reducible rfl
              rotate_left
              · simp only [Act.put, List.setIfInBounds_toArray, List.set_cons_zero, List.set_cons_succ, i64_w, i32_w]
                rfl
              refine pure_ (i := 8) (N := some 24) (v := ?_) (a' := ?_) #[true, true, true, true, true, true, true, true, true, true, true, false] rfl rfl (by kernel_rfl) (fun _ _ _ h => h) (Or.inl ⟨by rfl, ?_⟩) ?_ ?_
              rotate_left
              · intro w'
                go_simp
                with_reducible rfl
              rotate_left
              · simp only [Act.put, List.setIfInBounds_toArray, List.set_cons_zero, List.set_cons_succ, i64_w, i32_w]
                rfl
              refine pure_ (i := 11) (N := some 8) (v := ?_) (a' := ?_) #[true, true, true, true, true, true, true, true, true, true, true, true] rfl rfl (by kernel_rfl) (fun _ _ _ h => h) (Or.inl ⟨by rfl, ?_⟩) ?_ ?_
              rotate_left
              · intro w'
                go_simp
                with_reducible rfl
              rotate_left
              · simp only [Act.put, List.setIfInBounds_toArray, List.set_cons_zero, List.set_cons_succ, i64_w, i32_w]
                rfl
              refine done_ (by kernel_rfl) ?_
              go_wp2
              go_ret2
              obtain ⟨h1, h2⟩ := HR.out
              subst h1; subst h2
              exact ⟨_, rfl, Kd.R_nil _ _ _ _ _, HB.out.drew⟩
            · have c1i : ¬ (key.size : Int) < (n : Int) := by omega
              have c1d : decide ((key.size : Int) < (n : Int)) = false := decide_eq_false c1i
              have c1e : decide (key.size < n) = false := decide_eq_false c1
              have hnk : n ≤ key.size := by omega
              by_cases c2 : s.size < 7 + m + o
              · have HR : Aside0 ([] = r1 ∧ false = r2) := ⟨by have := HE'.out; rw [if_neg c1, if_pos c2] at this; exact Prod.mk.inj this⟩
                obtain ⟨e1, he1⟩ : ∃ e1 : Nat, e1 = 7 + m := ⟨_, rfl⟩
                obtain ⟨e2, he2⟩ : ∃ e2 : Nat, e2 = 7 + m + o := ⟨_, rfl⟩
                have c2d : decide ((s.size : Int) < (e2 : Int)) = true := decide_eq_true (by omega)
                have c2e : decide (s.size < e2) = true := decide_eq_true (by omega)
                obtain ⟨hW1, hW2, hW3, hW4⟩ := wrap_sums m o e1 e2 hm2 ho2 he1 he2
                clear he1 he2 c2 hm2 ho2 hn2
                obtain ⟨hwn, hwn2⟩ := wrap_small n HNB.out
                obtain ⟨hwm, hwm2⟩ := wrap_small m HMB.out
                obtain ⟨hwo, hwo2⟩ := wrap_small o HOB.out
                go_wp2_with fail
                refine start_ (n := 12) (S := fun w' => True) (ds := []) #[false, false, false, false, false, false, false, false, false, false, false, false] (by kernel_rfl) rfl rfl trivial (fun hHeld => ?_)
                refine pure_ (i := 0) (N := some 16) (v := ?_) (a' := ?_) #[true, false, false, false, false, false, false, false, false, false, false, false] rfl rfl (by kernel_rfl) (fun _ _ _ h => h) (Or.inl ⟨by rfl, ?_⟩) ?_ ?_
                rotate_left
                · intro w'
                  go_simp
                  with_reducible rfl
                rotate_left
                · simp only [Act.put, List.setIfInBounds_toArray, List.set_cons_zero, List.set_cons_succ, i64_w, i32_w]
                  rfl
                refine pure_ (i := 3) (N := some 19) (v := ?_) (a' := ?_) #[true, false, false, true, false, false, false, false, false, false, false, false] rfl rfl (by kernel_rfl) (fun _ _ _ h => h) (Or.inl ⟨by rfl, ?_⟩) ?_ ?_
                rotate_left
                · intro w'
                  go_simp
                  with_reducible rfl
                rotate_left
                · simp only [Act.put, List.setIfInBounds_toArray, List.set_cons_zero, List.set_cons_succ, i64_w, i32_w]
                  rfl
                refine pure_ (i := 6) (N := some 22) (v := ?_) (a' := ?_) #[true, false, false, true, false, false, true, false, false, false, false, false] rfl rfl (by kernel_rfl) (fun _ _ _ h => h) (Or.inl ⟨by rfl, ?_⟩) ?_ ?_
                rotate_left
                · intro w'
                  go_simp
                  with_reducible rfl
                rotate_left
                · simp only [Act.put, List.setIfInBounds_toArray, List.set_cons_zero, List.set_cons_succ, i64_w, i32_w]
                  rfl
                refine take_ (i := 1) (N := some 17) (v := ?_) (a' := ?_) #[true, true, false, true, false, false, true, false, false, false, false, false] rfl rfl (by kernel_rfl) (fun _ _ _ h => h) (Or.inl ⟨by rfl, ?_⟩) hHeld ?_ ?_
                rotate_left
                · intro w' _
                  go_simp
                  with_reducible rfl
                rotate_left
                · simp only [Act.put, List.setIfInBounds_toArray, List.set_cons_zero, List.set_cons_succ, i64_w, i32_w]
                  rfl
                refine pure_ (i := 2) (N := some 18) (v := ?_) (a' := ?_) #[true, true, true, true, false, false, true, false, false, false, false, false] rfl rfl (by kernel_rfl) (fun _ _ _ h => h) (Or.inl ⟨by rfl, ?_⟩) ?_ ?_
                rotate_left
                · intro w'
                  go_simp
                  with_reducible rfl
                rotate_left
                · simp only [Act.put, List.setIfInBounds_toArray, List.set_cons_zero, List.set_cons_succ, i64_w, i32_w]
                  rfl
                refine pure_ (i := 9) (N := some 6) (v := ?_) (a' := ?_) #[true, true, true, true, false, false, true, false, false, true, false, false] rfl rfl (by kernel_rfl) (fun _ _ _ h => h) (Or.inl ⟨by rfl, ?_⟩) ?_ ?_
                rotate_left
                · intro w'
                  go_simp
                  with_reducible rfl
                rotate_left
                · simp only [Act.put, List.setIfInBounds_toArray, List.set_cons_zero, List.set_cons_succ, i64_w, i32_w]
                  rfl
                refine take_ (i := 4) (N := some 20) (v := ?_) (a' := ?_) #[true, true, true, true, true, false, true, false, false, true, false, false] rfl rfl (by kernel_rfl) (fun _ _ _ h => h) (Or.inl ⟨by rfl, ?_⟩) hHeld ?_ ?_
                rotate_left
                · intro w' _
                  go_simp
                  with_reducible rfl
                rotate_left
                · simp only [Act.put, List.setIfInBounds_toArray, List.set_cons_zero, List.set_cons_succ, i64_w, i32_w]
                  rfl
                refine pure_ (i := 5) (N := some 21) (v := ?_) (a' := ?_) #[true, true, true, true, true, true, true, false, false, true, false, false] rfl rfl (by kernel_rfl) (fun _ _ _ h => h) (Or.inl ⟨by rfl, ?_⟩) ?_ ?_
                rotate_left
                · intro w'
                  go_simp
                  with_reducible rfl
                rotate_left
                · simp only [Act.put, List.setIfInBounds_toArray, List.set_cons_zero, List.set_cons_succ, i64_w, i32_w]
                  rfl
                refine pure_ (i := 10) (N := some 7) (v := ?_) (a' := ?_) #[true, true, true, true, true, true, true, false, false, true, true, false] rfl rfl (by kernel_rfl) (fun _ _ _ h => h) (Or.inl ⟨by rfl, ?_⟩) ?_ ?_
                rotate_left
                · intro w'
                  go_simp
                  with_reducible rfl
                rotate_left
                · simp only [Act.put, List.setIfInBounds_toArray, List.set_cons_zero, List.set_cons_succ, i64_w, i32_w]
                  rfl
                refine take_ (i := 7) (N := some 23) (v := ?_) (a' := ?_) #[true, true, true, true, true, true, true, true, false, true, true, false] rfl rfl (by kernel_rfl) (fun _ _ _ h => h) (Or.inl ⟨by rfl, ?_⟩) hHeld ?_ ?_
                rotate_left
                · intro w' _
                  go_simp
                  with_reducible rfl
                rotate_left
                · simp only [Act.put, List.setIfInBounds_toArray, List.set_cons_zero, List.set_cons_succ, i64_w, i32_w]
                  rfl
                refine pure_ (i := 8) (N := some 24) (v := ?_) (a' := ?_) #[true, true, true, true, true, true, true, true, true, true, true, false] rfl rfl (by kernel_rfl) (fun _ _ _ h => h) (Or.inl ⟨by rfl, ?_⟩) ?_ ?_
                rotate_left
                · intro w'
                  go_simp
                  with_reducible rfl
                rotate_left
                · simp only [Act.put, List.setIfInBounds_toArray, List.set_cons_zero, List.set_cons_succ, i64_w, i32_w]
                  rfl
                refine pure_ (i := 11) (N := some 8) (v := ?_) (a' := ?_) #[true, true, true, true, true, true, true, true, true, true, true, true] rfl rfl (by kernel_rfl) (fun _ _ _ h => h) (Or.inl ⟨by rfl, ?_⟩) ?_ ?_
                rotate_left
                · intro w'
                  go_simp
                  with_reducible rfl
                rotate_left
                · simp only [Act.put, List.setIfInBounds_toArray, List.set_cons_zero, List.set_cons_succ, i64_w, i32_w]
                  rfl
                refine done_ (by kernel_rfl) ?_
                go_wp2
                go_ret2
                obtain ⟨h1, h2⟩ := HR.out
                subst h1; subst h2
                exact ⟨_, rfl, Kd.R_nil _ _ _ _ _, HB.out.drew⟩
              · have c2i := c2
                obtain ⟨e1, he1⟩ : ∃ e1 : Nat, e1 = 7 + m := ⟨_, rfl⟩
                obtain ⟨e2, he2⟩ : ∃ e2 : Nat, e2 = 7 + m + o := ⟨_, rfl⟩
                have HE3 := Aside0.mk (show pEnt kj (entRest s) (acc ++ [entRec s key]) (entKey s key) = (r1, r2) from by have := HE'.out; rwa [if_neg c1, if_neg c2] at this)
                have HE1 := Aside0.mk he1
                have HE2 := Aside0.mk he2
                have b1 : e1 ≤ e2 := by omega
                have b2 : e2 ≤ s.size := by omega
                have b3 : 7 ≤ e1 := by omega
                have b4 : e1 ≤ s.size := by omega
                have b3i : (7 : Int) ≤ (e1 : Int) := by omega
                have hsum : (9223372036854775807 < n + (e1 - 7)) = False := eq_false (by omega)
                have c2d : decide ((s.size : Int) < (e2 : Int)) = false := decide_eq_false (by omega)
                have c2e : decide (s.size < e2) = false := decide_eq_false (by omega)
                obtain ⟨hW1, hW2, hW3, hW4⟩ := wrap_sums m o e1 e2 hm2 ho2 he1 he2
                clear he1 he2 c2i c2 hm2 ho2 hn2
                obtain ⟨z, hz5⟩ : ∃ z, btN s 5 = z := ⟨_, rfl⟩
                have hx5 := idx_byte s 5 z hz5
                have HZB : Aside0 (z ≤ 1000000000) := ⟨by have := btN_lt s 5; omega⟩
                have hp5 : 5 < s.size := by omega
                have hq5 : (5 : Int) < (s.size : Int) := by omega
                have hp52 : 5 ≤ s.size := by omega
                have hq52 : (5 : Int) ≤ (s.size : Int) := by omega
                obtain ⟨q, hq⟩ : ∃ q, numN (s.extract 2 5) 3 = q := ⟨_, rfl⟩
                obtain ⟨kd, A26⟩ : ∃ K, impl_DecodeFixed.f K (s.extract 2 5) = some (q : Int) := by
                  have hk35 : (s.extract 2 5).size = 3 := ba_sub s 2 5 3 hp52 rfl
                  obtain ⟨K, h⟩ := dec_ev (s.extract 2 5) (by omega)
                  have h1 := h K (Nat.le_refl _)
                  dsimp only at h1
                  rw [hk35, hq] at h1
                  exact ⟨K, h1⟩
                have A26 := Aside0.mk A26
                have LMc30 : Aside0 (acc.length < 2199023255552) := ⟨by have := HAL.out; omega⟩
                have hek : entKey s key = key.extract 0 n ++ s.extract 7 e1 := by rw [entKey, HN.out, HM.out, HE1.out]
                have het : entText s = s.extract e1 e2 := by rw [entText, HM.out, HOO.out, HE1.out, HE2.out]
                have hes : entRest s = s.extract e2 s.size := by rw [entRest, HM.out, HOO.out, HE2.out]
                have HS1 : Aside0 ((s.extract e2 s.size).size = s.size - e2) := ⟨ba_sub s e2 s.size _ (Nat.le_refl _) rfl⟩
                have HS2 : Aside0 ((key.extract 0 n ++ s.extract 7 e1).size ≤ 1000) := ⟨by
                  rw [ByteArray.size_append, ba_sub key 0 n n hnk (by omega), ba_sub s 7 e1 (e1 - 7) b4 rfl]
                  have := HE1.out
                  have := HN.out ▸ btN_lt s 0
                  have := HM.out ▸ btN_lt s 1
                  omega⟩
                have HS3 : Aside0 (s.size - e2 < kj) := ⟨by omega⟩
                have HS4 : Aside0 (s.size - e2 ≤ 1048576) := ⟨by omega⟩
                have HS5 : Aside0 (acc.length + 1 ≤ 1048576 - (s.size - e2)) := ⟨by have := HAL.out; omega⟩
                by_cases z3 : z = 3
                · obtain ⟨y252, hy⟩ : ∃ y_ : List S49, y_ = acc ++ [(⟨key.extract 0 n ++ s.extract 7 e1, (q : Int), (z : Int), (⟨#[]⟩ : ByteArray), s.extract e1 e2⟩ : S49)] := ⟨_, rfl⟩
                  have H' : Aside0 (pEnt kj (s.extract e2 s.size) y252 (key.extract 0 n ++ s.extract 7 e1) = (r1, r2)) := ⟨by
                    have := HE3.out
                    unfold entRec at this
                    rw [hek, het, hes, hz5, hq, if_pos z3] at this
                    rw [hy]
                    exact this⟩
                  have HS6 : Aside0 (y252.length ≤ 1048576 - (s.size - e2)) := ⟨by rw [hy, List.length_append]; exact HS5.out⟩
                  have Ny252 := Aside0.mk hy
                  clear hy
                  have c29b0 : ((z : Int) == 3) = true := by subst z3; rfl
                  have c29c : (z == 3) = true := by subst z3; rfl
                  clear z3
                  clear hek het hes hq hz5
                  obtain ⟨hwn, hwn2⟩ := wrap_small n HNB.out
                  obtain ⟨hwm, hwm2⟩ := wrap_small m HMB.out
                  obtain ⟨hwo, hwo2⟩ := wrap_small o HOB.out
                  obtain ⟨hwz, hwz2⟩ := wrap_small z HZB.out
                  go_wp2_with fail
                  refine start_ (n := 12) (S := fun w' => True) (ds := []) #[false, false, false, false, false, false, false, false, false, false, false, false] (by kernel_rfl) rfl rfl trivial (fun hHeld => ?_)
                  refine pure_ (i := 0) (N := some 16) (v := ?_) (a' := ?_) #[true, false, false, false, false, false, false, false, false, false, false, false] rfl rfl (by kernel_rfl) (fun _ _ _ h => h) (Or.inl ⟨by rfl, ?_⟩) ?_ ?_
                  rotate_left
                  · intro w'
                    go_simp
                    with_reducible rfl
                  rotate_left
                  · simp only [Act.put, List.setIfInBounds_toArray, List.set_cons_zero, List.set_cons_succ, i64_w, i32_w]
                    rfl
                  refine pure_ (i := 3) (N := some 19) (v := ?_) (a' := ?_) #[true, false, false, true, false, false, false, false, false, false, false, false] rfl rfl (by kernel_rfl) (fun _ _ _ h => h) (Or.inl ⟨by rfl, ?_⟩) ?_ ?_
                  rotate_left
                  · intro w'
                    go_simp
                    with_reducible rfl
                  rotate_left
                  · simp only [Act.put, List.setIfInBounds_toArray, List.set_cons_zero, List.set_cons_succ, i64_w, i32_w]
                    rfl
                  refine pure_ (i := 6) (N := some 22) (v := ?_) (a' := ?_) #[true, false, false, true, false, false, true, false, false, false, false, false] rfl rfl (by kernel_rfl) (fun _ _ _ h => h) (Or.inl ⟨by rfl, ?_⟩) ?_ ?_
                  rotate_left
                  · intro w'
                    go_simp
                    with_reducible rfl
                  rotate_left
                  · simp only [Act.put, List.setIfInBounds_toArray, List.set_cons_zero, List.set_cons_succ, i64_w, i32_w]
                    rfl
                  refine take_ (i := 1) (N := some 17) (v := ?_) (a' := ?_) #[true, true, false, true, false, false, true, false, false, false, false, false] rfl rfl (by kernel_rfl) (fun _ _ _ h => h) (Or.inl ⟨by rfl, ?_⟩) hHeld ?_ ?_
                  rotate_left
                  · intro w' _
                    go_simp
                    with_reducible rfl
                  rotate_left
                  · simp only [Act.put, List.setIfInBounds_toArray, List.set_cons_zero, List.set_cons_succ, i64_w, i32_w]
                    rfl
                  refine pure_ (i := 2) (N := some 18) (v := ?_) (a' := ?_) #[true, true, true, true, false, false, true, false, false, false, false, false] rfl rfl (by kernel_rfl) (fun _ _ _ h => h) (Or.inl ⟨by rfl, ?_⟩) ?_ ?_
                  rotate_left
                  · intro w'
                    go_simp
                    with_reducible rfl
                  rotate_left
                  · simp only [Act.put, List.setIfInBounds_toArray, List.set_cons_zero, List.set_cons_succ, i64_w, i32_w]
                    rfl
                  refine pure_ (i := 9) (N := some 6) (v := ?_) (a' := ?_) #[true, true, true, true, false, false, true, false, false, true, false, false] rfl rfl (by kernel_rfl) (fun _ _ _ h => h) (Or.inl ⟨by rfl, ?_⟩) ?_ ?_
                  rotate_left
                  · intro w'
                    go_simp
                    with_reducible rfl
                  rotate_left
                  · simp only [Act.put, List.setIfInBounds_toArray, List.set_cons_zero, List.set_cons_succ, i64_w, i32_w]
                    rfl
                  refine take_ (i := 4) (N := some 20) (v := ?_) (a' := ?_) #[true, true, true, true, true, false, true, false, false, true, false, false] rfl rfl (by kernel_rfl) (fun _ _ _ h => h) (Or.inl ⟨by rfl, ?_⟩) hHeld ?_ ?_
                  rotate_left
                  · intro w' _
                    go_simp
                    with_reducible rfl
                  rotate_left
                  · simp only [Act.put, List.setIfInBounds_toArray, List.set_cons_zero, List.set_cons_succ, i64_w, i32_w]
                    rfl
                  refine pure_ (i := 5) (N := some 21) (v := ?_) (a' := ?_) #[true, true, true, true, true, true, true, false, false, true, false, false] rfl rfl (by kernel_rfl) (fun _ _ _ h => h) (Or.inl ⟨by rfl, ?_⟩) ?_ ?_
                  rotate_left
                  · intro w'
                    go_simp
                    with_reducible rfl
                  rotate_left
                  · simp only [Act.put, List.setIfInBounds_toArray, List.set_cons_zero, List.set_cons_succ, i64_w, i32_w]
                    rfl
                  refine pure_ (i := 10) (N := some 7) (v := ?_) (a' := ?_) #[true, true, true, true, true, true, true, false, false, true, true, false] rfl rfl (by kernel_rfl) (fun _ _ _ h => h) (Or.inl ⟨by rfl, ?_⟩) ?_ ?_
                  rotate_left
                  · intro w'
                    go_simp
                    with_reducible rfl
                  rotate_left
                  · simp only [Act.put, List.setIfInBounds_toArray, List.set_cons_zero, List.set_cons_succ, i64_w, i32_w]
                    rfl
                  refine take_ (i := 7) (N := some 23) (v := ?_) (a' := ?_) #[true, true, true, true, true, true, true, true, false, true, true, false] rfl rfl (by kernel_rfl) (fun _ _ _ h => h) (Or.inl ⟨by rfl, ?_⟩) hHeld ?_ ?_
                  rotate_left
                  · intro w' _
                    go_simp
                    with_reducible rfl
                  rotate_left
                  · simp only [Act.put, List.setIfInBounds_toArray, List.set_cons_zero, List.set_cons_succ, i64_w, i32_w]
                    rfl
                  refine pure_ (i := 8) (N := some 24) (v := ?_) (a' := ?_) #[true, true, true, true, true, true, true, true, true, true, true, false] rfl rfl (by kernel_rfl) (fun _ _ _ h => h) (Or.inl ⟨by rfl, ?_⟩) ?_ ?_
                  rotate_left
                  · intro w'
                    go_simp
                    with_reducible rfl
                  rotate_left
                  · simp only [Act.put, List.setIfInBounds_toArray, List.set_cons_zero, List.set_cons_succ, i64_w, i32_w]
                    rfl
                  refine pure_ (i := 11) (N := some 8) (v := ?_) (a' := ?_) #[true, true, true, true, true, true, true, true, true, true, true, true] rfl rfl (by kernel_rfl) (fun _ _ _ h => h) (Or.inl ⟨by rfl, ?_⟩) ?_ ?_
                  rotate_left
                  · intro w'
                    go_simp
                    with_reducible rfl
                  rotate_left
                  · simp only [Act.put, List.setIfInBounds_toArray, List.set_cons_zero, List.set_cons_succ, i64_w, i32_w]
                    rfl
                  refine done_ (by kernel_rfl) ?_
                  go_wp2_with fail
                  refine start_ (n := 9) (S := fun w' => True) (ds := []) #[false, false, false, false, false, false, false, false, false] (by kernel_rfl) rfl rfl trivial (fun hHeld => ?_)
                  refine pure_ (i := 0) (N := some 38) (v := ?_) (a' := ?_) #[true, false, false, false, false, false, false, false, false] rfl rfl (by kernel_rfl) (fun _ _ _ h => h) (Or.inl ⟨by rfl, ?_⟩) ?_ ?_
                  rotate_left
                  · intro w'
                    go_simp
                    with_reducible rfl
                  rotate_left
                  · simp only [Act.put, List.setIfInBounds_toArray, List.set_cons_zero, List.set_cons_succ, i64_w, i32_w]
                    rfl
                  refine pure_ (i := 1) (N := some 39) (v := ?_) (a' := ?_) #[true, true, false, false, false, false, false, false, false] rfl rfl (by kernel_rfl) (fun _ _ _ h => h) (Or.inl ⟨by rfl, ?_⟩) ?_ ?_
                  rotate_left
                  · intro w'
                    go_simp
                    with_reducible rfl
                  rotate_left
                  · simp only [Act.put, List.setIfInBounds_toArray, List.set_cons_zero, List.set_cons_succ, i64_w, i32_w]
                    rfl
                  refine pure_ (i := 2) (N := some 40) (v := ?_) (a' := ?_) #[true, true, true, false, false, false, false, false, false] rfl rfl (by kernel_rfl) (fun _ _ _ h => h) (Or.inl ⟨by rfl, ?_⟩) ?_ ?_
                  rotate_left
                  · intro w'
                    go_simp
                    with_reducible rfl
                  rotate_left
                  · simp only [Act.put, List.setIfInBounds_toArray, List.set_cons_zero, List.set_cons_succ, i64_w, i32_w]
                    rfl
                  refine pure_ (i := 3) (N := some 41) (v := ?_) (a' := ?_) #[true, true, true, true, false, false, false, false, false] rfl rfl (by kernel_rfl) (fun _ _ _ h => h) (Or.inl ⟨by rfl, ?_⟩) ?_ ?_
                  rotate_left
                  · intro w'
                    go_simp
                    with_reducible rfl
                  rotate_left
                  · simp only [Act.put, List.setIfInBounds_toArray, List.set_cons_zero, List.set_cons_succ, i64_w, i32_w]
                    rfl
                  refine pure_ (i := 4) (N := some 42) (v := ?_) (a' := ?_) #[true, true, true, true, true, false, false, false, false] rfl rfl (by kernel_rfl) (fun _ _ _ h => h) (Or.inl ⟨by rfl, ?_⟩) ?_ ?_
                  rotate_left
                  · intro w'
                    go_simp
                    with_reducible rfl
                  rotate_left
                  · simp only [Act.put, List.setIfInBounds_toArray, List.set_cons_zero, List.set_cons_succ, i64_w, i32_w]
                    rfl
                  refine pure_ (i := 5) (N := some 43) (v := ?_) (a' := ?_) #[true, true, true, true, true, true, false, false, false] rfl rfl (by kernel_rfl) (fun _ _ _ h => h) (Or.inl ⟨by rfl, ?_⟩) ?_ ?_
                  rotate_left
                  · intro w'
                    go_simp
                    with_reducible rfl
                  rotate_left
                  · simp only [Act.put, List.setIfInBounds_toArray, List.set_cons_zero, List.set_cons_succ, i64_w, i32_w]
                    rfl
                  refine pure_ (i := 6) (N := some 44) (v := ?_) (a' := ?_) #[true, true, true, true, true, true, true, false, false] rfl rfl (by kernel_rfl) (fun _ _ _ h => h) (Or.inl ⟨by rfl, ?_⟩) ?_ ?_
                  rotate_left
                  · intro w'
                    go_simp
                    with_reducible rfl
                  rotate_left
                  · simp only [Act.put, List.setIfInBounds_toArray, List.set_cons_zero, List.set_cons_succ, i64_w, i32_w]
                    rfl
                  refine pure_ (i := 7) (N := some 45) (v := ?_) (a' := ?_) #[true, true, true, true, true, true, true, true, false] rfl rfl (by kernel_rfl) (fun _ _ _ h => h) (Or.inl ⟨by rfl, ?_⟩) ?_ ?_
                  rotate_left
                  · intro w'
                    go_simp
                    with_reducible rfl
                  rotate_left
                  · simp only [Act.put, List.setIfInBounds_toArray, List.set_cons_zero, List.set_cons_succ, i64_w, i32_w]
                    rfl
                  refine pure_ (i := 8) (N := some 5) (v := ?_) (a' := ?_) #[true, true, true, true, true, true, true, true, true] rfl rfl (by kernel_rfl) (fun _ _ _ h => h) (Or.inl ⟨by rfl, ?_⟩) ?_ ?_
                  rotate_left
                  · intro w'
                    go_simp
                    with_reducible rfl
                  rotate_left
                  · simp only [Act.put, List.setIfInBounds_toArray, List.set_cons_zero, List.set_cons_succ, i64_w, i32_w]
                    rfl
                  refine done_ (by kernel_rfl) ?_
                  go_wp2_with fail
                  have HO_4 := Aside0.mk (Kd.R_drew (Kd.R_drew (Kd.R_drew HO.out)))
                  have HB0 := Aside0.mk (below_drew1 (below_drew1 (below_drew1 HB.out)))
                  clear HO HB
                  have HB := HB0
                  clear HB0
                  refine start_ (n := 11) (S := fun w' => True) (ds := []) #[false, false, false, false, false, false, false, false, false, false, false] (by kernel_rfl) rfl rfl trivial (fun hHeld => ?_)
                  generalize wr.drew.drew.drew = w35 at HO_4 HB hHeld ⊢
                  refine pure_ (i := 0) (N := some 54) (v := ?_) (a' := ?_) #[true, false, false, false, false, false, false, false, false, false, false] rfl rfl (by kernel_rfl) (fun _ _ _ h => h) (Or.inl ⟨by rfl, ?_⟩) ?_ ?_
                  rotate_left
                  · intro w'
                    go_simp
                    with_reducible rfl
                  rotate_left
                  · simp only [Act.put, List.setIfInBounds_toArray, List.set_cons_zero, List.set_cons_succ, i64_w, i32_w]
                    rfl
                  refine pure_ (i := 1) (N := some 55) (v := ?_) (a' := ?_) #[true, true, false, false, false, false, false, false, false, false, false] rfl rfl (by kernel_rfl) (fun _ _ _ h => h) (Or.inl ⟨by rfl, ?_⟩) ?_ ?_
                  rotate_left
                  · intro w'
                    go_simp
                    with_reducible rfl
                  rotate_left
                  · simp only [Act.put, List.setIfInBounds_toArray, List.set_cons_zero, List.set_cons_succ, i64_w, i32_w]
                    rfl
                  refine pure_ (i := 2) (N := some 56) (v := ?_) (a' := ?_) #[true, true, true, false, false, false, false, false, false, false, false] rfl rfl (by kernel_rfl) (fun _ _ _ h => h) (Or.inl ⟨by rfl, ?_⟩) ?_ ?_
                  rotate_left
                  · intro w'
                    go_simp
                    with_reducible rfl
                  rotate_left
                  · simp only [Act.put, List.setIfInBounds_toArray, List.set_cons_zero, List.set_cons_succ, i64_w, i32_w]
                    rfl
                  refine pure_ (i := 4) (N := some 58) (v := ?_) (a' := ?_) #[true, true, true, false, true, false, false, false, false, false, false] rfl rfl (by kernel_rfl) (fun _ _ _ h => h) (Or.inl ⟨by rfl, ?_⟩) ?_ ?_
                  rotate_left
                  · intro w'
                    go_simp
                    with_reducible rfl
                  rotate_left
                  · simp only [Act.put, List.setIfInBounds_toArray, List.set_cons_zero, List.set_cons_succ, i64_w, i32_w]
                    rfl
                  refine pure_ (i := 7) (N := some 61) (v := ?_) (a' := ?_) #[true, true, true, false, true, false, false, true, false, false, false] rfl rfl (by kernel_rfl) (fun _ _ _ h => h) (Or.inl ⟨by rfl, ?_⟩) ?_ ?_
                  rotate_left
                  · intro w'
                    go_simp
                    with_reducible rfl
                  rotate_left
                  · simp only [Act.put, List.setIfInBounds_toArray, List.set_cons_zero, List.set_cons_succ, i64_w, i32_w]
                    rfl
                  refine take_ (i := 5) (N := some 59) (v := ?_) (a' := ?_) #[true, true, true, false, true, true, false, true, false, false, false] rfl rfl (by kernel_rfl) (fun _ _ _ h => h) (Or.inl ⟨by rfl, ?_⟩) hHeld ?_ ?_
                  rotate_left
                  · intro w' _
                    go_simp
                    with_reducible rfl
                  rotate_left
                  · simp only [Act.put, List.setIfInBounds_toArray, List.set_cons_zero, List.set_cons_succ, i64_w, i32_w]
                    rfl
                  refine pure_ (i := 6) (N := some 60) (v := ?_) (a' := ?_) #[true, true, true, false, true, true, true, true, false, false, false] rfl rfl (by kernel_rfl) (fun _ _ _ h => h) (Or.inl ⟨by rfl, ?_⟩) ?_ ?_
                  rotate_left
                  · intro w'
                    go_simp
                    with_reducible rfl
                  rotate_left
                  · simp only [Act.put, List.setIfInBounds_toArray, List.set_cons_zero, List.set_cons_succ, i64_w, i32_w]
                    rfl
                  refine join_ (σ := Nat) 1 #[true, true, true, true, true, true, true, true, true, true, false] (fun s_ => [(57, .int .i64 (q : Int)), (10, .pointer (some ⟨s_, 0, none⟩)), (62, .agg #[.string ((key.extract 0 n) ++ (s.extract 7 e1)), .int .i64 (q : Int), .int .i64 (z : Int), .string (s.extract e1 e2), .string (⟨#[]⟩ : ByteArray)])]) (fun s_ w' => (Kd.R k49 49 w' w.heap.size (fun k_ => k_ ≠ s_) u4 acc) ∧ (w'.heap[s_]? = some (.cells #[.string (⟨#[]⟩ : ByteArray), .int .i64 0, .int .i64 0, .string (⟨#[]⟩ : ByteArray), .string (⟨#[]⟩ : ByteArray)] 49 (0, 0))) ∧ (w.heap.size ≤ s_) ∧ (w.heap.size ≤ s_) ∧ (Below w.heap.size w w')) ?_ ?_
                  rotate_left
                  · intro hCont
                    refine two_ (i := 3) (j := 9) (Ni := some 57) (Nj := some 10) #[true, true, true, true, true, true, true, true, false, false, false] #[true, true, true, false, true, true, true, true, false, true, false] rfl rfl rfl rfl (by kernel_rfl) (by decide) (by decide) (fun K hK => ?_) (fun K hK => ?_)
                    · skip
                      refine goes_ Try.func77 (by kernel_rfl) rfl #[.string (s.extract 2 5)] (by rfl) rfl rfl (by (try simp only [List.map_toArray, List.map_cons, List.map_nil]); first | done | rfl | (simp only [List.length_drop, List.length_take]; rfl)) ?_
                      with_reducible refine (impl_DecodeFixed.calls kd (s.extract 2 5) (q : Int) _ A26.out).mono ?_
                      rintro e w' ⟨rfl, ⟨nd, rfl⟩⟩
                      refine ⟨_, rfl, ?_⟩
                      refine hK.out _ _ trivial (fun hHeld => ?_)
                      clear hK K
                      refine norm_ (a' := ?_) ?_ ?_
                      rotate_left
                      · show Act.put _ (some 57) _ = _
                        simp only [Act.put, List.setIfInBounds_toArray, List.set_cons_zero, List.set_cons_succ, i64_w, i32_w]
                        rfl
                      refine pure_ (i := 8) (N := some 62) (v := ?_) (a' := ?_) #[true, true, true, true, true, true, true, true, true, false, false] rfl rfl (by kernel_rfl) (fun _ _ _ h => h) (Or.inl ⟨by rfl, ?_⟩) ?_ ?_
                      rotate_left
                      · intro w'
                        go_simp
                        with_reducible rfl
                      rotate_left
                      · simp only [Act.put, List.setIfInBounds_toArray, List.set_cons_zero, List.set_cons_succ, i64_w, i32_w]
                        rfl
                      refine one_ (i := 9) (N := some 10) #[true, true, true, true, true, true, true, true, true, true, false] rfl rfl (by kernel_rfl) (by decide) (fun K hK => ?_)
                      refine box_step ?hg (N := 10) ?hd (cs := #[.string (⟨#[]⟩ : ByteArray), .int .i64 0, .int .i64 0, .string (⟨#[]⟩ : ByteArray), .string (⟨#[]⟩ : ByteArray)]) (t := 49) ?hr ?_; (case hd => rfl); (case hg => rfl); (case hr => first | (go_simp; done) | (go_simp; rfl))
                      intro gb251 hg w36 hbox hb
                      have n0_ := Aside0.mk (Kd.R_below (Kd.R_elderB (by (with_reducible repeat (first | apply Kd.R_alloc | apply Kd.R_drewN | apply Kd.R_drew)); exact HO_4.out) gb251 (Nat.le_of_eq hg.symm)) hb)
                      have n1_ := Aside0.mk (below_step (by repeat (first | (with_reducible first | exact HB.out | apply below_alloc | apply pw_below_drewN | apply below_drew1) | exact HB.out)) hb)
                      have n2_ := Aside0.mk (hbox)
                      have n3_ := Aside0.mk ((by rw [hg]; exact (below_size (by repeat (first | (with_reducible first | exact HB.out | apply below_alloc | apply pw_below_drewN | apply below_drew1) | exact HB.out))) : w.heap.size ≤ gb251))
                      have n4_ := Aside0.mk ((by rw [hg]; exact (below_size (by repeat (first | (with_reducible first | exact HB.out | apply below_alloc | apply pw_below_drewN | apply below_drew1) | exact HB.out))) : w.heap.size ≤ gb251))
                      clear HO_4
                      clear HB
                      have HO_4 := n0_
                      have HB := n1_
                      have BK251 := n2_
                      have GW251 := n3_
                      have GE251 := n4_
                      clear n0_ n1_ n2_ n3_ n4_
                      clear hb hbox hg
                      refine hK.out _ _ trivial (fun hHeld => ?_)
                      clear hK K
                      refine norm_ (a' := ?_) ?_ ?_
                      rotate_left
                      · show Act.put _ (some 10) _ = _
                        simp only [Act.put, List.setIfInBounds_toArray, List.set_cons_zero, List.set_cons_succ, i64_w, i32_w]
                        rfl
                      exact norm_ (by simp only [putAll, Act.put, List.setIfInBounds_toArray, List.set_cons_zero, List.set_cons_succ]) (hCont (gb251) _ ⟨(by (with_reducible repeat (first | apply Kd.R_alloc | apply Kd.R_drewN | apply Kd.R_drew)); exact Kd.R_mono HO_4.out (fun _ hk => hk.2)), (by (with_reducible repeat (first | refine blk_drewN ?_ _ | refine blk_drew ?_ | refine blk_alloc ?_ _)); exact BK251.out), GW251.out, GE251.out, (by repeat (first | (with_reducible first | exact HB.out | apply below_alloc | apply pw_below_drewN | apply below_drew1 | refine below_set ?_ GE251.out) | exact HB.out))⟩)
                    · skip
                      refine box_step ?hg (N := 10) ?hd (cs := #[.string (⟨#[]⟩ : ByteArray), .int .i64 0, .int .i64 0, .string (⟨#[]⟩ : ByteArray), .string (⟨#[]⟩ : ByteArray)]) (t := 49) ?hr ?_; (case hd => rfl); (case hg => rfl); (case hr => first | (go_simp; done) | (go_simp; rfl))
                      intro gb251 hg w36 hbox hb
                      have n0_ := Aside0.mk (Kd.R_below (Kd.R_elderB (by (with_reducible repeat (first | apply Kd.R_alloc | apply Kd.R_drewN | apply Kd.R_drew)); exact HO_4.out) gb251 (Nat.le_of_eq hg.symm)) hb)
                      have n1_ := Aside0.mk (below_step (by repeat (first | (with_reducible first | exact HB.out | apply below_alloc | apply pw_below_drewN | apply below_drew1) | exact HB.out)) hb)
                      have n2_ := Aside0.mk (hbox)
                      have n3_ := Aside0.mk ((by rw [hg]; exact (below_size (by repeat (first | (with_reducible first | exact HB.out | apply below_alloc | apply pw_below_drewN | apply below_drew1) | exact HB.out))) : w.heap.size ≤ gb251))
                      have n4_ := Aside0.mk ((by rw [hg]; exact (below_size (by repeat (first | (with_reducible first | exact HB.out | apply below_alloc | apply pw_below_drewN | apply below_drew1) | exact HB.out))) : w.heap.size ≤ gb251))
                      clear HO_4
                      clear HB
                      have HO_4 := n0_
                      have HB := n1_
                      have BK251 := n2_
                      have GW251 := n3_
                      have GE251 := n4_
                      clear n0_ n1_ n2_ n3_ n4_
                      clear hb hbox hg
                      refine hK.out _ _ trivial (fun hHeld => ?_)
                      clear hK K
                      refine norm_ (a' := ?_) ?_ ?_
                      rotate_left
                      · show Act.put _ (some 10) _ = _
                        simp only [Act.put, List.setIfInBounds_toArray, List.set_cons_zero, List.set_cons_succ, i64_w, i32_w]
                        rfl
                      refine one_ (i := 3) (N := some 57) #[true, true, true, true, true, true, true, true, false, true, false] rfl rfl (by kernel_rfl) (by decide) (fun K hK => ?_)
                      refine goes_ Try.func77 (by kernel_rfl) rfl #[.string (s.extract 2 5)] (by rfl) rfl rfl (by (try simp only [List.map_toArray, List.map_cons, List.map_nil]); first | done | rfl | (simp only [List.length_drop, List.length_take]; rfl)) ?_
                      with_reducible refine (impl_DecodeFixed.calls kd (s.extract 2 5) (q : Int) _ A26.out).mono ?_
                      rintro e w' ⟨rfl, ⟨nd, rfl⟩⟩
                      refine ⟨_, rfl, ?_⟩
                      refine hK.out _ _ trivial (fun hHeld => ?_)
                      clear hK K
                      refine norm_ (a' := ?_) ?_ ?_
                      rotate_left
                      · show Act.put _ (some 57) _ = _
                        simp only [Act.put, List.setIfInBounds_toArray, List.set_cons_zero, List.set_cons_succ, i64_w, i32_w]
                        rfl
                      refine pure_ (i := 8) (N := some 62) (v := ?_) (a' := ?_) #[true, true, true, true, true, true, true, true, true, true, false] rfl rfl (by kernel_rfl) (fun _ _ _ h => h) (Or.inl ⟨by rfl, ?_⟩) ?_ ?_
                      rotate_left
                      · intro w'
                        go_simp
                        with_reducible rfl
                      rotate_left
                      · simp only [Act.put, List.setIfInBounds_toArray, List.set_cons_zero, List.set_cons_succ, i64_w, i32_w]
                        rfl
                      exact norm_ (by simp only [putAll, Act.put, List.setIfInBounds_toArray, List.set_cons_zero, List.set_cons_succ]) (hCont (gb251) _ ⟨(by (with_reducible repeat (first | apply Kd.R_alloc | apply Kd.R_drewN | apply Kd.R_drew)); exact Kd.R_mono HO_4.out (fun _ hk => hk.2)), (by (with_reducible repeat (first | refine blk_drewN ?_ _ | refine blk_drew ?_ | refine blk_alloc ?_ _)); exact BK251.out), GW251.out, GE251.out, (by repeat (first | (with_reducible first | exact HB.out | apply below_alloc | apply pw_below_drewN | apply below_drew1 | refine below_set ?_ GE251.out) | exact HB.out))⟩)
                  rintro gb251 w37 ⟨h0_, h1_, h2_, h3_, h4_⟩
                  have n0_ : Aside0 (Kd.R k49 49 w37 w.heap.size (fun k_ => k_ ≠ gb251) u4 acc) := ⟨h0_⟩
                  have n1_ : Aside0 (w37.heap[gb251]? = some (.cells #[.string (⟨#[]⟩ : ByteArray), .int .i64 0, .int .i64 0, .string (⟨#[]⟩ : ByteArray), .string (⟨#[]⟩ : ByteArray)] 49 (0, 0))) := ⟨h1_⟩
                  have n2_ : Aside0 (w.heap.size ≤ gb251) := ⟨h2_⟩
                  have n3_ : Aside0 (w.heap.size ≤ gb251) := ⟨h3_⟩
                  have n4_ : Aside0 (Below w.heap.size w w37) := ⟨h4_⟩
                  clear HO_4
                  clear HB
                  clear h0_ h1_ h2_ h3_ h4_
                  have HO_4 := n0_
                  have BK251 := n1_
                  have GW251 := n2_
                  have GE251 := n3_
                  have HB := n4_
                  clear n0_ n1_ n2_ n3_ n4_
                  have hHeld := trivial
                  refine norm_ (a' := ?_) ?_ ?_
                  rotate_left
                  · simp only [putAll, Act.put, List.setIfInBounds_toArray, List.set_cons_zero, List.set_cons_succ]
                    rfl
                  refine one_ (i := 10) (N := none) #[true, true, true, true, true, true, true, true, true, true, true] rfl rfl (by kernel_rfl) (by decide) (fun K hK => ?_)
                  have hs38 : w37.cell? ⟨gb251, 0, none⟩ = some (.string (⟨#[]⟩ : ByteArray)) := (blk_cell BK251.out 0).trans rfl
                  have hfs38 := blk_frozen BK251.out 0
                  have hs39 : w37.cell? ⟨gb251, 1, none⟩ = some (.int .i64 0) := (blk_cell BK251.out 1).trans rfl
                  have hfs39 := blk_frozen BK251.out 1
                  have hs40 : w37.cell? ⟨gb251, 2, none⟩ = some (.int .i64 0) := (blk_cell BK251.out 2).trans rfl
                  have hfs40 := blk_frozen BK251.out 2
                  have hs41 : w37.cell? ⟨gb251, 3, none⟩ = some (.string (⟨#[]⟩ : ByteArray)) := (blk_cell BK251.out 3).trans rfl
                  have hfs41 := blk_frozen BK251.out 3
                  have hs42 : w37.cell? ⟨gb251, 4, none⟩ = some (.string (⟨#[]⟩ : ByteArray)) := (blk_cell BK251.out 4).trans rfl
                  have hfs42 := blk_frozen BK251.out 4
                  refine skip_ (w1 := ?_) (by rfl) rfl ?_ ?_
                  rotate_left
                  · go_simp
                    rfl
                  refine hK.out _ _ trivial (fun hHeld => ?_)
                  clear hK K
                  refine done_ (by kernel_rfl) ?_
                  have HK11 : Aside0 ((((((w37.setCell ⟨gb251, 0, none⟩ (.string (key.extract 0 n ++ s.extract 7 e1))).setCell ⟨gb251, 1, none⟩ (.int .i64 (q : Int))).setCell ⟨gb251, 2, none⟩ (.int .i64 (z : Int))).setCell ⟨gb251, 3, none⟩ (.string (s.extract e1 e2))).setCell ⟨gb251, 4, none⟩ (.string (⟨#[]⟩ : ByteArray))).heap[gb251]? = some (.cells #[.string (key.extract 0 n ++ s.extract 7 e1), .int .i64 (q : Int), .int .i64 (z : Int), .string (s.extract e1 e2), .string (⟨#[]⟩ : ByteArray)] 49 (0, 0))) := ⟨(blk_put (cs' := #[.string (key.extract 0 n ++ s.extract 7 e1), .int .i64 (q : Int), .int .i64 (z : Int), .string (s.extract e1 e2), .string (⟨#[]⟩ : ByteArray)]) (blk_put (cs' := #[.string (key.extract 0 n ++ s.extract 7 e1), .int .i64 (q : Int), .int .i64 (z : Int), .string (s.extract e1 e2), .string (⟨#[]⟩ : ByteArray)]) (blk_put (cs' := #[.string (key.extract 0 n ++ s.extract 7 e1), .int .i64 (q : Int), .int .i64 (z : Int), .string (⟨#[]⟩ : ByteArray), .string (⟨#[]⟩ : ByteArray)]) (blk_put (cs' := #[.string (key.extract 0 n ++ s.extract 7 e1), .int .i64 (q : Int), .int .i64 0, .string (⟨#[]⟩ : ByteArray), .string (⟨#[]⟩ : ByteArray)]) (blk_put (cs' := #[.string (key.extract 0 n ++ s.extract 7 e1), .int .i64 0, .int .i64 0, .string (⟨#[]⟩ : ByteArray), .string (⟨#[]⟩ : ByteArray)]) BK251.out 0 (.string (key.extract 0 n ++ s.extract 7 e1)) rfl) 1 (.int .i64 (q : Int)) rfl) 2 (.int .i64 (z : Int)) rfl) 3 (.string (s.extract e1 e2)) rfl) 4 (.string (⟨#[]⟩ : ByteArray)) rfl)⟩
                  have HO11 : Aside0 (Kd.R k49 49 (((((w37.setCell ⟨gb251, 0, none⟩ (.string (key.extract 0 n ++ s.extract 7 e1))).setCell ⟨gb251, 1, none⟩ (.int .i64 (q : Int))).setCell ⟨gb251, 2, none⟩ (.int .i64 (z : Int))).setCell ⟨gb251, 3, none⟩ (.string (s.extract e1 e2))).setCell ⟨gb251, 4, none⟩ (.string (⟨#[]⟩ : ByteArray))) w.heap.size (fun k_ => k_ ≠ gb251) u4 acc) := ⟨Kd.R_mono (Kd.R_far (p := ⟨gb251, 4, none⟩) (Kd.R_far (p := ⟨gb251, 3, none⟩) (Kd.R_far (p := ⟨gb251, 2, none⟩) (Kd.R_far (p := ⟨gb251, 1, none⟩) (Kd.R_far (p := ⟨gb251, 0, none⟩) (Kd.R_mono HO_4.out (fun k_ hk => (⟨hk, hk⟩ : _ ∧ k_ ≠ gb251))) (fun _ hk => hk.2) (.string (key.extract 0 n ++ s.extract 7 e1))) (fun _ hk => hk.2) (.int .i64 (q : Int))) (fun _ hk => hk.2) (.int .i64 (z : Int))) (fun _ hk => hk.2) (.string (s.extract e1 e2))) (fun _ hk => hk.2) (.string (⟨#[]⟩ : ByteArray))) (fun _ hk => hk.1)⟩
                  have HB11 : Aside0 (Below w.heap.size w (((((w37.setCell ⟨gb251, 0, none⟩ (.string (key.extract 0 n ++ s.extract 7 e1))).setCell ⟨gb251, 1, none⟩ (.int .i64 (q : Int))).setCell ⟨gb251, 2, none⟩ (.int .i64 (z : Int))).setCell ⟨gb251, 3, none⟩ (.string (s.extract e1 e2))).setCell ⟨gb251, 4, none⟩ (.string (⟨#[]⟩ : ByteArray)))) := ⟨(below_set (below_set (below_set (below_set (below_set HB.out GE251.out) GE251.out) GE251.out) GE251.out) GE251.out)⟩
                  clear HO_4 HB BK251 hHeld hs38 hfs38 hs39 hfs39 hs40 hfs40 hs41 hfs41 hs42 hfs42
                  generalize (((((w37.setCell ⟨gb251, 0, none⟩ (.string (key.extract 0 n ++ s.extract 7 e1))).setCell ⟨gb251, 1, none⟩ (.int .i64 (q : Int))).setCell ⟨gb251, 2, none⟩ (.int .i64 (z : Int))).setCell ⟨gb251, 3, none⟩ (.string (s.extract e1 e2))).setCell ⟨gb251, 4, none⟩ (.string (⟨#[]⟩ : ByteArray))) = W11 at HK11 HO11 HB11 ⊢
                  have hcz_0 : W11.cell? ⟨gb251, 0, none⟩ = some (.string (key.extract 0 n ++ s.extract 7 e1)) := (blk_cell HK11.out 0).trans rfl
                  have hcz_1 : W11.cell? ⟨gb251, 1, none⟩ = some (.int .i64 (q : Int)) := (blk_cell HK11.out 1).trans rfl
                  have hcz_2 : W11.cell? ⟨gb251, 2, none⟩ = some (.int .i64 (z : Int)) := (blk_cell HK11.out 2).trans rfl
                  have hcz_3 : W11.cell? ⟨gb251, 3, none⟩ = some (.string (s.extract e1 e2)) := (blk_cell HK11.out 3).trans rfl
                  have hcz_4 : W11.cell? ⟨gb251, 4, none⟩ = some (.string (⟨#[]⟩ : ByteArray)) := (blk_cell HK11.out 4).trans rfl
                  have hfz_0 := blk_frozen HK11.out 0
                  have hfz_1 := blk_frozen HK11.out 1
                  have hfz_2 := blk_frozen HK11.out 2
                  have hfz_3 := blk_frozen HK11.out 3
                  have hfz_4 := blk_frozen HK11.out 4
                  go_wp2_with (first | ((with_reducible refine gate_builtin (b := .append) (xs := #[.tmp 69, .tmp 71]) rfl ?_); (try (refine gate_guard (by rfl) ?_; dsimp only)); at_builtin; refine Kd.R_append k49 (w0 := w) w.heap.size rfl (.tmp 69) (.tmp 71) 24 49 (.agg #[(.string ⟨#[]⟩), (.int .i64 0), (.int .i64 0), (.string ⟨#[]⟩), (.string ⟨#[]⟩)]) 64 rfl Try.underlying24 info49 rfl (by decide) (by omega) u4 acc (⟨(key.extract 0 n ++ s.extract 7 e1), (q : Int), (z : Int), (⟨#[]⟩ : ByteArray), (s.extract e1 e2)⟩ : S49) [.string (key.extract 0 n ++ s.extract 7 e1), .int .i64 (q : Int), .int .i64 (z : Int), .string (⟨#[]⟩ : ByteArray), .string (s.extract e1 e2)] (fun k_ => k_ ≠ gb251) (fun _ => False) rfl (by first | (go_simp; done) | (go_simp; rfl)) ?aP (fun _ hk => hk.elim) ?aF ?aO ?aB ?aS ?aL ?_; (case aP => exact k49_mkM _ _ _ (⟨(key.extract 0 n ++ s.extract 7 e1), (q : Int), (z : Int), (⟨#[]⟩ : ByteArray), (s.extract e1 e2)⟩ : S49)); (case aB => exact (by repeat (first | (with_reducible first | exact HB11.out | apply below_alloc | apply pw_below_drewN | apply below_drew1 | refine below_set ?_ GE251.out) | exact HB11.out))); (case aF => exact (fun k_ hk => Kd.freshB (g := gb251) (o := .cells #[.string (key.extract 0 n ++ s.extract 7 e1), .int .i64 (q : Int), .int .i64 (z : Int), .string (⟨#[]⟩ : ByteArray), .string (s.extract e1 e2)] 49 (0, 0)) (by (with_reducible repeat (first | refine blk_drewN ?_ _ | refine blk_drew ?_ | refine blk_alloc ?_ _)); refine blk_put (cs := #[.string (key.extract 0 n ++ s.extract 7 e1), .int .i64 (q : Int), .int .i64 (z : Int), .string (⟨#[]⟩ : ByteArray), .string (⟨#[]⟩ : ByteArray)]) ?_ 4 _ rfl; (with_reducible repeat (first | refine blk_drewN ?_ _ | refine blk_drew ?_ | refine blk_alloc ?_ _)); refine blk_put (cs := #[.string (key.extract 0 n ++ s.extract 7 e1), .int .i64 (q : Int), .int .i64 (z : Int), .string (s.extract e1 e2), .string (⟨#[]⟩ : ByteArray)]) ?_ 3 _ rfl; (with_reducible repeat (first | refine blk_drewN ?_ _ | refine blk_drew ?_ | refine blk_alloc ?_ _)); exact HK11.out) k_ hk)); (case aO => exact (by (with_reducible repeat (first | apply Kd.R_alloc | apply Kd.R_drewN | apply Kd.R_drew)); exact Kd.R_mono (Kd.R_far (p := ⟨gb251, 4, none⟩) (Kd.R_far (p := ⟨gb251, 3, none⟩) (Kd.R_mono HO11.out (fun k_ hk => (⟨hk, hk⟩ : _ ∧ k_ ≠ gb251))) (fun _ hk => hk.2) (.string (⟨#[]⟩ : ByteArray))) (fun _ hk => hk.2) (.string (s.extract e1 e2))) (fun _ hk => hk.1))); (case aS => exact (below_size (by repeat (first | (with_reducible first | exact HB11.out | apply below_alloc | apply pw_below_drewN | apply below_drew1 | refine below_set ?_ GE251.out) | exact HB11.out)))); (case aL => have := LMc30.out; omega); intro v253 w44 ho hb hg hat; rw [← Ny252.out] at ho; have n1_ := Aside0.mk (hb); have n2_ := Aside0.mk (ho); clear HB11 HO11; have HB := n1_; have HO254 := n2_; clear n1_ n2_; clear ho hb hg hat))
                  go_roundg kj
                  case measure => exact Nat.lt_succ_self _
                  case rel => exact ⟨s.extract e2 s.size, y252, key.extract 0 n ++ s.extract 7 e1, rfl, rfl, by rw [HS1.out]; exact HS3.out, by rw [HS1.out]; exact HS4.out, HS2.out, ⟨by rw [HS1.out]; exact HS6.out⟩, H', ⟨by (with_reducible repeat (first | apply Kd.R_alloc | apply Kd.R_drewN | apply Kd.R_drew)); exact Kd.R_mono HO254.out (fun _ hk => trivial)⟩, ⟨by repeat (first | (with_reducible first | exact HB.out | apply below_alloc | apply pw_below_drewN | apply below_drew1 | refine below_set ?_ GE251.out) | exact HB.out)⟩⟩
                · obtain ⟨y255, hy⟩ : ∃ y_ : List S49, y_ = acc ++ [(⟨key.extract 0 n ++ s.extract 7 e1, (q : Int), (z : Int), s.extract e1 e2, (⟨#[]⟩ : ByteArray)⟩ : S49)] := ⟨_, rfl⟩
                  have H' : Aside0 (pEnt kj (s.extract e2 s.size) y255 (key.extract 0 n ++ s.extract 7 e1) = (r1, r2)) := ⟨by
                    have := HE3.out
                    unfold entRec at this
                    rw [hek, het, hes, hz5, hq, if_neg z3] at this
                    rw [hy]
                    exact this⟩
                  have HS6 : Aside0 (y255.length ≤ 1048576 - (s.size - e2)) := ⟨by rw [hy, List.length_append]; exact HS5.out⟩
                  have Ny255 := Aside0.mk hy
                  clear hy
                  have c29b0 : ((z : Int) == 3) = false := beq_eq_false_iff_ne.mpr (by omega)
                  have c29c : (z == 3) = false := beq_eq_false_iff_ne.mpr z3
                  clear z3
                  clear hek het hes hq hz5
                  obtain ⟨hwn, hwn2⟩ := wrap_small n HNB.out
                  obtain ⟨hwm, hwm2⟩ := wrap_small m HMB.out
                  obtain ⟨hwo, hwo2⟩ := wrap_small o HOB.out
                  obtain ⟨hwz, hwz2⟩ := wrap_small z HZB.out
                  go_wp2_with fail
                  refine start_ (n := 12) (S := fun w' => True) (ds := []) #[false, false, false, false, false, false, false, false, false, false, false, false] (by kernel_rfl) rfl rfl trivial (fun hHeld => ?_)
                  refine pure_ (i := 0) (N := some 16) (v := ?_) (a' := ?_) #[true, false, false, false, false, false, false, false, false, false, false, false] rfl rfl (by kernel_rfl) (fun _ _ _ h => h) (Or.inl ⟨by rfl, ?_⟩) ?_ ?_
                  rotate_left
                  · intro w'
                    go_simp
                    with_reducible rfl
                  rotate_left
                  · simp only [Act.put, List.setIfInBounds_toArray, List.set_cons_zero, List.set_cons_succ, i64_w, i32_w]
                    rfl
                  refine pure_ (i := 3) (N := some 19) (v := ?_) (a' := ?_) #[true, false, false, true, false, false, false, false, false, false, false, false] rfl rfl (by kernel_rfl) (fun _ _ _ h => h) (Or.inl ⟨by rfl, ?_⟩) ?_ ?_
                  rotate_left
                  · intro w'
                    go_simp
                    with_reducible rfl
                  rotate_left
                  · simp only [Act.put, List.setIfInBounds_toArray, List.set_cons_zero, List.set_cons_succ, i64_w, i32_w]
                    rfl
                  refine pure_ (i := 6) (N := some 22) (v := ?_) (a' := ?_) #[true, false, false, true, false, false, true, false, false, false, false, false] rfl rfl (by kernel_rfl) (fun _ _ _ h => h) (Or.inl ⟨by rfl, ?_⟩) ?_ ?_
                  rotate_left
                  · intro w'
                    go_simp
                    with_reducible rfl
                  rotate_left
                  · simp only [Act.put, List.setIfInBounds_toArray, List.set_cons_zero, List.set_cons_succ, i64_w, i32_w]
                    rfl
                  refine take_ (i := 1) (N := some 17) (v := ?_) (a' := ?_) #[true, true, false, true, false, false, true, false, false, false, false, false] rfl rfl (by kernel_rfl) (fun _ _ _ h => h) (Or.inl ⟨by rfl, ?_⟩) hHeld ?_ ?_
                  rotate_left
                  · intro w' _
                    go_simp
                    with_reducible rfl
                  rotate_left
                  · simp only [Act.put, List.setIfInBounds_toArray, List.set_cons_zero, List.set_cons_succ, i64_w, i32_w]
                    rfl
                  refine pure_ (i := 2) (N := some 18) (v := ?_) (a' := ?_) #[true, true, true, true, false, false, true, false, false, false, false, false] rfl rfl (by kernel_rfl) (fun _ _ _ h => h) (Or.inl ⟨by rfl, ?_⟩) ?_ ?_
                  rotate_left
                  · intro w'
                    go_simp
                    with_reducible rfl
                  rotate_left
                  · simp only [Act.put, List.setIfInBounds_toArray, List.set_cons_zero, List.set_cons_succ, i64_w, i32_w]
                    rfl
                  refine pure_ (i := 9) (N := some 6) (v := ?_) (a' := ?_) #[true, true, true, true, false, false, true, false, false, true, false, false] rfl rfl (by kernel_rfl) (fun _ _ _ h => h) (Or.inl ⟨by rfl, ?_⟩) ?_ ?_
                  rotate_left
                  · intro w'
                    go_simp
                    with_reducible rfl
                  rotate_left
                  · simp only [Act.put, List.setIfInBounds_toArray, List.set_cons_zero, List.set_cons_succ, i64_w, i32_w]
                    rfl
                  refine take_ (i := 4) (N := some 20) (v := ?_) (a' := ?_) #[true, true, true, true, true, false, true, false, false, true, false, false] rfl rfl (by kernel_rfl) (fun _ _ _ h => h) (Or.inl ⟨by rfl, ?_⟩) hHeld ?_ ?_
                  rotate_left
                  · intro w' _
                    go_simp
                    with_reducible rfl
                  rotate_left
                  · simp only [Act.put, List.setIfInBounds_toArray, List.set_cons_zero, List.set_cons_succ, i64_w, i32_w]
                    rfl
                  refine pure_ (i := 5) (N := some 21) (v := ?_) (a' := ?_) #[true, true, true, true, true, true, true, false, false, true, false, false] rfl rfl (by kernel_rfl) (fun _ _ _ h => h) (Or.inl ⟨by rfl, ?_⟩) ?_ ?_
                  rotate_left
                  · intro w'
                    go_simp
                    with_reducible rfl
                  rotate_left
                  · simp only [Act.put, List.setIfInBounds_toArray, List.set_cons_zero, List.set_cons_succ, i64_w, i32_w]
                    rfl
                  refine pure_ (i := 10) (N := some 7) (v := ?_) (a' := ?_) #[true, true, true, true, true, true, true, false, false, true, true, false] rfl rfl (by kernel_rfl) (fun _ _ _ h => h) (Or.inl ⟨by rfl, ?_⟩) ?_ ?_
                  rotate_left
                  · intro w'
                    go_simp
                    with_reducible rfl
                  rotate_left
                  · simp only [Act.put, List.setIfInBounds_toArray, List.set_cons_zero, List.set_cons_succ, i64_w, i32_w]
                    rfl
                  refine take_ (i := 7) (N := some 23) (v := ?_) (a' := ?_) #[true, true, true, true, true, true, true, true, false, true, true, false] rfl rfl (by kernel_rfl) (fun _ _ _ h => h) (Or.inl ⟨by rfl, ?_⟩) hHeld ?_ ?_
                  rotate_left
                  · intro w' _
                    go_simp
                    with_reducible rfl
                  rotate_left
                  · simp only [Act.put, List.setIfInBounds_toArray, List.set_cons_zero, List.set_cons_succ, i64_w, i32_w]
                    rfl
                  refine pure_ (i := 8) (N := some 24) (v := ?_) (a' := ?_) #[true, true, true, true, true, true, true, true, true, true, true, false] rfl rfl (by kernel_rfl) (fun _ _ _ h => h) (Or.inl ⟨by rfl, ?_⟩) ?_ ?_
                  rotate_left
                  · intro w'
                    go_simp
                    with_reducible rfl
                  rotate_left
                  · simp only [Act.put, List.setIfInBounds_toArray, List.set_cons_zero, List.set_cons_succ, i64_w, i32_w]
                    rfl
                  refine pure_ (i := 11) (N := some 8) (v := ?_) (a' := ?_) #[true, true, true, true, true, true, true, true, true, true, true, true] rfl rfl (by kernel_rfl) (fun _ _ _ h => h) (Or.inl ⟨by rfl, ?_⟩) ?_ ?_
                  rotate_left
                  · intro w'
                    go_simp
                    with_reducible rfl
                  rotate_left
                  · simp only [Act.put, List.setIfInBounds_toArray, List.set_cons_zero, List.set_cons_succ, i64_w, i32_w]
                    rfl
                  refine done_ (by kernel_rfl) ?_
                  go_wp2_with fail
                  refine start_ (n := 9) (S := fun w' => True) (ds := []) #[false, false, false, false, false, false, false, false, false] (by kernel_rfl) rfl rfl trivial (fun hHeld => ?_)
                  refine pure_ (i := 0) (N := some 38) (v := ?_) (a' := ?_) #[true, false, false, false, false, false, false, false, false] rfl rfl (by kernel_rfl) (fun _ _ _ h => h) (Or.inl ⟨by rfl, ?_⟩) ?_ ?_
                  rotate_left
                  · intro w'
                    go_simp
                    with_reducible rfl
                  rotate_left
                  · simp only [Act.put, List.setIfInBounds_toArray, List.set_cons_zero, List.set_cons_succ, i64_w, i32_w]
                    rfl
                  refine pure_ (i := 1) (N := some 39) (v := ?_) (a' := ?_) #[true, true, false, false, false, false, false, false, false] rfl rfl (by kernel_rfl) (fun _ _ _ h => h) (Or.inl ⟨by rfl, ?_⟩) ?_ ?_
                  rotate_left
                  · intro w'
                    go_simp
                    with_reducible rfl
                  rotate_left
                  · simp only [Act.put, List.setIfInBounds_toArray, List.set_cons_zero, List.set_cons_succ, i64_w, i32_w]
                    rfl
                  refine pure_ (i := 2) (N := some 40) (v := ?_) (a' := ?_) #[true, true, true, false, false, false, false, false, false] rfl rfl (by kernel_rfl) (fun _ _ _ h => h) (Or.inl ⟨by rfl, ?_⟩) ?_ ?_
                  rotate_left
                  · intro w'
                    go_simp
                    with_reducible rfl
                  rotate_left
                  · simp only [Act.put, List.setIfInBounds_toArray, List.set_cons_zero, List.set_cons_succ, i64_w, i32_w]
                    rfl
                  refine pure_ (i := 3) (N := some 41) (v := ?_) (a' := ?_) #[true, true, true, true, false, false, false, false, false] rfl rfl (by kernel_rfl) (fun _ _ _ h => h) (Or.inl ⟨by rfl, ?_⟩) ?_ ?_
                  rotate_left
                  · intro w'
                    go_simp
                    with_reducible rfl
                  rotate_left
                  · simp only [Act.put, List.setIfInBounds_toArray, List.set_cons_zero, List.set_cons_succ, i64_w, i32_w]
                    rfl
                  refine pure_ (i := 4) (N := some 42) (v := ?_) (a' := ?_) #[true, true, true, true, true, false, false, false, false] rfl rfl (by kernel_rfl) (fun _ _ _ h => h) (Or.inl ⟨by rfl, ?_⟩) ?_ ?_
                  rotate_left
                  · intro w'
                    go_simp
                    with_reducible rfl
                  rotate_left
                  · simp only [Act.put, List.setIfInBounds_toArray, List.set_cons_zero, List.set_cons_succ, i64_w, i32_w]
                    rfl
                  refine pure_ (i := 5) (N := some 43) (v := ?_) (a' := ?_) #[true, true, true, true, true, true, false, false, false] rfl rfl (by kernel_rfl) (fun _ _ _ h => h) (Or.inl ⟨by rfl, ?_⟩) ?_ ?_
                  rotate_left
                  · intro w'
                    go_simp
                    with_reducible rfl
                  rotate_left
                  · simp only [Act.put, List.setIfInBounds_toArray, List.set_cons_zero, List.set_cons_succ, i64_w, i32_w]
                    rfl
                  refine pure_ (i := 6) (N := some 44) (v := ?_) (a' := ?_) #[true, true, true, true, true, true, true, false, false] rfl rfl (by kernel_rfl) (fun _ _ _ h => h) (Or.inl ⟨by rfl, ?_⟩) ?_ ?_
                  rotate_left
                  · intro w'
                    go_simp
                    with_reducible rfl
                  rotate_left
                  · simp only [Act.put, List.setIfInBounds_toArray, List.set_cons_zero, List.set_cons_succ, i64_w, i32_w]
                    rfl
                  refine pure_ (i := 7) (N := some 45) (v := ?_) (a' := ?_) #[true, true, true, true, true, true, true, true, false] rfl rfl (by kernel_rfl) (fun _ _ _ h => h) (Or.inl ⟨by rfl, ?_⟩) ?_ ?_
                  rotate_left
                  · intro w'
                    go_simp
                    with_reducible rfl
                  rotate_left
                  · simp only [Act.put, List.setIfInBounds_toArray, List.set_cons_zero, List.set_cons_succ, i64_w, i32_w]
                    rfl
                  refine pure_ (i := 8) (N := some 5) (v := ?_) (a' := ?_) #[true, true, true, true, true, true, true, true, true] rfl rfl (by kernel_rfl) (fun _ _ _ h => h) (Or.inl ⟨by rfl, ?_⟩) ?_ ?_
                  rotate_left
                  · intro w'
                    go_simp
                    with_reducible rfl
                  rotate_left
                  · simp only [Act.put, List.setIfInBounds_toArray, List.set_cons_zero, List.set_cons_succ, i64_w, i32_w]
                    rfl
                  refine done_ (by kernel_rfl) ?_
                  go_wp2_with fail
                  have HO_4 := Aside0.mk (Kd.R_drew (Kd.R_drew (Kd.R_drew HO.out)))
                  have HB0 := Aside0.mk (below_drew1 (below_drew1 (below_drew1 HB.out)))
                  clear HO HB
                  have HB := HB0
                  clear HB0
                  refine start_ (n := 11) (S := fun w' => True) (ds := []) #[false, false, false, false, false, false, false, false, false, false, false] (by kernel_rfl) rfl rfl trivial (fun hHeld => ?_)
                  generalize wr.drew.drew.drew = w50 at HO_4 HB hHeld ⊢
                  refine pure_ (i := 0) (N := some 54) (v := ?_) (a' := ?_) #[true, false, false, false, false, false, false, false, false, false, false] rfl rfl (by kernel_rfl) (fun _ _ _ h => h) (Or.inl ⟨by rfl, ?_⟩) ?_ ?_
                  rotate_left
                  · intro w'
                    go_simp
                    with_reducible rfl
                  rotate_left
                  · simp only [Act.put, List.setIfInBounds_toArray, List.set_cons_zero, List.set_cons_succ, i64_w, i32_w]
                    rfl
                  refine pure_ (i := 1) (N := some 55) (v := ?_) (a' := ?_) #[true, true, false, false, false, false, false, false, false, false, false] rfl rfl (by kernel_rfl) (fun _ _ _ h => h) (Or.inl ⟨by rfl, ?_⟩) ?_ ?_
                  rotate_left
                  · intro w'
                    go_simp
                    with_reducible rfl
                  rotate_left
                  · simp only [Act.put, List.setIfInBounds_toArray, List.set_cons_zero, List.set_cons_succ, i64_w, i32_w]
                    rfl
                  refine pure_ (i := 2) (N := some 56) (v := ?_) (a' := ?_) #[true, true, true, false, false, false, false, false, false, false, false] rfl rfl (by kernel_rfl) (fun _ _ _ h => h) (Or.inl ⟨by rfl, ?_⟩) ?_ ?_
                  rotate_left
                  · intro w'
                    go_simp
                    with_reducible rfl
                  rotate_left
                  · simp only [Act.put, List.setIfInBounds_toArray, List.set_cons_zero, List.set_cons_succ, i64_w, i32_w]
                    rfl
                  refine pure_ (i := 4) (N := some 58) (v := ?_) (a' := ?_) #[true, true, true, false, true, false, false, false, false, false, false] rfl rfl (by kernel_rfl) (fun _ _ _ h => h) (Or.inl ⟨by rfl, ?_⟩) ?_ ?_
                  rotate_left
                  · intro w'
                    go_simp
                    with_reducible rfl
                  rotate_left
                  · simp only [Act.put, List.setIfInBounds_toArray, List.set_cons_zero, List.set_cons_succ, i64_w, i32_w]
                    rfl
                  refine pure_ (i := 7) (N := some 61) (v := ?_) (a' := ?_) #[true, true, true, false, true, false, false, true, false, false, false] rfl rfl (by kernel_rfl) (fun _ _ _ h => h) (Or.inl ⟨by rfl, ?_⟩) ?_ ?_
                  rotate_left
                  · intro w'
                    go_simp
                    with_reducible rfl
                  rotate_left
                  · simp only [Act.put, List.setIfInBounds_toArray, List.set_cons_zero, List.set_cons_succ, i64_w, i32_w]
                    rfl
                  refine take_ (i := 5) (N := some 59) (v := ?_) (a' := ?_) #[true, true, true, false, true, true, false, true, false, false, false] rfl rfl (by kernel_rfl) (fun _ _ _ h => h) (Or.inl ⟨by rfl, ?_⟩) hHeld ?_ ?_
                  rotate_left
                  · intro w' _
                    go_simp
                    with_reducible rfl
                  rotate_left
                  · simp only [Act.put, List.setIfInBounds_toArray, List.set_cons_zero, List.set_cons_succ, i64_w, i32_w]
                    rfl
                  refine pure_ (i := 6) (N := some 60) (v := ?_) (a' := ?_) #[true, true, true, false, true, true, true, true, false, false, false] rfl rfl (by kernel_rfl) (fun _ _ _ h => h) (Or.inl ⟨by rfl, ?_⟩) ?_ ?_
                  rotate_left
                  · intro w'
                    go_simp
                    with_reducible rfl
                  rotate_left
                  · simp only [Act.put, List.setIfInBounds_toArray, List.set_cons_zero, List.set_cons_succ, i64_w, i32_w]
                    rfl
                  refine join_ (σ := Nat) 1 #[true, true, true, true, true, true, true, true, true, true, false] (fun s_ => [(57, .int .i64 (q : Int)), (10, .pointer (some ⟨s_, 0, none⟩)), (62, .agg #[.string ((key.extract 0 n) ++ (s.extract 7 e1)), .int .i64 (q : Int), .int .i64 (z : Int), .string (s.extract e1 e2), .string (⟨#[]⟩ : ByteArray)])]) (fun s_ w' => (Kd.R k49 49 w' w.heap.size (fun k_ => k_ ≠ s_) u4 acc) ∧ (w'.heap[s_]? = some (.cells #[.string (⟨#[]⟩ : ByteArray), .int .i64 0, .int .i64 0, .string (⟨#[]⟩ : ByteArray), .string (⟨#[]⟩ : ByteArray)] 49 (0, 0))) ∧ (w.heap.size ≤ s_) ∧ (w.heap.size ≤ s_) ∧ (Below w.heap.size w w')) ?_ ?_
                  rotate_left
                  · intro hCont
                    refine two_ (i := 3) (j := 9) (Ni := some 57) (Nj := some 10) #[true, true, true, true, true, true, true, true, false, false, false] #[true, true, true, false, true, true, true, true, false, true, false] rfl rfl rfl rfl (by kernel_rfl) (by decide) (by decide) (fun K hK => ?_) (fun K hK => ?_)
                    · skip
                      refine goes_ Try.func77 (by kernel_rfl) rfl #[.string (s.extract 2 5)] (by rfl) rfl rfl (by (try simp only [List.map_toArray, List.map_cons, List.map_nil]); first | done | rfl | (simp only [List.length_drop, List.length_take]; rfl)) ?_
                      with_reducible refine (impl_DecodeFixed.calls kd (s.extract 2 5) (q : Int) _ A26.out).mono ?_
                      rintro e w' ⟨rfl, ⟨nd, rfl⟩⟩
                      refine ⟨_, rfl, ?_⟩
                      refine hK.out _ _ trivial (fun hHeld => ?_)
                      clear hK K
                      refine norm_ (a' := ?_) ?_ ?_
                      rotate_left
                      · show Act.put _ (some 57) _ = _
                        simp only [Act.put, List.setIfInBounds_toArray, List.set_cons_zero, List.set_cons_succ, i64_w, i32_w]
                        rfl
                      refine pure_ (i := 8) (N := some 62) (v := ?_) (a' := ?_) #[true, true, true, true, true, true, true, true, true, false, false] rfl rfl (by kernel_rfl) (fun _ _ _ h => h) (Or.inl ⟨by rfl, ?_⟩) ?_ ?_
                      rotate_left
                      · intro w'
                        go_simp
                        with_reducible rfl
                      rotate_left
                      · simp only [Act.put, List.setIfInBounds_toArray, List.set_cons_zero, List.set_cons_succ, i64_w, i32_w]
                        rfl
                      refine one_ (i := 9) (N := some 10) #[true, true, true, true, true, true, true, true, true, true, false] rfl rfl (by kernel_rfl) (by decide) (fun K hK => ?_)
                      refine box_step ?hg (N := 10) ?hd (cs := #[.string (⟨#[]⟩ : ByteArray), .int .i64 0, .int .i64 0, .string (⟨#[]⟩ : ByteArray), .string (⟨#[]⟩ : ByteArray)]) (t := 49) ?hr ?_; (case hd => rfl); (case hg => rfl); (case hr => first | (go_simp; done) | (go_simp; rfl))
                      intro gb251 hg w51 hbox hb
                      have n0_ := Aside0.mk (Kd.R_below (Kd.R_elderB (by (with_reducible repeat (first | apply Kd.R_alloc | apply Kd.R_drewN | apply Kd.R_drew)); exact HO_4.out) gb251 (Nat.le_of_eq hg.symm)) hb)
                      have n1_ := Aside0.mk (below_step (by repeat (first | (with_reducible first | exact HB.out | apply below_alloc | apply pw_below_drewN | apply below_drew1) | exact HB.out)) hb)
                      have n2_ := Aside0.mk (hbox)
                      have n3_ := Aside0.mk ((by rw [hg]; exact (below_size (by repeat (first | (with_reducible first | exact HB.out | apply below_alloc | apply pw_below_drewN | apply below_drew1) | exact HB.out))) : w.heap.size ≤ gb251))
                      have n4_ := Aside0.mk ((by rw [hg]; exact (below_size (by repeat (first | (with_reducible first | exact HB.out | apply below_alloc | apply pw_below_drewN | apply below_drew1) | exact HB.out))) : w.heap.size ≤ gb251))
                      clear HO_4
                      clear HB
                      have HO_4 := n0_
                      have HB := n1_
                      have BK251 := n2_
                      have GW251 := n3_
                      have GE251 := n4_
                      clear n0_ n1_ n2_ n3_ n4_
                      clear hb hbox hg
                      refine hK.out _ _ trivial (fun hHeld => ?_)
                      clear hK K
                      refine norm_ (a' := ?_) ?_ ?_
                      rotate_left
                      · show Act.put _ (some 10) _ = _
                        simp only [Act.put, List.setIfInBounds_toArray, List.set_cons_zero, List.set_cons_succ, i64_w, i32_w]
                        rfl
                      exact norm_ (by simp only [putAll, Act.put, List.setIfInBounds_toArray, List.set_cons_zero, List.set_cons_succ]) (hCont (gb251) _ ⟨(by (with_reducible repeat (first | apply Kd.R_alloc | apply Kd.R_drewN | apply Kd.R_drew)); exact Kd.R_mono HO_4.out (fun _ hk => hk.2)), (by (with_reducible repeat (first | refine blk_drewN ?_ _ | refine blk_drew ?_ | refine blk_alloc ?_ _)); exact BK251.out), GW251.out, GE251.out, (by repeat (first | (with_reducible first | exact HB.out | apply below_alloc | apply pw_below_drewN | apply below_drew1 | refine below_set ?_ GE251.out) | exact HB.out))⟩)
                    · skip
                      refine box_step ?hg (N := 10) ?hd (cs := #[.string (⟨#[]⟩ : ByteArray), .int .i64 0, .int .i64 0, .string (⟨#[]⟩ : ByteArray), .string (⟨#[]⟩ : ByteArray)]) (t := 49) ?hr ?_; (case hd => rfl); (case hg => rfl); (case hr => first | (go_simp; done) | (go_simp; rfl))
                      intro gb251 hg w51 hbox hb
                      have n0_ := Aside0.mk (Kd.R_below (Kd.R_elderB (by (with_reducible repeat (first | apply Kd.R_alloc | apply Kd.R_drewN | apply Kd.R_drew)); exact HO_4.out) gb251 (Nat.le_of_eq hg.symm)) hb)
                      have n1_ := Aside0.mk (below_step (by repeat (first | (with_reducible first | exact HB.out | apply below_alloc | apply pw_below_drewN | apply below_drew1) | exact HB.out)) hb)
                      have n2_ := Aside0.mk (hbox)
                      have n3_ := Aside0.mk ((by rw [hg]; exact (below_size (by repeat (first | (with_reducible first | exact HB.out | apply below_alloc | apply pw_below_drewN | apply below_drew1) | exact HB.out))) : w.heap.size ≤ gb251))
                      have n4_ := Aside0.mk ((by rw [hg]; exact (below_size (by repeat (first | (with_reducible first | exact HB.out | apply below_alloc | apply pw_below_drewN | apply below_drew1) | exact HB.out))) : w.heap.size ≤ gb251))
                      clear HO_4
                      clear HB
                      have HO_4 := n0_
                      have HB := n1_
                      have BK251 := n2_
                      have GW251 := n3_
                      have GE251 := n4_
                      clear n0_ n1_ n2_ n3_ n4_
                      clear hb hbox hg
                      refine hK.out _ _ trivial (fun hHeld => ?_)
                      clear hK K
                      refine norm_ (a' := ?_) ?_ ?_
                      rotate_left
                      · show Act.put _ (some 10) _ = _
                        simp only [Act.put, List.setIfInBounds_toArray, List.set_cons_zero, List.set_cons_succ, i64_w, i32_w]
                        rfl
                      refine one_ (i := 3) (N := some 57) #[true, true, true, true, true, true, true, true, false, true, false] rfl rfl (by kernel_rfl) (by decide) (fun K hK => ?_)
                      refine goes_ Try.func77 (by kernel_rfl) rfl #[.string (s.extract 2 5)] (by rfl) rfl rfl (by (try simp only [List.map_toArray, List.map_cons, List.map_nil]); first | done | rfl | (simp only [List.length_drop, List.length_take]; rfl)) ?_
                      with_reducible refine (impl_DecodeFixed.calls kd (s.extract 2 5) (q : Int) _ A26.out).mono ?_
                      rintro e w' ⟨rfl, ⟨nd, rfl⟩⟩
                      refine ⟨_, rfl, ?_⟩
                      refine hK.out _ _ trivial (fun hHeld => ?_)
                      clear hK K
                      refine norm_ (a' := ?_) ?_ ?_
                      rotate_left
                      · show Act.put _ (some 57) _ = _
                        simp only [Act.put, List.setIfInBounds_toArray, List.set_cons_zero, List.set_cons_succ, i64_w, i32_w]
                        rfl
                      refine pure_ (i := 8) (N := some 62) (v := ?_) (a' := ?_) #[true, true, true, true, true, true, true, true, true, true, false] rfl rfl (by kernel_rfl) (fun _ _ _ h => h) (Or.inl ⟨by rfl, ?_⟩) ?_ ?_
                      rotate_left
                      · intro w'
                        go_simp
                        with_reducible rfl
                      rotate_left
                      · simp only [Act.put, List.setIfInBounds_toArray, List.set_cons_zero, List.set_cons_succ, i64_w, i32_w]
                        rfl
                      exact norm_ (by simp only [putAll, Act.put, List.setIfInBounds_toArray, List.set_cons_zero, List.set_cons_succ]) (hCont (gb251) _ ⟨(by (with_reducible repeat (first | apply Kd.R_alloc | apply Kd.R_drewN | apply Kd.R_drew)); exact Kd.R_mono HO_4.out (fun _ hk => hk.2)), (by (with_reducible repeat (first | refine blk_drewN ?_ _ | refine blk_drew ?_ | refine blk_alloc ?_ _)); exact BK251.out), GW251.out, GE251.out, (by repeat (first | (with_reducible first | exact HB.out | apply below_alloc | apply pw_below_drewN | apply below_drew1 | refine below_set ?_ GE251.out) | exact HB.out))⟩)
                  rintro gb251 w52 ⟨h0_, h1_, h2_, h3_, h4_⟩
                  have n0_ : Aside0 (Kd.R k49 49 w52 w.heap.size (fun k_ => k_ ≠ gb251) u4 acc) := ⟨h0_⟩
                  have n1_ : Aside0 (w52.heap[gb251]? = some (.cells #[.string (⟨#[]⟩ : ByteArray), .int .i64 0, .int .i64 0, .string (⟨#[]⟩ : ByteArray), .string (⟨#[]⟩ : ByteArray)] 49 (0, 0))) := ⟨h1_⟩
                  have n2_ : Aside0 (w.heap.size ≤ gb251) := ⟨h2_⟩
                  have n3_ : Aside0 (w.heap.size ≤ gb251) := ⟨h3_⟩
                  have n4_ : Aside0 (Below w.heap.size w w52) := ⟨h4_⟩
                  clear HO_4
                  clear HB
                  clear h0_ h1_ h2_ h3_ h4_
                  have HO_4 := n0_
                  have BK251 := n1_
                  have GW251 := n2_
                  have GE251 := n3_
                  have HB := n4_
                  clear n0_ n1_ n2_ n3_ n4_
                  have hHeld := trivial
                  refine norm_ (a' := ?_) ?_ ?_
                  rotate_left
                  · simp only [putAll, Act.put, List.setIfInBounds_toArray, List.set_cons_zero, List.set_cons_succ]
                    rfl
                  refine one_ (i := 10) (N := none) #[true, true, true, true, true, true, true, true, true, true, true] rfl rfl (by kernel_rfl) (by decide) (fun K hK => ?_)
                  have hs53 : w52.cell? ⟨gb251, 0, none⟩ = some (.string (⟨#[]⟩ : ByteArray)) := (blk_cell BK251.out 0).trans rfl
                  have hfs53 := blk_frozen BK251.out 0
                  have hs54 : w52.cell? ⟨gb251, 1, none⟩ = some (.int .i64 0) := (blk_cell BK251.out 1).trans rfl
                  have hfs54 := blk_frozen BK251.out 1
                  have hs55 : w52.cell? ⟨gb251, 2, none⟩ = some (.int .i64 0) := (blk_cell BK251.out 2).trans rfl
                  have hfs55 := blk_frozen BK251.out 2
                  have hs56 : w52.cell? ⟨gb251, 3, none⟩ = some (.string (⟨#[]⟩ : ByteArray)) := (blk_cell BK251.out 3).trans rfl
                  have hfs56 := blk_frozen BK251.out 3
                  have hs57 : w52.cell? ⟨gb251, 4, none⟩ = some (.string (⟨#[]⟩ : ByteArray)) := (blk_cell BK251.out 4).trans rfl
                  have hfs57 := blk_frozen BK251.out 4
                  refine skip_ (w1 := ?_) (by rfl) rfl ?_ ?_
                  rotate_left
                  · go_simp
                    rfl
                  refine hK.out _ _ trivial (fun hHeld => ?_)
                  clear hK K
                  refine done_ (by kernel_rfl) ?_
                  have HK11 : Aside0 ((((((w52.setCell ⟨gb251, 0, none⟩ (.string (key.extract 0 n ++ s.extract 7 e1))).setCell ⟨gb251, 1, none⟩ (.int .i64 (q : Int))).setCell ⟨gb251, 2, none⟩ (.int .i64 (z : Int))).setCell ⟨gb251, 3, none⟩ (.string (s.extract e1 e2))).setCell ⟨gb251, 4, none⟩ (.string (⟨#[]⟩ : ByteArray))).heap[gb251]? = some (.cells #[.string (key.extract 0 n ++ s.extract 7 e1), .int .i64 (q : Int), .int .i64 (z : Int), .string (s.extract e1 e2), .string (⟨#[]⟩ : ByteArray)] 49 (0, 0))) := ⟨(blk_put (cs' := #[.string (key.extract 0 n ++ s.extract 7 e1), .int .i64 (q : Int), .int .i64 (z : Int), .string (s.extract e1 e2), .string (⟨#[]⟩ : ByteArray)]) (blk_put (cs' := #[.string (key.extract 0 n ++ s.extract 7 e1), .int .i64 (q : Int), .int .i64 (z : Int), .string (s.extract e1 e2), .string (⟨#[]⟩ : ByteArray)]) (blk_put (cs' := #[.string (key.extract 0 n ++ s.extract 7 e1), .int .i64 (q : Int), .int .i64 (z : Int), .string (⟨#[]⟩ : ByteArray), .string (⟨#[]⟩ : ByteArray)]) (blk_put (cs' := #[.string (key.extract 0 n ++ s.extract 7 e1), .int .i64 (q : Int), .int .i64 0, .string (⟨#[]⟩ : ByteArray), .string (⟨#[]⟩ : ByteArray)]) (blk_put (cs' := #[.string (key.extract 0 n ++ s.extract 7 e1), .int .i64 0, .int .i64 0, .string (⟨#[]⟩ : ByteArray), .string (⟨#[]⟩ : ByteArray)]) BK251.out 0 (.string (key.extract 0 n ++ s.extract 7 e1)) rfl) 1 (.int .i64 (q : Int)) rfl) 2 (.int .i64 (z : Int)) rfl) 3 (.string (s.extract e1 e2)) rfl) 4 (.string (⟨#[]⟩ : ByteArray)) rfl)⟩
                  have HO11 : Aside0 (Kd.R k49 49 (((((w52.setCell ⟨gb251, 0, none⟩ (.string (key.extract 0 n ++ s.extract 7 e1))).setCell ⟨gb251, 1, none⟩ (.int .i64 (q : Int))).setCell ⟨gb251, 2, none⟩ (.int .i64 (z : Int))).setCell ⟨gb251, 3, none⟩ (.string (s.extract e1 e2))).setCell ⟨gb251, 4, none⟩ (.string (⟨#[]⟩ : ByteArray))) w.heap.size (fun k_ => k_ ≠ gb251) u4 acc) := ⟨Kd.R_mono (Kd.R_far (p := ⟨gb251, 4, none⟩) (Kd.R_far (p := ⟨gb251, 3, none⟩) (Kd.R_far (p := ⟨gb251, 2, none⟩) (Kd.R_far (p := ⟨gb251, 1, none⟩) (Kd.R_far (p := ⟨gb251, 0, none⟩) (Kd.R_mono HO_4.out (fun k_ hk => (⟨hk, hk⟩ : _ ∧ k_ ≠ gb251))) (fun _ hk => hk.2) (.string (key.extract 0 n ++ s.extract 7 e1))) (fun _ hk => hk.2) (.int .i64 (q : Int))) (fun _ hk => hk.2) (.int .i64 (z : Int))) (fun _ hk => hk.2) (.string (s.extract e1 e2))) (fun _ hk => hk.2) (.string (⟨#[]⟩ : ByteArray))) (fun _ hk => hk.1)⟩
                  have HB11 : Aside0 (Below w.heap.size w (((((w52.setCell ⟨gb251, 0, none⟩ (.string (key.extract 0 n ++ s.extract 7 e1))).setCell ⟨gb251, 1, none⟩ (.int .i64 (q : Int))).setCell ⟨gb251, 2, none⟩ (.int .i64 (z : Int))).setCell ⟨gb251, 3, none⟩ (.string (s.extract e1 e2))).setCell ⟨gb251, 4, none⟩ (.string (⟨#[]⟩ : ByteArray)))) := ⟨(below_set (below_set (below_set (below_set (below_set HB.out GE251.out) GE251.out) GE251.out) GE251.out) GE251.out)⟩
                  clear HO_4 HB BK251 hHeld hs53 hfs53 hs54 hfs54 hs55 hfs55 hs56 hfs56 hs57 hfs57
                  generalize (((((w52.setCell ⟨gb251, 0, none⟩ (.string (key.extract 0 n ++ s.extract 7 e1))).setCell ⟨gb251, 1, none⟩ (.int .i64 (q : Int))).setCell ⟨gb251, 2, none⟩ (.int .i64 (z : Int))).setCell ⟨gb251, 3, none⟩ (.string (s.extract e1 e2))).setCell ⟨gb251, 4, none⟩ (.string (⟨#[]⟩ : ByteArray))) = W11 at HK11 HO11 HB11 ⊢
                  have hcz_0 : W11.cell? ⟨gb251, 0, none⟩ = some (.string (key.extract 0 n ++ s.extract 7 e1)) := (blk_cell HK11.out 0).trans rfl
                  have hcz_1 : W11.cell? ⟨gb251, 1, none⟩ = some (.int .i64 (q : Int)) := (blk_cell HK11.out 1).trans rfl
                  have hcz_2 : W11.cell? ⟨gb251, 2, none⟩ = some (.int .i64 (z : Int)) := (blk_cell HK11.out 2).trans rfl
                  have hcz_3 : W11.cell? ⟨gb251, 3, none⟩ = some (.string (s.extract e1 e2)) := (blk_cell HK11.out 3).trans rfl
                  have hcz_4 : W11.cell? ⟨gb251, 4, none⟩ = some (.string (⟨#[]⟩ : ByteArray)) := (blk_cell HK11.out 4).trans rfl
                  have hfz_0 := blk_frozen HK11.out 0
                  have hfz_1 := blk_frozen HK11.out 1
                  have hfz_2 := blk_frozen HK11.out 2
                  have hfz_3 := blk_frozen HK11.out 3
                  have hfz_4 := blk_frozen HK11.out 4
                  go_wp2_with (first | ((with_reducible refine gate_builtin (b := .append) (xs := #[.tmp 69, .tmp 71]) rfl ?_); (try (refine gate_guard (by rfl) ?_; dsimp only)); at_builtin; refine Kd.R_append k49 (w0 := w) w.heap.size rfl (.tmp 69) (.tmp 71) 24 49 (.agg #[(.string ⟨#[]⟩), (.int .i64 0), (.int .i64 0), (.string ⟨#[]⟩), (.string ⟨#[]⟩)]) 64 rfl Try.underlying24 info49 rfl (by decide) (by omega) u4 acc (⟨(key.extract 0 n ++ s.extract 7 e1), (q : Int), (z : Int), (s.extract e1 e2), (⟨#[]⟩ : ByteArray)⟩ : S49) [.string (key.extract 0 n ++ s.extract 7 e1), .int .i64 (q : Int), .int .i64 (z : Int), .string (s.extract e1 e2), .string (⟨#[]⟩ : ByteArray)] (fun k_ => k_ ≠ gb251) (fun _ => False) rfl (by first | (go_simp; done) | (go_simp; rfl)) ?aP (fun _ hk => hk.elim) ?aF ?aO ?aB ?aS ?aL ?_; (case aP => exact k49_mkM _ _ _ (⟨(key.extract 0 n ++ s.extract 7 e1), (q : Int), (z : Int), (s.extract e1 e2), (⟨#[]⟩ : ByteArray)⟩ : S49)); (case aB => exact (by repeat (first | (with_reducible first | exact HB11.out | apply below_alloc | apply pw_below_drewN | apply below_drew1 | refine below_set ?_ GE251.out) | exact HB11.out))); (case aF => exact (fun k_ hk => Kd.freshB (g := gb251) (o := .cells #[.string (key.extract 0 n ++ s.extract 7 e1), .int .i64 (q : Int), .int .i64 (z : Int), .string (s.extract e1 e2), .string (⟨#[]⟩ : ByteArray)] 49 (0, 0)) (by (with_reducible repeat (first | refine blk_drewN ?_ _ | refine blk_drew ?_ | refine blk_alloc ?_ _)); exact HK11.out) k_ hk)); (case aO => exact (by (with_reducible repeat (first | apply Kd.R_alloc | apply Kd.R_drewN | apply Kd.R_drew)); exact HO11.out)); (case aS => exact (below_size (by repeat (first | (with_reducible first | exact HB11.out | apply below_alloc | apply pw_below_drewN | apply below_drew1 | refine below_set ?_ GE251.out) | exact HB11.out)))); (case aL => have := LMc30.out; omega); intro v253 w44 ho hb hg hat; rw [← Ny255.out] at ho; have n1_ := Aside0.mk (hb); have n2_ := Aside0.mk (ho); clear HB11 HO11; have HB := n1_; have HO254 := n2_; clear n1_ n2_; clear ho hb hg hat))
                  go_roundg kj
                  case measure => exact Nat.lt_succ_self _
                  case rel => exact ⟨s.extract e2 s.size, y255, key.extract 0 n ++ s.extract 7 e1, rfl, rfl, by rw [HS1.out]; exact HS3.out, by rw [HS1.out]; exact HS4.out, HS2.out, ⟨by rw [HS1.out]; exact HS6.out⟩, H', ⟨by (with_reducible repeat (first | apply Kd.R_alloc | apply Kd.R_drewN | apply Kd.R_drew)); exact Kd.R_mono HO254.out (fun _ hk => trivial)⟩, ⟨by repeat (first | (with_reducible first | exact HB.out | apply below_alloc | apply pw_below_drewN | apply below_drew1 | refine below_set ?_ GE251.out) | exact HB.out)⟩⟩
  · rw [if_neg hl] at h
    cases h
end Go.Proofs.Ytogndjjoeahccaa.Q
