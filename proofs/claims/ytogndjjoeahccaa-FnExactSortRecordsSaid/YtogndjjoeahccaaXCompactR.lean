/- slices.Compact over records: of neighbours that are one, one stays. Conditions: those before each theorem. -/
import Derived.Test.YtogndjjoeahccaaXDelR
import Derived.Deep.QuietTactic
import Derived.BigQuiet
import Derived.Lib.Strings
import Derived.Test.YtogndjjoeahccaaWEqStruct
namespace Go.Proofs.Ytogndjjoeahccaa.Q
open Go.RowKit Go.Proofs.YtogndjjoeahccaaW.PrintWords Go.Proofs.YtogndjjoeahccaaW.PrintMore
set_option linter.unusedVariables false
def eqR (x y : S49) : Bool := x.f0.toList == y.f0.toList && (x.f1 == y.f1 && (x.f2 == y.f2 && (x.f3.toList == y.f3.toList && x.f4.toList == y.f4.toList)))
def dedR : List S49 → List S49
  | [] => []
  | x :: l => match l with
    | [] => [x]
    | y :: r => if eqR y x then dedR (y :: r) else x :: dedR (y :: r)
theorem dedR_cons (x y : S49) (r : List S49) : dedR (x :: y :: r) = if eqR y x then dedR (y :: r) else x :: dedR (y :: r) := by rw [dedR]
theorem ba_ext {a b : ByteArray} (h : a.toList = b.toList) : a = b := by
  rw [Lib.toList_data, Lib.toList_data] at h
  cases a; cases b
  simp only at h
  rw [Array.toList_inj.1 h]
theorem eqR_iff (x y : S49) : eqR x y = true ↔ x = y := by
  constructor
  · intro h
    unfold eqR at h
    simp only [Bool.and_eq_true, beq_iff_eq] at h
    obtain ⟨a, b, c, d, e⟩ := h
    cases x; cases y
    simp only at a b c d e
    rw [ba_ext a, b, c, ba_ext d, ba_ext e]
  · rintro rfl
    simp [eqR]
theorem dedR_snoc : ∀ (l : List S49) (x y : S49), dedR (l ++ [x, y]) = if eqR y x then dedR (l ++ [x]) else dedR (l ++ [x]) ++ [y]
  | [], x, y => by
    show dedR [x, y] = if eqR y x then dedR [x] else dedR [x] ++ [y]
    rw [dedR_cons]
    by_cases h : eqR y x = true
    · rw [if_pos h, if_pos h, (eqR_iff _ _).1 h]
    · rw [if_neg h, if_neg h]
      rfl
  | [z], x, y => by
    have ih := dedR_snoc [] x y
    show dedR (z :: x :: [y]) = if eqR y x then dedR [z, x] else dedR [z, x] ++ [y]
    rw [dedR_cons z x [y], dedR_cons z x [], show dedR (x :: [y]) = dedR ([] ++ [x, y]) from rfl, ih]
    by_cases h : eqR y x = true <;> by_cases h2 : eqR x z = true <;> simp [h, h2]
  | z :: u :: l, x, y => by
    have ih := dedR_snoc (u :: l) x y
    simp only [List.cons_append] at ih ⊢
    rw [dedR_cons, dedR_cons, ih]
    by_cases h : eqR y x = true <;> by_cases h2 : eqR u z = true <;> simp [h, h2]
theorem dedR_take (xs : List S49) (j : Nat) (hj : j + 1 < xs.length) : dedR (xs.take (j + 2)) = if eqR xs[j + 1] xs[j] then dedR (xs.take (j + 1)) else dedR (xs.take (j + 1)) ++ [xs[j + 1]] := by
  have e1 : xs.take (j + 1) = xs.take j ++ [xs[j]] := List.take_succ_eq_append_getElem (by omega)
  have e2 : xs.take (j + 2) = xs.take j ++ [xs[j], xs[j + 1]] := by rw [List.take_succ_eq_append_getElem (by omega), e1, List.append_assoc]; rfl
  rw [e2, e1]
  exact dedR_snoc _ _ _
def DedK (xs : List S49) (i j : Nat) (ys : List S49) : Prop := ys.length = xs.length ∧ i ≤ j ∧ ys.take i = dedR (xs.take (j + 1)) ∧ ys.drop j = xs.drop j
theorem ded_start (xs : List S49) (k : Nat) (hk : k + 1 < xs.length) (hd : dedR (xs.take (k + 1)) = xs.take (k + 1)) (hq : eqR xs[k + 1] xs[k] = true) : DedK xs (k + 1) (k + 1) xs :=
  ⟨rfl, Nat.le_refl _, by rw [dedR_take xs k hk, if_pos hq, hd], rfl⟩
theorem ded_keep {xs ys : List S49} {i j : Nat} (h : DedK xs i j ys) (hj : j + 1 < xs.length) (hq : eqR xs[j + 1] xs[j] = false) : DedK xs (i + 1) (j + 1) (ys.set i xs[j + 1]) := by
  obtain ⟨h1, h2, h3, h4⟩ := h
  refine ⟨by rw [List.length_set, h1], by omega, ?_, ?_⟩
  · rw [dedR_take xs j hj, hq, if_neg (by decide), ← h3, List.take_succ_eq_append_getElem (by rw [List.length_set]; omega), List.getElem_set_self, List.take_set_of_le (by omega)]
  · rw [List.drop_set_of_lt (by omega)]
    have := congrArg (List.drop 1) h4
    simpa [List.drop_drop] using this
theorem ded_skip {xs ys : List S49} {i j : Nat} (h : DedK xs i j ys) (hj : j + 1 < xs.length) (hq : eqR xs[j + 1] xs[j] = true) : DedK xs i (j + 1) ys := by
  obtain ⟨h1, h2, h3, h4⟩ := h
  refine ⟨h1, by omega, ?_, ?_⟩
  · rw [dedR_take xs j hj, hq, if_pos rfl, h3]
  · have := congrArg (List.drop 1) h4
    simpa [List.drop_drop] using this
theorem ded_at {xs ys : List S49} {i j : Nat} (h : DedK xs i j ys) (m : Nat) (hm : j ≤ m) (hj : m < xs.length) : ys[m]? = some xs[m] := by
  obtain ⟨h1, h2, h3, h4⟩ := h
  have := congrArg (fun l => l[m - j]?) h4
  simp only [List.getElem?_drop] at this
  rw [show j + (m - j) = m from by omega] at this
  rw [this, List.getElem?_eq_getElem hj]
theorem eqAR (d : Nat) (w : World) (x y : S49) :
    (Op.equalIn (d + 2) 49 (.agg #[.string x.f0, .int .i64 x.f1, .int .i64 x.f2, .string x.f3, .string x.f4]) (.agg #[.string y.f0, .int .i64 y.f1, .int .i64 y.f2, .string y.f3, .string y.f4])).run Try.prog w = .ok (eqR x y) w := by
  unfold eqR
  refine eqA_of Try.underlying49 (by kernel_rfl) ?_
  refine eqf_cons (by rfl) (by go_simp; rfl) (by go_simp; rfl) (by go_simp) ?_
  refine eqf_cons (by rfl) (by go_simp; rfl) (by go_simp; rfl) (by go_simp) ?_
  refine eqf_cons (by rfl) (by go_simp; rfl) (by go_simp; rfl) (by go_simp) ?_
  refine eqf_cons (by rfl) (by go_simp; rfl) (by go_simp; rfl) (by go_simp) ?_
  exact eqf_last (by rfl) (by go_simp; rfl) (by go_simp; rfl) (by go_simp)
attribute [local go_sem high] eqAR
theorem rdR_at (xs : List S49) (m : Nat) (y : S49) (h : xs[m]? = some y) : xs.getD (m : Int).toNat z49 = y := by
  rw [Int.toNat_natCast, List.getD_eq_getElem?_getD, h]
  rfl
set_option maxHeartbeats 4000000 in
set_option maxRecDepth 100000 in
theorem compactR_calls (A : Option Addr) (c : Nat) (xs : List S49) (w0 w : World) (base : Nat) (ok : Nat → Prop) (HR : Kd.R k49 49 w base ok (.slice A xs.length c) xs) (HB : Below base w0 w) (hbase : base ≤ w.heap.size) :
    Calls Try.prog 41 #[.slice A xs.length c] w fun e w' => ∃ v, e = .returned v ∧ Kd.R k49 49 w' base ok v (dedR xs) ∧ Below base w0 w' := by
  obtain ⟨hnn, hcap, hC⟩ := Kd.R_reads' HR
  have hbig := hC.2.1
  by_cases h2 : xs.length < 2
  · have hz : (xs.length : Int) < 2 := by omega
    have HE : Aside0 (dedR xs = xs) := ⟨by
      match xs, h2 with
      | [], _ => rfl
      | [x], _ => rfl⟩
    have HR1 := Aside0.mk HR
    have HB1 := Aside0.mk HB
    clear HR HB hC h2
    go_enter Try.func41, Try.ntmps41
    go_wp2
    go_ret
    exact ⟨_, rfl, by rw [HE.out]; exact HR1.out, HB1.out⟩
  · have hz : ¬ (xs.length : Int) < 2 := by omega
    obtain ⟨gb, rfl⟩ : ∃ gb, A = some ⟨gb, 0, none⟩ := by
      obtain ⟨gb, cb, hv, _⟩ := Kd.R_form HR (by omega)
      injection hv with ha
      exact ⟨gb, ha⟩
    have hbg : base ≤ gb := Kd.R_base HR gb (by simp [Value.ownBlock])
    have HR1 := Aside0.mk HR
    have HB1 := Aside0.mk HB
    have HD0 : Aside0 (dedR (xs.take 1) = xs.take 1) := ⟨by
      match xs, h2 with
      | [], h => exact absurd (by simp) h
      | x :: l, _ => rfl⟩
    clear HR HB hC h2
    go_enter Try.func41, Try.ntmps41
    go_wp2
    go_loopg [3] xs.length (fun gg s3 wr => ∃ k : Nat, s3 = .int .i64 ((k + 1 : Nat) : Int) ∧ k + 1 ≤ xs.length ∧ xs.length - k ≤ gg ∧ (∃ n, wr = w.drewN n) ∧ Aside0 (dedR (xs.take (k + 1)) = xs.take (k + 1)))
    case atStart => exact ⟨0, by go_num, by omega, by omega, ⟨0, rfl⟩, HD0⟩
    case round =>
      obtain ⟨k, rfl, hk, hg, ⟨n, rfl⟩, HD⟩ := hrel
      by_cases hlt : k + 1 < xs.length
      · obtain ⟨c1, hl1, hM1, hcc1, _⟩ := Kd.R_elem HR1.out z49 ((k + 1 : Nat) : Int) (by omega) (by omega)
        obtain ⟨c2, hl2, hM2, hcc2, _⟩ := Kd.R_elem HR1.out z49 ((k : Nat) : Int) (by omega) (by omega)
        rw [rdR_at xs (k + 1) xs[k + 1] (List.getElem?_eq_getElem hlt)] at hM1
        rw [rdR_at xs k xs[k] (List.getElem?_eq_getElem (by omega))] at hM2
        have HS := Aside0.mk (ded_start xs k hlt HD.out)
        have HT := Aside0.mk (dedR_take xs k hlt)
        have HT2 : Aside0 (xs.take (k + 2) = xs.take (k + 1) ++ [xs[k + 1]]) := ⟨List.take_succ_eq_append_getElem hlt⟩
        generalize xs[k + 1] = x at hM1 HS HT HT2
        generalize xs[k] = y at hM2 HS HT
        obtain rfl := k49_openM hM1
        obtain rfl := k49_openM hM2
        rw [Int.toNat_natCast] at hcc1 hcc2
        have e0 : w.cell? ⟨gb, (k + 1) * 5, none⟩ = some (.string x.f0) := hcc1 0 _ rfl
        have e1 : w.cell? ⟨gb, (k + 1) * 5 + 1, none⟩ = some (.int .i64 x.f1) := hcc1 1 _ rfl
        have e2 : w.cell? ⟨gb, (k + 1) * 5 + 2, none⟩ = some (.int .i64 x.f2) := hcc1 2 _ rfl
        have e3 : w.cell? ⟨gb, (k + 1) * 5 + 3, none⟩ = some (.string x.f3) := hcc1 3 _ rfl
        have e4 : w.cell? ⟨gb, (k + 1) * 5 + 4, none⟩ = some (.string x.f4) := hcc1 4 _ rfl
        have d0 : w.cell? ⟨gb, k * 5, none⟩ = some (.string y.f0) := hcc2 0 _ rfl
        have d1 : w.cell? ⟨gb, k * 5 + 1, none⟩ = some (.int .i64 y.f1) := hcc2 1 _ rfl
        have d2 : w.cell? ⟨gb, k * 5 + 2, none⟩ = some (.int .i64 y.f2) := hcc2 2 _ rfl
        have d3 : w.cell? ⟨gb, k * 5 + 3, none⟩ = some (.string y.f3) := hcc2 3 _ rfl
        have d4 : w.cell? ⟨gb, k * 5 + 4, none⟩ = some (.string y.f4) := hcc2 4 _ rfl
        clear hl1 hM1 hcc1 hl2 hM2 hcc2
        have hk1 : ((k + 1 : Nat) : Int) < (xs.length : Int) := by omega
        have hk2 : (k : Int) < (xs.length : Int) := by omega
        have hk3 : IntKind.i64.wrap (((k + 1 : Nat) : Int) - 1) = (k : Int) := by rw [IntKind.wrap_i64]; omega
        cases hq : eqR x y with
        | false =>
          have HQ : Aside0 (dedR (xs.take (k + 2)) = xs.take (k + 2)) := ⟨by rw [HT.out, hq, if_neg (by decide), HT2.out, HD.out]⟩
          go_wp2_with fail
          go_quiet (fail)
          go_wp2
          go_roundg (xs.length - (k + 1))
          case measure => omega
          case rel => exact ⟨k + 1, by go_num, by omega, by omega, ⟨_, rfl⟩, HQ⟩
        | true =>
          have HS1 := Aside0.mk (HS.out hq)
          have hne : ¬ c = k + 1 := by omega
          go_wp2_with fail
          go_quiet (fail)
          clear e0 e1 e2 e3 e4 d0 d1 d2 d3 d4 HT HT2 HS hk2 hk3 hq
          have HRN : Aside0 (Kd.R k49 49 ((w.drewN n).drewN nq) base ok (.slice (some ⟨gb, 0, none⟩) xs.length c) xs) := ⟨Kd.R_drewN (Kd.R_drewN HR1.out n) nq⟩
          have HBN : Aside0 (Below base w0 ((w.drewN n).drewN nq)) := ⟨pw_below_drewN (pw_below_drewN HB1.out n) nq⟩
          have hszN : w.heap.size ≤ ((w.drewN n).drewN nq).heap.size := Nat.le_refl _
          generalize (w.drewN n).drewN nq = w5 at HRN HBN hszN ⊢
          go_wp2
          go_loopg [3, 5] xs.length (fun gg s3 s5 wr => ∃ (i m : Nat) (ys : List S49), s3 = .int .i64 i ∧ s5 = .int .i64 ((m + 1 : Nat) : Int) ∧ k + 1 + m < xs.length ∧ xs.length - (k + 1 + m) ≤ gg ∧ w.heap.size ≤ wr.heap.size ∧ Aside0 (Kd.R k49 49 wr base ok (.slice (some ⟨gb, 0, none⟩) xs.length c) ys) ∧ Aside0 (Below base w0 wr) ∧ Aside0 (DedK xs i (k + 1 + m) ys))
          case atStart => exact ⟨k + 1, 0, xs, by go_num, by go_num, by omega, by omega, hszN, HRN, HBN, HS1⟩
          case round =>
            obtain ⟨i, m, ys, rfl, rfl, hm, hg2, hsz, HR2, HB2, HK⟩ := hrel
            by_cases hlt2 : k + 1 + m + 1 < xs.length
            · have hyl := Aside0.mk HK.out.1
              obtain ⟨c1, hl1, hM1, hcc1, _⟩ := Kd.R_elem HR2.out z49 ((k + 1 + m + 1 : Nat) : Int) (by omega) (by have := hyl.out; omega)
              obtain ⟨c2, hl2, hM2, hcc2, _⟩ := Kd.R_elem HR2.out z49 ((k + 1 + m : Nat) : Int) (by omega) (by have := hyl.out; omega)
              rw [rdR_at ys (k + 1 + m + 1) xs[k + 1 + m + 1] (ded_at HK.out _ (by omega) hlt2)] at hM1
              rw [rdR_at ys (k + 1 + m) xs[k + 1 + m] (ded_at HK.out _ (by omega) (by omega))] at hM2
              have HQ1 := Aside0.mk (ded_keep HK.out hlt2)
              have HQ2 := Aside0.mk (ded_skip HK.out hlt2)
              generalize xs[k + 1 + m + 1] = x2 at hM1 HQ1 HQ2
              generalize xs[k + 1 + m] = y2 at hM2 HQ1 HQ2
              obtain rfl := k49_openM hM1
              obtain rfl := k49_openM hM2
              rw [Int.toNat_natCast] at hcc1 hcc2
              replace hcc1 : ∀ q u, [Value.string x2.f0, .int .i64 x2.f1, .int .i64 x2.f2, .string x2.f3, .string x2.f4][q]? = some u → wr.cell? ⟨gb, (k + 1) * 5 + (m + 1) * 5 + q, none⟩ = some u := fun q u h => by have := hcc1 q u h; rw [show (k + 1 + m + 1) * k49.sz = (k + 1) * 5 + (m + 1) * 5 from by show (k + 1 + m + 1) * 5 = _; omega] at this; exact this
              replace hcc2 : ∀ q u, [Value.string y2.f0, .int .i64 y2.f1, .int .i64 y2.f2, .string y2.f3, .string y2.f4][q]? = some u → wr.cell? ⟨gb, (k + 1) * 5 + m * 5 + q, none⟩ = some u := fun q u h => by have := hcc2 q u h; rw [show (k + 1 + m) * k49.sz = (k + 1) * 5 + m * 5 from by show (k + 1 + m) * 5 = _; omega] at this; exact this
              have e0 : wr.cell? ⟨gb, (k + 1) * 5 + (m + 1) * 5, none⟩ = some (.string x2.f0) := hcc1 0 _ rfl
              have e1 : wr.cell? ⟨gb, (k + 1) * 5 + (m + 1) * 5 + 1, none⟩ = some (.int .i64 x2.f1) := hcc1 1 _ rfl
              have e2 : wr.cell? ⟨gb, (k + 1) * 5 + (m + 1) * 5 + 2, none⟩ = some (.int .i64 x2.f2) := hcc1 2 _ rfl
              have e3 : wr.cell? ⟨gb, (k + 1) * 5 + (m + 1) * 5 + 3, none⟩ = some (.string x2.f3) := hcc1 3 _ rfl
              have e4 : wr.cell? ⟨gb, (k + 1) * 5 + (m + 1) * 5 + 4, none⟩ = some (.string x2.f4) := hcc1 4 _ rfl
              have d0 : wr.cell? ⟨gb, (k + 1) * 5 + m * 5, none⟩ = some (.string y2.f0) := hcc2 0 _ rfl
              have d1 : wr.cell? ⟨gb, (k + 1) * 5 + m * 5 + 1, none⟩ = some (.int .i64 y2.f1) := hcc2 1 _ rfl
              have d2 : wr.cell? ⟨gb, (k + 1) * 5 + m * 5 + 2, none⟩ = some (.int .i64 y2.f2) := hcc2 2 _ rfl
              have d3 : wr.cell? ⟨gb, (k + 1) * 5 + m * 5 + 3, none⟩ = some (.string y2.f3) := hcc2 3 _ rfl
              have d4 : wr.cell? ⟨gb, (k + 1) * 5 + m * 5 + 4, none⟩ = some (.string y2.f4) := hcc2 4 _ rfl
              clear hl1 hM1 hcc1 hl2 hM2 hcc2
              have hk4 : ((m + 1 : Nat) : Int) < ((xs.length - (k + 1) : Nat) : Int) := by omega
              have hk5 : (m : Int) < ((xs.length - (k + 1) : Nat) : Int) := by omega
              have hk6 : IntKind.i64.wrap (((m + 1 : Nat) : Int) - 1) = (m : Int) := by rw [IntKind.wrap_i64]; omega
              cases hq2 : eqR x2 y2 with
              | true =>
                have HQ := Aside0.mk (HQ2.out hq2)
                go_wp2_with fail
                go_quiet (fail)
                go_wp2
                go_roundg (xs.length - (k + 1 + m + 1))
                case measure => omega
                case rel => exact ⟨i, m + 1, ys, rfl, by go_num, by omega, by omega, hsz, ⟨Kd.R_drewN HR2.out _⟩, ⟨pw_below_drewN HB2.out _⟩, HQ⟩
              | false =>
                have HQ := Aside0.mk (HQ1.out hq2)
                have hi1 := HK.out.2.1
                have hi2 : (i : Int) < (xs.length : Int) := by omega
                go_wp2_with fail
                go_quiet (fail)
                have HO3 : Aside0 (Kd.R k49 49 (wr.drewN nq) base ok (.slice (some ⟨gb, 0, none⟩) xs.length c) ys ∧ Below base w0 (wr.drewN nq)) := ⟨Kd.R_drewN HR2.out nq, pw_below_drewN HB2.out nq⟩
                go_wp2_with ((with_reducible refine gate_ (.store 49 (.tmp 51) (.tmp 50)) rfl ?_); (obtain ⟨ci, hcli, hMi, hcci, _⟩ := Kd.R_elem HO3.out.1 z49 (i : Int) (by omega) (by have := hyl.out; omega); refine Kd.R_store k49 (w0 := w0) base rfl rfl 49 (.tmp 51) (.tmp 50) rfl 49 (i : Int) 0 ys x2 (.agg #[.string x2.f0, .int .i64 x2.f1, .int .i64 x2.f2, .string x2.f3, .string x2.f4]) [.string x2.f0, .int .i64 x2.f1, .int .i64 x2.f2, .string x2.f3, .string x2.f4] ci ok (fun k => ok k ∧ k ≠ gb) rfl rfl rfl rfl sizeR (by simp [Value.oneCell']) HO3.out.1 (by omega) (by have := hyl.out; omega) hcli hcci (show 0 + 5 ≤ 5 by decide) ?hM (fun _ hk => hk) HO3.out.2 ?_; (case hM => obtain rfl := k49_openM hMi; exact k49_mkM _ _ _ x2); intro w3 hr3 hb3 hg3; have HR3 := Aside0.mk hr3; have HB3 := Aside0.mk hb3; have HG3 := Aside0.mk hg3; clear hr3 hb3 hg3 hcli hMi hcci))
                go_roundg (xs.length - (k + 1 + m + 1))
                case measure => omega
                case rel => exact ⟨i + 1, m + 1, ys.set i x2, by go_num, by go_num, by omega, by omega, Nat.le_trans hsz HG3.out.size, ⟨HR3.out⟩, ⟨HB3.out⟩, HQ⟩
            · have hk7 : ¬ ((m + 1 : Nat) : Int) < ((xs.length - (k + 1) : Nat) : Int) := by omega
              have hij := HK.out.2.1
              have hne2 : ¬ c = i := by omega
              have hi3 : i ≤ xs.length := by omega
              have HT := Aside0.mk (Kd.R_take HR2.out (m := i) (by have := HK.out.1; omega))
              have HKF : Aside0 (ys.take i = dedR xs) := ⟨by rw [HK.out.2.2.1, List.take_of_length_le (by omega)]⟩
              obtain ⟨L, hLl, hLr⟩ : ∃ L : List Value, L.length = (xs.length - i) * 5 ∧ ∀ ty, (Builtin.clear_ #[24] ty #[.slice (some ⟨gb, i * 5, none⟩) (xs.length - i) (c - i)]).run Try.prog wr = .ok (.tuple #[]) (wr.setCells gb (i * 5) L) := by
                obtain ⟨cur, hh, hcs, hmc⟩ := R_block HR2.out
                have hsz5 : k49.sz = 5 := rfl
                rw [hsz5] at hcs
                exact run_clear_rows wr 24 49 _ Try.underlying24 zeroR (by decide) (by decide) gb (i * 5) (xs.length - i) (c - i) (by omega)
                  (fun j hj => by rw [cell_of_row wr gb _ cur 49 (0, 0) hh]; replace hj : j < (xs.length - i) * 5 := hj; simp; omega) (fun j _ => blk_frozen hh _)
              have HN := Aside0.mk (R_beyond HT.out (i * 5) L (by rw [List.length_take]; exact Nat.mul_le_mul_right _ (Nat.min_le_left _ _)) (by rw [hLl]; show _ ≤ c * 5; omega))
              clear hLl hne
              generalize wr.setCells gb (i * 5) L = w9 at hLr HN
              go_wp2
              go_ret
              refine ⟨_, rfl, ?_, HB2.out.grown HN.out.2 (Nat.le_trans hbase hsz) (fun k hk => by injection hk with hk; subst hk; exact hbg)⟩
              rw [← HKF.out]
              exact HN.out.1
      · have hk8 : ¬ ((k + 1 : Nat) : Int) < (xs.length : Int) := by omega
        have HE : Aside0 (dedR xs = xs) := ⟨by have := HD.out; rwa [List.take_of_length_le (by omega)] at this⟩
        go_wp2
        go_ret
        exact ⟨_, rfl, by rw [HE.out]; exact Kd.R_drewN HR1.out n, pw_below_drewN HB1.out n⟩
end Go.Proofs.Ytogndjjoeahccaa.Q
