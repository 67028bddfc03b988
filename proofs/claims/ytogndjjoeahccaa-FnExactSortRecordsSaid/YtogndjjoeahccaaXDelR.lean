/- slices.DeleteFunc over records, at any function value that answers a question on a record and leaves what was there alone. Conditions: those before each theorem. -/
import Derived.Test.YtogndjjoeahccaaXIdxR
import Derived.Lib.SliceRun
namespace Go.Proofs.Ytogndjjoeahccaa.Q
open Go.RowKit Go.Proofs.YtogndjjoeahccaaW.PrintWords Go.Proofs.YtogndjjoeahccaaW.PrintMore
set_option linter.unusedVariables false
def KeptR {α : Type} (p : α → Bool) (xs : List α) (i j : Nat) (ys : List α) : Prop := ys.length = xs.length ∧ i < j ∧ ys.take i = (xs.take j).filter (fun x => !p x) ∧ ys.drop j = xs.drop j
theorem kept_start {α : Type} (p : α → Bool) (xs : List α) (k : Nat) (hk : k < xs.length) (hp : p xs[k] = true) (ha : ∀ j y, j < k → xs[j]? = some y → p y = false) : KeptR p xs k (k + 1) xs := by
  refine ⟨rfl, by omega, ?_, rfl⟩
  rw [List.take_succ_eq_append_getElem hk, List.filter_append]
  have h1 : (xs.take k).filter (fun x => !p x) = xs.take k := by
    rw [List.filter_eq_self]
    intro x hx
    obtain ⟨j, hj, rfl⟩ := List.mem_iff_getElem.1 hx
    rw [List.length_take] at hj
    rw [ha j _ (by omega) (by rw [List.getElem?_eq_getElem (by omega), List.getElem_take])]
    rfl
  rw [h1]
  simp [hp]
theorem kept_keep {α : Type} {p : α → Bool} {xs ys : List α} {i j : Nat} (h : KeptR p xs i j ys) (hj : j < xs.length) (hp : p xs[j] = false) : KeptR p xs (i + 1) (j + 1) (ys.set i xs[j]) := by
  obtain ⟨h1, h2, h3, h4⟩ := h
  refine ⟨by rw [List.length_set, h1], by omega, ?_, ?_⟩
  · rw [List.take_succ_eq_append_getElem hj, List.filter_append, ← h3, List.take_succ_eq_append_getElem (by rw [List.length_set]; omega), List.getElem_set_self, List.take_set_of_le (by omega)]
    simp [hp]
  · rw [List.drop_set_of_lt (by omega)]
    have := congrArg (List.drop 1) h4
    simpa [List.drop_drop] using this
theorem kept_skip {α : Type} {p : α → Bool} {xs ys : List α} {i j : Nat} (h : KeptR p xs i j ys) (hj : j < xs.length) (hp : p xs[j] = true) : KeptR p xs i (j + 1) ys := by
  obtain ⟨h1, h2, h3, h4⟩ := h
  refine ⟨h1, by omega, ?_, ?_⟩
  · rw [List.take_succ_eq_append_getElem hj, List.filter_append, ← h3]
    simp [hp]
  · have := congrArg (List.drop 1) h4
    simpa [List.drop_drop] using this
theorem kept_at {α : Type} {p : α → Bool} {xs ys : List α} {i j : Nat} (h : KeptR p xs i j ys) (hj : j < xs.length) : ys[j]? = some xs[j] := by
  obtain ⟨h1, h2, h3, h4⟩ := h
  have := congrArg (fun l => l[0]?) h4
  simp only [List.getElem?_drop, Nat.add_zero] at this
  rw [this, List.getElem?_eq_getElem hj]
theorem R_beyond {α : Type} {d : Kd α} {e base g m cap : Nat} {ok : Nat → Prop} {W : World} {xs : List α} (h : d.R e W base ok (.slice (some ⟨g, 0, none⟩) m cap) xs) (o : Nat) (seg : List Value) (ho : xs.length * d.sz ≤ o) (hfit : o + seg.length ≤ cap * d.sz) :
    d.R e (W.setCells g o seg) base ok (.slice (some ⟨g, 0, none⟩) m cap) xs ∧ W.grownBy (W.setCells g o seg) (some g) := by
  obtain ⟨hok, inner, ho', hr⟩ := h
  obtain ⟨ho1, ho2⟩ := ho'
  rcases ho2 with ⟨hv, _⟩ | ⟨g', cap', cur, hv, hb, hh, hnc', hcm, hcs, ht⟩
  · cases hv
  have hv0 := hv
  injection hv with ha hmx hc
  injection ha with ha
  injection ha with hg
  subst hg; subst hc
  obtain ⟨cur', h3, h4, h5⟩ := setCells_row seg o W cur hh (by omega)
  obtain ⟨s1, s2, s3, s4⟩ := setCells_same g seg o W
  have hfar : ∀ k, k ≠ g → (W.setCells g o seg).heap[k]? = W.heap[k]? := fun k hk => setCells_far seg _ k hk
  refine ⟨⟨hok, inner, ⟨ho1, .inr ⟨g, cap, cur', hv0, hb, h3, hnc', hcm, by rw [h4, hcs], ?_⟩⟩, ?_⟩, ⟨s1, s2, s3, by rw [s4]; exact Nat.le_refl _, fun k _ hk => hfar k (fun he => hk (by rw [he]))⟩⟩
  · have hcl : cur.toList.length = cap * d.sz := by rw [Array.length_toList, hcs]
    have hq : xs.length * d.sz ≤ (cur.toList.take o).length := by rw [List.length_take, hcl]; exact Nat.le_min.2 ⟨ho, Nat.mul_le_mul_right _ hnc'⟩
    rw [h5, ← ht, List.append_assoc, List.take_append_of_le_length hq, List.take_take, Nat.min_eq_left ho]
  · exact hr.imp_ (fun _ _ hp => d.M_move (fun k hk => hfar k (fun he => hk.2 (by rw [he]; simp [Value.ownBlock]))) hp)
theorem R_block {α : Type} {d : Kd α} {e base g m cap : Nat} {ok : Nat → Prop} {W : World} {xs : List α} (h : d.R e W base ok (.slice (some ⟨g, 0, none⟩) m cap) xs) : ∃ cur, W.heap[g]? = some (.cells cur e (0, 0)) ∧ cur.size = cap * d.sz ∧ m ≤ cap := by
  obtain ⟨_, inner, ho', _⟩ := h
  rcases ho'.2 with ⟨hv, _⟩ | ⟨g', cap', cur, hv, hb, hh, hnc', hcm, hcs, ht⟩
  · cases hv
  injection hv with ha hm hc
  injection ha with ha
  injection ha with hg
  subst hg; subst hc; subst hm
  exact ⟨cur, hh, hcs, hnc'⟩
theorem run_clear_rows {P : Program} (w : World) (t e : TypeId) (z : Value) (ht : P.underlying t = some (.slice e)) (hv : ∀ w, (zeroValue e).run P w = .ok z w) (h1 : ∀ v ∈ z.cells.toList, v.oneCell' = true) (hp : 0 < z.cells.size) (b o n c : Nat) (hn : 0 < n)
    (hc : ∀ j, j < n * z.cells.size → (w.cell? ⟨b, o + j, none⟩).isSome = true) (hf : ∀ j, j < n * z.cells.size → w.frozen? ⟨b, o + j, none⟩ = false) :
    ∃ L : List Value, L.length = n * z.cells.size ∧ ∀ ty, (Builtin.clear_ #[t] ty #[.slice (some ⟨b, o, none⟩) n c]).run P w = .ok (.tuple #[]) (w.setCells b o L) := by
  have hl : (Builtin.zeroCells z.cells n).toList.length = n * z.cells.size := by simp [Builtin.zeroCells]
  have hst := run_storeCells_cells (P := P) b o (Builtin.zeroCells z.cells n).toList 0 w (by rw [hl]; simpa using hc) (by rw [hl]; simpa using hf) (by
    intro v hv'
    simp only [Builtin.zeroCells, Array.toList_map, List.mem_map] at hv'
    obtain ⟨i, _, rfl⟩ := hv'
    have hi : i % z.cells.size < z.cells.size := Nat.mod_lt _ hp
    rw [getElem!_pos z.cells _ hi]
    exact h1 _ (Array.getElem_mem_toList hi))
  simp only [Nat.add_zero] at hst
  refine ⟨_, hl, fun ty => ?_⟩
  obtain ⟨m, rfl⟩ : ∃ m, n = m + 1 := ⟨n - 1, by omega⟩
  simp [Builtin.clear_, run_underlying ht, hv, hst]
theorem sizeR : (Try.prog.info? 49).map (·.size) = some 5 := by kernel_rfl
theorem zeroR (w : World) : (zeroValue 49).run Try.prog w = .ok (.agg #[.string ⟨#[]⟩, .int .i64 0, .int .i64 0, .string ⟨#[]⟩, .string ⟨#[]⟩]) w := by kernel_rfl
theorem idx_filter {α : Type} (p : α → Bool) (xs : List α) (h : idxOf p xs = -1) : xs.filter (fun x => !p x) = xs := by
  rw [List.filter_eq_self]
  intro x hx
  have h1 : xs.any p = false := by rw [← idxOf_any, h]; rfl
  have h2 := List.any_eq_false.1 h1 x hx
  simpa using h2
theorem idx_at {α : Type} (p : α → Bool) : ∀ (xs : List α) (k : Nat), idxOf p xs = (k : Int) → ∃ h : k < xs.length, p xs[k] = true ∧ ∀ j y, j < k → xs[j]? = some y → p y = false
  | [], k, h => by simp [idxOf] at h
  | x :: xs, k, h => by
    unfold idxOf at h
    by_cases hx : p x = true
    · rw [if_pos hx] at h
      obtain rfl : k = 0 := by omega
      exact ⟨by simp, hx, fun j y hj => absurd hj (Nat.not_lt_zero _)⟩
    · rw [if_neg hx] at h
      by_cases h2 : idxOf p xs < 0
      · rw [if_pos h2] at h; omega
      · rw [if_neg h2] at h
        obtain ⟨m, rfl⟩ : ∃ m, k = m + 1 := ⟨k - 1, by omega⟩
        obtain ⟨h3, h4, h5⟩ := idx_at p xs m (by omega)
        refine ⟨by simp; omega, by simpa using h4, fun j y hj hy => ?_⟩
        cases j with
        | zero => simp at hy; subst hy; simpa using hx
        | succ j => exact h5 j y (by omega) (by simpa using hy)
set_option maxHeartbeats 4000000 in
set_option maxRecDepth 100000 in
theorem delR_calls (A : Option Addr) (c : Nat) (xs : List S49) (w0 w : World) (base : Nat) (ok : Nat → Prop) (HR : Kd.R k49 49 w base ok (.slice A xs.length c) xs) (HB : Below base w0 w) (hbase : base ≤ w.heap.size) (g : FuncId) (lb : Array Value) (p : S49 → Bool)
    (eg : ∀ args w, (callFunc g args).run Try.prog w = .ok (.enter g args) w)
    (hp : ∀ (W : World) (x : S49), x ∈ xs → w.heap.size ≤ W.heap.size → (∀ k, k < w.heap.size → some k ≠ (Value.slice A xs.length c).ownBlock → W.heap[k]? = w.heap[k]?) → Calls Try.prog g (#[.agg #[.string x.f0, .int .i64 x.f1, .int .i64 x.f2, .string x.f3, .string x.f4]] ++ lb) W fun e w' => e = .returned (.bool (p x)) ∧ Below W.heap.size W w') :
    Calls Try.prog 35 #[.slice A xs.length c, .func (.func g) #[] lb] w fun e w' => ∃ v, e = .returned v ∧ Kd.R k49 49 w' base ok v (xs.filter fun x => !p x) ∧ Below base w0 w' := by
  obtain ⟨hnn, hcap, hC⟩ := Kd.R_reads' HR
  have hbig := hC.2.1
  have hidx := idxR_calls A c xs w hC hcap g lb p eg (fun W x hx hb => (hp W x hx hb.size (fun k hk _ => hb.block k hk)).mono fun e w' ⟨he, hb'⟩ => ⟨he, hb.trans (hb'.mono hb.size)⟩)
  by_cases hi : idxOf p xs = -1
  · rw [hi] at hidx
    rw [idx_filter p xs hi]
    have HR1 := Aside0.mk HR
    have HB1 := Aside0.mk HB
    clear hp HR HB hi hC
    go_enter Try.func35, Try.ntmps35
    go_wp2_with (go_at_call 55; refine hidx.mono ?_; rintro e w1 ⟨rfl, hb1⟩)
    go_ret
    exact ⟨_, rfl, Kd.R_below HR1.out hb1, HB1.out.trans (hb1.mono hbase)⟩
  · obtain ⟨k0, hk0⟩ : ∃ k0 : Nat, idxOf p xs = (k0 : Int) := ⟨(idxOf p xs).toNat, by have := (idxOf_range p xs).1; omega⟩
    obtain ⟨hk, hpk, hall⟩ := idx_at p xs k0 hk0
    obtain ⟨gb, rfl⟩ : ∃ gb, A = some ⟨gb, 0, none⟩ := by
      obtain ⟨gb, cb, hv, _⟩ := Kd.R_form HR (by omega)
      injection hv with ha
      exact ⟨gb, ha⟩
    rw [hk0] at hidx
    have hbg : base ≤ gb := Kd.R_base HR gb (by simp [Value.ownBlock])
    have HP : Aside0 (∀ (W : World) (x : S49), x ∈ xs → w.heap.size ≤ W.heap.size → (∀ k, k < w.heap.size → k ≠ gb → W.heap[k]? = w.heap[k]?) → Calls Try.prog g (#[.agg #[.string x.f0, .int .i64 x.f1, .int .i64 x.f2, .string x.f3, .string x.f4]] ++ lb) W fun e w' => e = .returned (.bool (p x)) ∧ Below W.heap.size W w') := ⟨fun W x hx hs hh => hp W x hx hs (fun k hk hne => hh k hk (fun e => hne (by rw [e]; rfl)))⟩
    have HS := Aside0.mk (kept_start p xs k0 hk hpk hall)
    have hne1 : ((k0 : Int) == -1) = false := beq_eq_false_iff_ne.2 (by omega)
    have HR1 := Aside0.mk HR
    have HB1 := Aside0.mk HB
    clear hp HR HB hi hC hk0 hall hpk
    go_enter Try.func35, Try.ntmps35
    go_wp2_with (go_at_call 55; refine hidx.mono ?_; rintro e w1 ⟨rfl, hb1⟩)
    clear hidx
    go_loopg [5, 6, 7] xs.length (fun gg s5 s6 _ wr => ∃ (i j : Nat) (ys : List S49), s5 = .int .i64 i ∧ s6 = .int .i64 j ∧ j ≤ xs.length ∧ xs.length - j ≤ gg ∧ w.heap.size ≤ wr.heap.size ∧ Aside0 (Kd.R k49 49 wr base ok (.slice (some ⟨gb, 0, none⟩) xs.length c) ys) ∧ Aside0 (Below base w0 wr) ∧ Aside0 (∀ k, k < w.heap.size → k ≠ gb → wr.heap[k]? = w.heap[k]?) ∧ Aside0 (KeptR p xs i j ys))
    case atStart => exact ⟨k0, k0 + 1, xs, rfl, by go_num, by omega, by omega, hb1.size, ⟨Kd.R_below HR1.out hb1⟩, ⟨HB1.out.trans (hb1.mono hbase)⟩, ⟨fun k hk _ => hb1.block k hk⟩, HS⟩
    case round =>
      obtain ⟨i, j, ys, rfl, rfl, hj, hg, hsz, HR2, HB2, HH2, HK⟩ := hrel
      by_cases hlt : j < xs.length
      · have hltz : (j : Int) < (xs.length : Int) := by omega
        have hij := HK.out.2.1
        have hyl := Aside0.mk HK.out.1
        have hyj : rd_T49 ys (j : Int) = xs[j] := by simp [rd_T49, kept_at HK.out hlt]
        obtain ⟨cj, hclj, hMj, hccj, _⟩ := Kd.R_elem HR2.out z49 (j : Int) (by omega) (by omega)
        rw [show ys.getD (j : Int).toNat z49 = xs[j] from hyj] at hMj
        have HX := Aside0.mk (List.getElem_mem hlt)
        have HQ := Aside0.mk (kept_keep HK.out hlt)
        have HQ2 := Aside0.mk (kept_skip HK.out hlt)
        have HCL := Aside0.mk (fun W => HP.out W xs[j] (List.getElem_mem hlt))
        clear hyj hne1
        generalize xs[j] = x at hMj HX HQ HQ2 HCL
        obtain rfl := k49_openM hMj
        have e0 : wr.cell? ⟨gb, j * 5, none⟩ = some (.string x.f0) := hccj 0 _ rfl
        have e1 : wr.cell? ⟨gb, j * 5 + 1, none⟩ = some (.int .i64 x.f1) := hccj 1 _ rfl
        have e2 : wr.cell? ⟨gb, j * 5 + 2, none⟩ = some (.int .i64 x.f2) := hccj 2 _ rfl
        have e3 : wr.cell? ⟨gb, j * 5 + 3, none⟩ = some (.string x.f3) := hccj 3 _ rfl
        have e4 : wr.cell? ⟨gb, j * 5 + 4, none⟩ = some (.string x.f4) := hccj 4 _ rfl
        clear hclj hccj hMj
        have HB5 : Aside0 (Below wr.heap.size wr (wr.alloc (.cells #[.string x.f0, .int .i64 x.f1, .int .i64 x.f2, .string x.f3, .string x.f4] 49))) := ⟨(Below.refl _ wr).alloc (Nat.le_refl _) _⟩
        have HBK : Aside0 ((wr.alloc (.cells #[.string x.f0, .int .i64 x.f1, .int .i64 x.f2, .string x.f3, .string x.f4] 49)).heap[wr.heap.size]? = some (.cells #[.string x.f0, .int .i64 x.f1, .int .i64 x.f2, .string x.f3, .string x.f4] 49 (0, 0))) := ⟨blk_new wr _⟩
        have hcall := HCL.out (wr.alloc (.cells #[.string x.f0, .int .i64 x.f1, .int .i64 x.f2, .string x.f3, .string x.f4] 49)) (Nat.le_trans hsz HB5.out.size) (fun k hk hne => (HB5.out.block k (by omega)).trans (HH2.out k hk hne))
        have HOK := Aside0.mk (fun W2 (hb : Below (wr.alloc (.cells #[.string x.f0, .int .i64 x.f1, .int .i64 x.f2, .string x.f3, .string x.f4] 49)).heap.size (wr.alloc (.cells #[.string x.f0, .int .i64 x.f1, .int .i64 x.f2, .string x.f3, .string x.f4] 49)) W2) => (⟨Kd.R_below HR2.out (HB5.out.trans (hb.mono HB5.out.size)), HB2.out.trans ((HB5.out.trans (hb.mono HB5.out.size)).mono (Nat.le_trans hbase hsz)), HB5.out.trans (hb.mono HB5.out.size)⟩ : Kd.R k49 49 W2 base ok (.slice (some ⟨gb, 0, none⟩) xs.length c) ys ∧ Below base w0 W2 ∧ Below wr.heap.size wr W2))
        cases hq : p x with
        | false =>
          rw [hq] at hcall
          have HQ' := Aside0.mk (HQ.out hq)
          clear hq
          go_wp2_with (first | (go_at_fn g; refine hcall.mono ?_; rintro e w2 ⟨rfl, hb2⟩; have hblk := (hb2.block _ (blk_lt HBK.out)).trans HBK.out; have q0 : w2.cell? ⟨wr.heap.size, 0, none⟩ = some (.string x.f0) := (blk_cell hblk 0).trans rfl; have q1 : w2.cell? ⟨wr.heap.size, 1, none⟩ = some (.int .i64 x.f1) := (blk_cell hblk 1).trans rfl; have q2 : w2.cell? ⟨wr.heap.size, 2, none⟩ = some (.int .i64 x.f2) := (blk_cell hblk 2).trans rfl; have q3 : w2.cell? ⟨wr.heap.size, 3, none⟩ = some (.string x.f3) := (blk_cell hblk 3).trans rfl; have q4 : w2.cell? ⟨wr.heap.size, 4, none⟩ = some (.string x.f4) := (blk_cell hblk 4).trans rfl; have HO3 := Aside0.mk (HOK.out w2 hb2); clear hblk hb2) | ((with_reducible refine gate_ (.store 49 (.tmp 33) (.tmp 32)) rfl ?_); (obtain ⟨ci, hcli, hMi, hcci, _⟩ := Kd.R_elem HO3.out.1 z49 (i : Int) (by omega) (by omega); refine Kd.R_store k49 (w0 := w0) base rfl rfl 49 (.tmp 33) (.tmp 32) rfl 49 (i : Int) 0 ys x (.agg #[.string x.f0, .int .i64 x.f1, .int .i64 x.f2, .string x.f3, .string x.f4]) [.string x.f0, .int .i64 x.f1, .int .i64 x.f2, .string x.f3, .string x.f4] ci ok (fun k => ok k ∧ k ≠ gb) rfl rfl rfl rfl sizeR (by simp [Value.oneCell']) HO3.out.1 (by omega) (by omega) hcli hcci (show 0 + 5 ≤ 5 by decide) ?hM (fun _ hk => hk) HO3.out.2.1 ?_; (case hM => obtain rfl := k49_openM hMi; exact k49_mkM _ _ _ x); intro w3 hr3 hb3 hg3; have HR3 := Aside0.mk hr3; have HB3 := Aside0.mk hb3; have HG3 := Aside0.mk hg3; clear hr3 hb3 hg3 hcli hMi hcci)))
          go_roundg (xs.length - (j + 1))
          case measure => omega
          case rel =>
            refine ⟨i + 1, j + 1, ys.set i x, by go_num, by go_num, by omega, Nat.le_refl _, Nat.le_trans hsz (Nat.le_trans HO3.out.2.2.size HG3.out.size), ⟨HR3.out⟩, ⟨HB3.out⟩, ⟨fun k hk hne => (HG3.out.block k (Nat.lt_of_lt_of_le hk (Nat.le_trans hsz HO3.out.2.2.size)) (fun e => hne (by injection e))).trans ((HO3.out.2.2.block k (by omega)).trans (HH2.out k hk hne))⟩, HQ'⟩
        | true =>
          rw [hq] at hcall
          have HQ' := Aside0.mk (HQ2.out hq)
          clear hq
          go_wp2_with (go_at_fn g; refine hcall.mono ?_; rintro e w2 ⟨rfl, hb2⟩; have hblk := (hb2.block _ (blk_lt HBK.out)).trans HBK.out; have q0 : w2.cell? ⟨wr.heap.size, 0, none⟩ = some (.string x.f0) := (blk_cell hblk 0).trans rfl; have q1 : w2.cell? ⟨wr.heap.size, 1, none⟩ = some (.int .i64 x.f1) := (blk_cell hblk 1).trans rfl; have q2 : w2.cell? ⟨wr.heap.size, 2, none⟩ = some (.int .i64 x.f2) := (blk_cell hblk 2).trans rfl; have q3 : w2.cell? ⟨wr.heap.size, 3, none⟩ = some (.string x.f3) := (blk_cell hblk 3).trans rfl; have q4 : w2.cell? ⟨wr.heap.size, 4, none⟩ = some (.string x.f4) := (blk_cell hblk 4).trans rfl; have HO3 := Aside0.mk (HOK.out w2 hb2); clear hblk hb2)
          go_roundg (xs.length - (j + 1))
          case measure => omega
          case rel =>
            exact ⟨i, j + 1, ys, rfl, by go_num, by omega, Nat.le_refl _, Nat.le_trans hsz HO3.out.2.2.size, ⟨HO3.out.1⟩, ⟨HO3.out.2.1⟩, ⟨fun k hk hne => (HO3.out.2.2.block k (by omega)).trans (HH2.out k hk hne)⟩, HQ'⟩
      · obtain rfl : j = xs.length := by omega
        have hltz : ¬ (xs.length : Int) < (xs.length : Int) := by omega
        have hij := HK.out.2.1
        have hne : ¬ c = i := by omega
        have HT := Aside0.mk (Kd.R_take HR2.out (m := i) (by have := HK.out.1; omega))
        have HKF : Aside0 (ys.take i = xs.filter fun x => !p x) := ⟨by rw [HK.out.2.2.1, List.take_length]⟩
        obtain ⟨L, hLl, hLr⟩ : ∃ L : List Value, L.length = (xs.length - i) * 5 ∧ ∀ ty, (Builtin.clear_ #[24] ty #[.slice (some ⟨gb, i * 5, none⟩) (xs.length - i) (c - i)]).run Try.prog wr = .ok (.tuple #[]) (wr.setCells gb (i * 5) L) := by
          obtain ⟨cur, hh, hcs, hmc⟩ := R_block HR2.out
          have hsz5 : k49.sz = 5 := rfl
          rw [hsz5] at hcs
          exact run_clear_rows wr 24 49 _ Try.underlying24 zeroR (by decide) (by decide) gb (i * 5) (xs.length - i) (c - i) (by omega)
            (fun j hj => by rw [cell_of_row wr gb _ cur 49 (0, 0) hh]; replace hj : j < (xs.length - i) * 5 := hj; simp; omega) (fun j _ => blk_frozen hh _)
        have HN := Aside0.mk (R_beyond HT.out (i * 5) L (by rw [List.length_take]; exact Nat.mul_le_mul_right _ (Nat.min_le_left _ _)) (by rw [hLl]; show _ ≤ c * 5; omega))
        clear hLl hne1
        generalize wr.setCells gb (i * 5) L = w9 at hLr HN
        go_wp2
        go_ret
        refine ⟨_, rfl, ?_, HB2.out.grown HN.out.2 (Nat.le_trans hbase hsz) (fun k hk => by injection hk with hk; subst hk; exact hbg)⟩
        rw [← HKF.out]
        exact HN.out.1
end Go.Proofs.Ytogndjjoeahccaa.Q
