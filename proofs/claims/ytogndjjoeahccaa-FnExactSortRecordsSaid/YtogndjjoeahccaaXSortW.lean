/- Records sorted by slices.SortFunc: the order, the compare function's contract in the library's words, the row before and after. Conditions: those before each theorem. -/
import Derived.Test.YtogndjjoeahccaaXCmpG
import Derived.Test.YtogndjjoeahccaaLessOk
import Derived.Test.YtogndjjoeahccaaXDelR
import Derived.Test.YtogndjjoeahccaaXCompactR
import Derived.Test.YtogndjjoeahccaaShelf
namespace Go.Proofs.Ytogndjjoeahccaa.Q
open Go.RowKit Go.Sort Go.Proofs.YtogndjjoeahccaaW.PrintWords Go.Proofs.YtogndjjoeahccaaW.PrintMore
set_option linter.unusedVariables false
set_option linter.unusedSimpArgs false
instance : Inhabited S49 := ⟨z49⟩
def encR (x : S49) : List Value := [.string x.f0, .int .i64 x.f1, .int .i64 x.f2, .string x.f3, .string x.f4]
def cmpX (x y : S49) : Int := cmpRec x.f0 x.f1 x.f2 x.f3 x.f4 y.f0 y.f1 y.f2 y.f3 y.f4
def lessX (x y : S49) : Bool := recLess x.f0 x.f1 x.f2 x.f3 x.f4 y.f0 y.f1 y.f2 y.f3 y.f4
theorem lt_cmpX (x y : S49) : ltOf cmpX x y = lessX x y := cmpRec_neg _ _ _ _ _ _ _ _ _ _
theorem grown_of_bg {W w' : World} (h : BG W w') : ∃ q os', w' = grow (W.drewN q) os' := by
  obtain ⟨hb, hd⟩ := h
  refine ⟨w'.drawn - W.drawn, w'.heap.extract W.heap.size w'.heap.size, ?_⟩
  obtain ⟨h1, h2, h3, h4, h5⟩ := hb
  cases w' with
  | mk heap tape drawn os output =>
    simp only at h1 h2 h3 h4 h5 hd
    subst h1 h2 h3
    unfold grow World.drewN
    dsimp only
    congr 1
    · apply Array.ext_getElem?
      intro k
      rw [Array.getElem?_append]
      by_cases hk : k < W.heap.size
      · rw [if_pos hk]
        exact h5 k hk
      · rw [if_neg hk, Array.getElem?_extract]
        by_cases hk2 : k < heap.size
        · rw [if_pos (by omega), show W.heap.size + (k - W.heap.size) = k from by omega]
        · rw [if_neg (by omega), Array.getElem?_eq_none (by omega)]
    · omega
theorem cmpLaysX (blk off size : Nat) (w : World) : CmpLays Try.prog 40 #[] encR 5 cmpX blk off size w := by
  intro m os dk _ x y
  obtain ⟨K, hK⟩ := compareRecords_ev x.f0 x.f1 x.f2 x.f3 x.f4 y.f0 y.f1 y.f2 y.f3 y.f4
  exact (compareRecords_grew K x.f0 x.f1 x.f2 x.f3 x.f4 y.f0 y.f1 y.f2 y.f3 y.f4 _ _ (hK K (Nat.le_refl _))).mono fun e w' ⟨he, hb⟩ => ⟨he, grown_of_bg hb⟩
theorem less_irr (a : List UInt8) : Op.bytesLess a a = false := by
  induction a with
  | nil => rfl
  | cons x a ih => simp [Op.bytesLess, ih]
theorem less_cons (x y : UInt8) (a b : List UInt8) : Op.bytesLess (x :: a) (y :: b) = (decide (x < y) || (decide (x = y) && Op.bytesLess a b)) := by
  simp only [Op.bytesLess]
  by_cases h : x < y
  · simp [h]
  · by_cases h2 : x = y <;> simp [h, h2]
theorem less_tri (a : List UInt8) : ∀ b, Op.bytesLess a b = true ∨ a = b ∨ Op.bytesLess b a = true := by
  induction a with
  | nil =>
    intro b
    cases b with
    | nil => exact .inr (.inl rfl)
    | cons y b => exact .inl rfl
  | cons x a ih =>
    intro b
    cases b with
    | nil => exact .inr (.inr rfl)
    | cons y b =>
      rw [less_cons, less_cons]
      have e1 : (x < y) ↔ x.toNat < y.toNat := UInt8.lt_iff_toNat_lt
      have e2 : (y < x) ↔ y.toNat < x.toNat := UInt8.lt_iff_toNat_lt
      have e3 : (x = y) ↔ x.toNat = y.toNat := UInt8.toNat_inj.symm
      by_cases c1 : x < y
      · exact .inl (by simp [c1])
      · by_cases c2 : y < x
        · exact .inr (.inr (by simp [c2]))
        · have c3 : x = y := by rw [e3]; rw [e1] at c1; rw [e2] at c2; omega
          subst c3
          rcases ih b with h | h | h
          · exact .inl (by simp [h])
          · exact .inr (.inl (by rw [h]))
          · exact .inr (.inr (by simp [h]))
theorem less_trans (a : List UInt8) : ∀ b c, Op.bytesLess a b = true → Op.bytesLess b c = true → Op.bytesLess a c = true := by
  induction a with
  | nil =>
    intro b c h1 h2
    cases c with
    | nil => cases b <;> simp [Op.bytesLess] at h2
    | cons z c => rfl
  | cons x a ih =>
    intro b c h1 h2
    cases b with
    | nil => simp [Op.bytesLess] at h1
    | cons y b =>
      cases c with
      | nil => simp [Op.bytesLess] at h2
      | cons z c =>
        rw [less_cons] at h1 h2 ⊢
        have e1 : (x < y) ↔ x.toNat < y.toNat := UInt8.lt_iff_toNat_lt
        have e2 : (y < z) ↔ y.toNat < z.toNat := UInt8.lt_iff_toNat_lt
        have e3 : (x < z) ↔ x.toNat < z.toNat := UInt8.lt_iff_toNat_lt
        simp only [Bool.or_eq_true, Bool.and_eq_true, decide_eq_true_eq] at h1 h2 ⊢
        rcases h1 with h1 | ⟨rfl, h1⟩ <;> rcases h2 with h2 | ⟨rfl, h2⟩
        · left; rw [e3]; rw [e1] at h1; rw [e2] at h2; omega
        · exact .inl h1
        · exact .inl h2
        · exact .inr ⟨rfl, ih b c h1 h2⟩
theorem lessX_iff (x y : S49) : lessX x y = true ↔ Op.bytesLess x.f0.toList y.f0.toList = true ∨ (x.f0.toList = y.f0.toList ∧ (x.f1 > y.f1 ∨ (x.f1 = y.f1 ∧ (x.f2 < y.f2 ∨ (x.f2 = y.f2 ∧ (Op.bytesLess x.f3.toList y.f3.toList = true ∨ (x.f3.toList = y.f3.toList ∧ Op.bytesLess x.f4.toList y.f4.toList = true))))))) := by
  unfold lessX recLess
  by_cases h1 : x.f0.toList = y.f0.toList
  · rw [if_pos h1]
    have i1 : Op.bytesLess x.f0.toList y.f0.toList = false := by rw [h1]; exact less_irr _
    by_cases h2 : x.f1 = y.f1
    · rw [if_pos h2]
      by_cases h3 : x.f2 = y.f2
      · rw [if_pos h3]
        by_cases h4 : x.f3.toList = y.f3.toList
        · rw [if_pos h4]
          have i4 : Op.bytesLess x.f3.toList y.f3.toList = false := by rw [h4]; exact less_irr _
          simp [i1, i4, h1, h2, h3, h4, less_irr]
        · rw [if_neg h4]
          simp [i1, h1, h2, h3, h4, less_irr]
      · rw [if_neg h3]
        simp [i1, h1, h2, h3, less_irr]
    · rw [if_neg h2]
      simp [i1, h1, h2, less_irr]
  · rw [if_neg h1]
    simp [h1]
theorem lessX_tri (x y : S49) : lessX x y = true ∨ x = y ∨ lessX y x = true := by
  rw [lessX_iff, lessX_iff]
  rcases less_tri x.f0.toList y.f0.toList with h | h | h
  · exact .inl (.inl h)
  · rcases Int.lt_trichotomy y.f1 x.f1 with h2 | h2 | h2
    · exact .inl (.inr ⟨h, .inl h2⟩)
    · rcases Int.lt_trichotomy x.f2 y.f2 with h3 | h3 | h3
      · exact .inl (.inr ⟨h, .inr ⟨h2.symm, .inl h3⟩⟩)
      · rcases less_tri x.f3.toList y.f3.toList with h4 | h4 | h4
        · exact .inl (.inr ⟨h, .inr ⟨h2.symm, .inr ⟨h3, .inl h4⟩⟩⟩)
        · rcases less_tri x.f4.toList y.f4.toList with h5 | h5 | h5
          · exact .inl (.inr ⟨h, .inr ⟨h2.symm, .inr ⟨h3, .inr ⟨h4, h5⟩⟩⟩⟩)
          · right; left
            cases x; cases y
            simp only at h h2 h3 h4 h5
            rw [ba_ext h, h2, h3, ba_ext h4, ba_ext h5]
          · exact .inr (.inr (.inr ⟨h.symm, .inr ⟨h2, .inr ⟨h3.symm, .inr ⟨h4.symm, h5⟩⟩⟩⟩))
        · exact .inr (.inr (.inr ⟨h.symm, .inr ⟨h2, .inr ⟨h3.symm, .inl h4⟩⟩⟩))
      · exact .inr (.inr (.inr ⟨h.symm, .inr ⟨h2, .inl h3⟩⟩))
    · exact .inr (.inr (.inr ⟨h.symm, .inl h2⟩))
  · exact .inr (.inr (.inl h))
theorem lessX_irr (x : S49) : lessX x x = false := by
  rw [Bool.eq_false_iff]
  intro h
  rw [lessX_iff] at h
  simp [less_irr] at h
theorem lessX_trans {x y z : S49} (h1 : lessX x y = true) (h2 : lessX y z = true) : lessX x z = true := by
  rw [lessX_iff] at h1 h2 ⊢
  rcases h1 with h1 | ⟨a1, h1⟩
  · rcases h2 with h2 | ⟨a2, h2⟩
    · exact .inl (less_trans _ _ _ h1 h2)
    · exact .inl (by rw [← a2]; exact h1)
  · rcases h2 with h2 | ⟨a2, h2⟩
    · exact .inl (by rw [a1]; exact h2)
    · refine .inr ⟨a1.trans a2, ?_⟩
      rcases h1 with h1 | ⟨b1, h1⟩
      · rcases h2 with h2 | ⟨b2, h2⟩
        · exact .inl (by omega)
        · exact .inl (by omega)
      · rcases h2 with h2 | ⟨b2, h2⟩
        · exact .inl (by omega)
        · refine .inr ⟨b1.trans b2, ?_⟩
          rcases h1 with h1 | ⟨c1, h1⟩
          · rcases h2 with h2 | ⟨c2, h2⟩
            · exact .inl (by omega)
            · exact .inl (by omega)
          · rcases h2 with h2 | ⟨c2, h2⟩
            · exact .inl (by omega)
            · refine .inr ⟨c1.trans c2, ?_⟩
              rcases h1 with h1 | ⟨d1, h1⟩
              · rcases h2 with h2 | ⟨d2, h2⟩
                · exact .inl (less_trans _ _ _ h1 h2)
                · exact .inl (by rw [← d2]; exact h1)
              · rcases h2 with h2 | ⟨d2, h2⟩
                · exact .inl (by rw [d1]; exact h2)
                · exact .inr ⟨d1.trans d2, less_trans _ _ _ h1 h2⟩
theorem swoX : SWO (ltOf cmpX) where
  irrefl x := by rw [lt_cmpX]; exact lessX_irr x
  trans x y z h1 h2 := by rw [lt_cmpX] at *; exact lessX_trans h1 h2
  ntrans x y z h1 h2 := by
    rw [lt_cmpX] at *
    rw [Bool.eq_false_iff]
    intro h
    rcases lessX_tri x y with a | a | a
    · rw [a] at h1; cases h1
    · subst a; rw [h] at h2; cases h2
    · have := lessX_trans a h
      rw [this] at h2; cases h2
theorem totX (x y : S49) (h1 : ltOf cmpX x y = false) (h2 : ltOf cmpX y x = false) : x = y := by
  rw [lt_cmpX] at *
  rcases lessX_tri x y with a | a | a
  · rw [a] at h1; cases h1
  · exact a
  · rw [a] at h2; cases h2
theorem getR (xs : List S49) (i : Nat) (h : i < xs.length) : xs.toArray[i]! = xs[i] := by
  rw [getElem!_pos xs.toArray i (by simpa using h)]
  simp
theorem encR_get (x : S49) (q : Nat) (h : q < 5) : (encR x)[q]? = some ((encR x)[q]!) := by
  rw [List.getElem?_eq_getElem (show q < (encR x).length from h), getElem!_pos (encR x) q h]
  rfl
theorem holdsR {W : World} {base : Nat} {ok : Nat → Prop} {g n cap : Nat} {xs : List S49} (h : Kd.R k49 49 W base ok (.slice (some ⟨g, 0, none⟩) n cap) xs) : HoldsK encR 5 W g 0 xs.toArray := by
  intro t ht
  rw [size_flatK, List.size_toArray] at ht
  have hd : t / 5 < xs.length := by omega
  have hn := (Kd.R_reads' h).1
  obtain ⟨cj, hcl, hM, hcc, _⟩ := Kd.R_elem h z49 ((t / 5 : Nat) : Int) (by omega) (by omega)
  rw [rdR_at xs (t / 5) xs[t / 5] (List.getElem?_eq_getElem hd)] at hM
  obtain rfl := k49_openM hM
  obtain ⟨cur, hh, _, _⟩ := R_block h
  refine ⟨?_, blk_frozen hh _⟩
  have e := hcc (t % 5) _ (encR_get xs[t / 5] (t % 5) (by omega))
  rw [Int.toNat_natCast] at e
  rw [get_flatK encR 5 _ t (by simpa using ht), getR xs _ hd]
  rw [show (t / 5) * k49.sz + t % 5 = t from by show (t / 5) * 5 + t % 5 = t; omega] at e
  simpa using e
theorem R_sorted {W : World} {base : Nat} {ok : Nat → Prop} {g cap : Nat} {xs ys : List S49} (h : Kd.R k49 49 W base ok (.slice (some ⟨g, 0, none⟩) xs.length cap) xs) (hg : g < W.heap.size) (hl : ys.length = xs.length) (m : Nat) (os : Array Obj) :
    Kd.R k49 49 (sortWorldK encR 5 W g 0 m ys.toArray os) base ok (.slice (some ⟨g, 0, none⟩) ys.length cap) ys ∧ W.grownBy (sortWorldK encR 5 W g 0 m ys.toArray os) (some g) := by
  have hH := holdsR h
  have hP : HoldsK encR 5 (sortWorldK encR 5 W g 0 m ys.toArray os) g 0 ys.toArray := by
    unfold sortWorldK
    exact holds_grow id _ os g 0 _ (by rw [show (putRowK encR 5 (Sort.ahead W m) g 0 ys.toArray).heap.size = W.heap.size from by unfold putRowK; rw [size_putRow]; rfl]; exact hg) (holds_putRow id (Sort.ahead W m) g 0 (flatK encR 5 xs.toArray) (flatK encR 5 ys.toArray) (holds_ahead id W m g 0 _ hH) (by rw [size_flatK, size_flatK, List.size_toArray, List.size_toArray, hl]))
  have hh2 : ∃ cur2, (sortWorldK encR 5 W g 0 m ys.toArray os).heap[g]? = some (.cells cur2 49 (0, 0)) ∧ cur2.size = cap * 5 := by
    obtain ⟨cur, hh, hcs, _⟩ := R_block h
    refine ⟨putCells id 0 (flatK encR 5 ys.toArray) cur, ?_, by simp only [putCells, Array.size_mapIdx]; exact hcs⟩
    unfold sortWorldK putRowK
    rw [heap_grow_old _ _ (by rw [size_putRow]; exact hg)]
    simp only [putRow, mapBlock, Sort.ahead, Array.getElem?_modify, if_true, hh, Option.map_some, onCells]
  obtain ⟨cur2, hh2, hcs2⟩ := hh2
  obtain ⟨hok, inner, ho, _⟩ := h
  rcases ho.2 with ⟨hv, _⟩ | ⟨g', cap', cur, hv, hb, hh, hnc, hcm, hcs, ht⟩
  · cases hv
  injection hv with ha hx hc
  injection ha with ha
  injection ha with ha
  subst ha
  subst hc
  have hlen : ys.length * 5 ≤ cur2.size := by rw [hcs2, hl]; exact Nat.mul_le_mul_right _ hnc
  have hcur : ∀ t, t < ys.length * 5 → cur2[t]? = some ((encR ys.toArray[t / 5]!)[t % 5]!) := by
    intro t ht
    have := (hP t (by rw [size_flatK, List.size_toArray]; exact ht)).1
    rw [cell_of_row _ g _ cur2 49 (0, 0) hh2, get_flatK encR 5 _ t (by simpa using ht)] at this
    simpa using this
  have hgr : W.grownBy (sortWorldK encR 5 W g 0 m ys.toArray os) (some g) := by
    refine ⟨rfl, rfl, rfl, ?_, fun k hk hne => ?_⟩
    · unfold sortWorldK putRowK
      rw [size_grow, size_putRow]
      exact Nat.le_add_right _ _
    · have hne' : ¬ g = k := fun e => hne (by rw [e])
      unfold sortWorldK putRowK
      rw [heap_grow_old _ _ (by rw [size_putRow]; exact hk)]
      simp only [putRow, mapBlock, Sort.ahead, Array.getElem?_modify, if_neg hne']
  refine ⟨⟨fun k hk => hok k hk, cur2.toList.take (ys.length * 5), ⟨?_, .inr ⟨g, cap, cur2, rfl, hb, hh2, by omega, hcm, hcs2, rfl⟩⟩, ?_⟩, hgr⟩
  · rw [List.length_take, Array.length_toList]
    exact Nat.min_eq_left hlen
  · refine ⟨by rw [List.length_take, Array.length_toList]; exact Nat.min_eq_left hlen, fun j p hj => ?_⟩
    obtain ⟨hjl, hp⟩ := List.getElem?_eq_some_iff.1 hj
    have e : ((cur2.toList.take (ys.length * 5)).drop (j * 5)).take 5 = encR p := by
      apply List.ext_getElem?
      intro q
      by_cases hq : q < 5
      · rw [List.getElem?_take_of_lt hq, List.getElem?_drop, List.getElem?_take_of_lt (by omega), Array.getElem?_toList, hcur (j * 5 + q) (by omega), show (j * 5 + q) / 5 = j from by omega, show (j * 5 + q) % 5 = q from by omega, getR ys j hjl, hp, encR_get p q hq]
      · rw [List.getElem?_eq_none (by rw [List.length_take]; omega), List.getElem?_eq_none (by show 5 ≤ q; omega)]
    show k49.M _ _ _ p (((cur2.toList.take (ys.length * 5)).drop (j * 5)).take 5)
    rw [e]
    exact k49_mkM _ _ _ p
end Go.Proofs.Ytogndjjoeahccaa.Q
