/- The words of a text: both sides cut it at its spaces; the words of a record's text. Conditions: those before each theorem. -/
import Derived.Test.YtogndjjoeahccaaDoorReadOk
import Derived.Test.YtogndjjoeahccaaDoorQ1
namespace Go.Proofs.YtogndjjoeahccaaDoor.Q
open Go.RowKit Go.Proofs.YtogndjjoeahccaaDoorW.PrintWords
set_option linter.unusedVariables false
def spl (cur : List UInt8) : List UInt8 → List (List UInt8)
  | [] => [cur]
  | c :: r => if c = 32 then cur :: spl [] r else spl (cur ++ [c]) r
theorem spl_free (r : List UInt8) : ∀ (a cur : List UInt8), (∀ c ∈ a, c ≠ 32) → spl cur (a ++ r) = spl (cur ++ a) r
  | [], cur, _ => by simp
  | c :: a, cur, h => by
    rw [List.cons_append, spl, if_neg (h c (by simp)), spl_free r a _ (fun x hx => h x (by simp [hx]))]
    simp
theorem spl_hit (a r : List UInt8) (h : ∀ c ∈ a, c ≠ 32) : spl [] (a ++ 32 :: r) = a :: spl [] r := by
  rw [spl_free _ a [] h, spl, if_pos rfl, List.nil_append]
theorem spl_end (a : List UInt8) (h : ∀ c ∈ a, c ≠ 32) : spl [] a = [a] := by
  have := spl_free [] a [] h
  rw [List.append_nil, List.nil_append] at this
  rw [this, spl]
theorem spl_len (r : List UInt8) : ∀ (cur w : List UInt8), w ∈ spl cur r → w.length ≤ cur.length + r.length := by
  induction r with
  | nil => intro cur w hw; rw [spl, List.mem_singleton] at hw; subst hw; simp
  | cons c r ih =>
    intro cur w hw
    rw [spl] at hw
    split at hw
    · rcases List.mem_cons.1 hw with rfl | hw
      · omega
      · have := ih [] w hw; simp only [List.length_nil, List.length_cons] at this ⊢; omega
    · have := ih _ w hw; rw [List.length_append] at this; simp only [List.length_nil, List.length_cons] at this ⊢; omega
theorem spl_ne (r : List UInt8) : ∀ cur, spl cur r ≠ [] := by
  induction r with
  | nil => intro cur; simp [spl]
  | cons c r ih => intro cur; rw [spl]; split <;> simp [ih]
theorem spl_count (r : List UInt8) : ∀ cur, (spl cur r).length ≤ r.length + 1 := by
  induction r with
  | nil => intro cur; simp [spl]
  | cons c r ih =>
    intro cur
    rw [spl]
    split
    · have := ih []; simp only [List.length_cons] at this ⊢; omega
    · have := ih (cur ++ [c]); simp only [List.length_cons] at this ⊢; omega
def ofL (l : List UInt8) : ByteArray := ⟨l.toArray⟩
def wordsOf (s : ByteArray) : List ByteArray := (spl [] s.data.toList).map ofL
theorem extract_data (s : ByteArray) (a b : Nat) : (s.extract a b).data.toList = (s.data.toList.take b).drop a := by
  rw [ByteArray.data_extract, Array.toList_extract, List.extract_eq_take_drop, List.drop_take]
theorem swords_loop (s : ByteArray) (hs : s.size ≤ 1048576) : ∀ (r : List UInt8) (i st : Nat) (acc : List ByteArray), s.data.toList.drop i = r → i + r.length = s.size → st ≤ i → acc.length ≤ i →
    Ev (fun k => spec_l17Words.l0 k s acc (st : Int) (i : Int)) (acc ++ (spl ((s.data.toList.take i).drop st) r).map ofL)
  | [], i, st, acc, hr, hi, hst, ha => by
    simp only [List.length_nil] at hi
    have e1 : wrap64 ((i : Int) + 1) = ((i + 1 : Nat) : Int) := by unfold wrap64; omega
    have e2 : s.extract (st : Int).toNat (i : Int).toNat = ofL ((s.data.toList.take i).drop st) := by
      rw [Int.toNat_natCast, Int.toNat_natCast]
      exact ba_mk _ _ (extract_data s st i)
    rw [spl]
    refine Ev.step (f := fun k => spec_l17Words.l0 k s (acc ++ [ofL ((s.data.toList.take i).drop st)]) ((i + 1 : Nat) : Int) ((i + 1 : Nat) : Int)) (fun k => ?_) (Ev.step (f := fun _ => some (acc ++ [ofL ((s.data.toList.take i).drop st)])) (fun k => ?_) (Ev.now _))
    · rw [spec_l17Words.l0, if_pos (by omega), if_pos (by omega), if_pos (by omega), if_pos (by omega), if_pos (by omega), e1, e2]
    · rw [spec_l17Words.l0, if_neg (by omega)]
  | c :: r, i, st, acc, hr, hi, hst, ha => by
    simp only [List.length_cons] at hi
    have e1 : wrap64 ((i : Int) + 1) = ((i + 1 : Nat) : Int) := by unfold wrap64; omega
    have hc : s.data.toList[i]? = some c := by have := congrArg List.head? hr; simpa [List.head?_drop] using this
    have hb : bt s (i : Int) = (c.toNat : Int) := bt_at s i c hc
    have hr' : s.data.toList.drop (i + 1) = r := by rw [← List.drop_drop, hr]; rfl
    have hlt : i < s.data.toList.length := (List.getElem?_eq_some_iff.1 hc).1
    have hg : s.data.toList[i] = c := (List.getElem?_eq_some_iff.1 hc).2
    rw [spl]
    by_cases c32 : c = 32
    · have e2 : s.extract (st : Int).toNat (i : Int).toNat = ofL ((s.data.toList.take i).drop st) := by
        rw [Int.toNat_natCast, Int.toNat_natCast]
        exact ba_mk _ _ (extract_data s st i)
      have ih := swords_loop s hs r (i + 1) (i + 1) (acc ++ [ofL ((s.data.toList.take i).drop st)]) hr' (by omega) (Nat.le_refl _) (by rw [List.length_append]; simp only [List.length_cons, List.length_nil]; omega)
      rw [show (s.data.toList.take (i + 1)).drop (i + 1) = [] from List.drop_eq_nil_of_le (by rw [List.length_take]; omega)] at ih
      rw [if_pos c32, List.map_cons, List.append_cons]
      refine Ev.step (fun k => ?_) ih
      rw [spec_l17Words.l0, if_pos (by omega), if_neg (by omega), if_pos (by omega), if_pos (by omega), hb, if_pos (by rw [c32]; rfl), if_pos (by omega), if_pos (by omega), if_pos (by omega), e1, e2]
    · have ih := swords_loop s hs r (i + 1) st acc hr' (by omega) (by omega) (by omega)
      rw [List.take_succ_eq_append_getElem hlt, hg, List.drop_append_of_le_length (by rw [List.length_take]; omega)] at ih
      rw [if_neg c32]
      refine Ev.step (fun k => ?_) ih
      have hn : ¬ ((c.toNat : Nat) : Int) = 32 := fun h => c32 (UInt8.toNat_inj.1 (by rw [show (32 : UInt8).toNat = 32 from rfl]; omega))
      rw [spec_l17Words.l0, if_pos (by omega), if_neg (by omega), if_pos (by omega), if_pos (by omega), hb, if_neg hn, e1]
theorem swords_ev (s : ByteArray) (hs : s.size ≤ 1048576) : Ev (fun k => spec_l17Words.f k s) (wordsOf s) := by
  have := swords_loop s hs s.data.toList 0 0 [] rfl (by simp) (Nat.le_refl _) (Nat.le_refl _)
  rw [List.nil_append] at this
  exact this
theorem splitK_spl (n : Nat) : ∀ l : List UInt8, l.length = n → Lib.splitK [32] 0 (Lib.count l [32]) l = spl [] l := by
  induction n using Nat.strongRecOn with
  | ind n ih =>
    intro l hl
    have hge := Lib.indexByte_ge l 32
    by_cases h : Lib.indexByte l 32 = -1
    · have h1 : Lib.index l [32] = -1 := by rw [Lib.index_one, h]
      rw [Lib.count_miss h1, Lib.splitK, spl_end l (fun c hc e => by
        obtain ⟨k, hk⟩ := List.getElem?_of_mem hc
        rw [e] at hk
        exact Lib.indexByte_none h k hk)]
    · obtain ⟨i, hi⟩ := Int.eq_ofNat_of_zero_le (show 0 ≤ Lib.indexByte l 32 by omega)
      obtain ⟨h1, h2⟩ := Lib.indexByte_some hi
      have hx : Lib.index l [32] = (i : Int) := by rw [Lib.index_one, hi]
      have hlt : i < l.length := (List.getElem?_eq_some_iff.1 h1).1
      have hg : l[i] = 32 := (List.getElem?_eq_some_iff.1 h1).2
      have hsp : l = l.take i ++ 32 :: l.drop (i + 1) := by
        rw [← hg, List.getElem_cons_drop, List.take_append_drop]
      rw [Lib.count_hit (by simp) hx, Nat.add_comm 1, Lib.splitK, if_neg (by rw [hx]; simp), hx, Int.toNat_natCast]
      have hrec := ih (l.drop (i + 1)).length (by rw [List.length_drop]; omega) (l.drop (i + 1)) rfl
      simp only [List.length_cons, List.length_nil, Nat.zero_add, Nat.add_zero] at hrec ⊢
      rw [hrec]
      conv => rhs; rw [hsp]
      rw [spl_hit _ _ (fun c hc e => by
        obtain ⟨k, hk⟩ := List.getElem?_of_mem hc
        have hkl := (List.getElem?_eq_some_iff.1 hk).1
        rw [List.length_take] at hkl
        rw [List.getElem?_take, if_pos (by omega), e] at hk
        exact h2 k (by omega) hk)]
theorem splitS_words (s : ByteArray) : splitS s = wordsOf s := by
  have h := Lib.splitB_data spcB 0 (Lib.countB s spcB) s
  have h2 : Lib.splitK spcB.data.toList 0 (Lib.countB s spcB) s.data.toList = spl [] s.data.toList := splitK_spl _ _ rfl
  rw [h2] at h
  unfold wordsOf
  rw [← h, List.map_map]
  have : (ofL ∘ fun x : ByteArray => x.data.toList) = id := by funext x; exact (ba_mk x _ rfl).symm
  rw [this, List.map_id]
  rfl
theorem words_size (s w : ByteArray) (h : w ∈ wordsOf s) : w.size ≤ s.size := by
  obtain ⟨l, hl, rfl⟩ := List.mem_map.1 h
  have := spl_len _ _ _ hl
  have e : (ofL l).size = l.length := List.size_toArray
  have e2 : s.data.toList.length = s.size := rfl
  rw [e]
  simp only [List.length_nil] at this
  omega
theorem words_at (s : ByteArray) (i : Int) (x : List ByteArray) (hx : ∀ y ∈ x, y.size ≤ s.size) : (rdOf ByteArray.empty (wordsOf s ++ x) i).size ≤ s.size := by
  unfold rdOf
  cases h : (wordsOf s ++ x)[i.toNat]? with
  | none => rw [List.getD_eq_getElem?_getD, h]; exact Nat.zero_le _
  | some w =>
    rw [List.getD_eq_getElem?_getD, h]
    rcases List.mem_append.1 (List.mem_of_getElem? h) with h | h
    · exact words_size s w h
    · exact hx w h
theorem free_word (k : Int) : ∀ c ∈ (rdOf ByteArray.empty wordsB k).data.toList, c ≠ 32 := by
  have h : ∀ w ∈ ByteArray.empty :: wordsB, ∀ c ∈ w.data.toList, c ≠ 32 := by decide
  refine h _ ?_
  unfold rdOf
  rw [List.getD_eq_getElem?_getD]
  cases e : wordsB[k.toNat]? with
  | none => exact List.mem_cons_self
  | some w => exact List.mem_cons_of_mem _ (List.mem_of_getElem? e)
theorem free_dec (n : Nat) : ∀ c ∈ (decB (n : Int)).data.toList, c ≠ 32 := by
  rw [decB_data]
  intro c hc e
  have := (digits_are n).1 c hc
  rw [e] at this
  exact absurd this.1 (by decide)
theorem free_hexL (x : ByteArray) (d : Nat) : ∀ (i : Nat) (acc : List Int), (∀ n ∈ acc, 48 ≤ n ∧ n < 256) → ∀ n ∈ hexL x d i acc, 48 ≤ n ∧ n < 256 := by
  have hd : ∀ m : Fin 16, 48 ≤ bt digB (m.val : Int) ∧ bt digB (m.val : Int) < 256 := by decide
  induction d with
  | zero => intro i acc h; exact h
  | succ d ih =>
    intro i acc h
    rw [hexL]
    refine ih _ _ (fun n hn => ?_)
    obtain ⟨r0, r1⟩ := bt_range x (i : Int)
    rcases List.mem_append.1 hn with hn | hn
    · exact h n hn
    · have a1 := hd ⟨(bt x (i : Int) / 16).toNat, by omega⟩
      have a2 := hd ⟨(bt x (i : Int) % 16).toNat, by omega⟩
      simp only at a1 a2
      rw [show (((bt x (i : Int) / 16).toNat : Nat) : Int) = bt x (i : Int) / 16 from by omega] at a1
      rw [show (((bt x (i : Int) % 16).toNat : Nat) : Int) = bt x (i : Int) % 16 from by omega] at a2
      simp only [List.mem_cons, List.not_mem_nil, or_false] at hn
      rcases hn with rfl | rfl
      · exact a1
      · exact a2
theorem free_hex (x : ByteArray) : ∀ c ∈ (hexB x).data.toList, c ≠ 32 := by
  unfold hexB
  split
  · intro c hc
    have : c = 45 := by simpa using hc
    rw [this]
    decide
  · intro c hc e
    rw [strOfNums_data] at hc
    obtain ⟨n, hn, rfl⟩ := List.mem_map.1 hc
    have := free_hexL x x.size 0 [] (fun n hn => by cases hn) n hn
    have h2 := congrArg UInt8.toNat e
    rw [UInt8.toNat_ofNat', show (32 : UInt8).toNat = 32 from rfl] at h2
    omega
theorem ofL_data (s : ByteArray) : ofL s.data.toList = s := (ba_mk s _ rfl).symm
theorem sp_cons (a b : ByteArray) : (a ++ spB ++ b).data.toList = a.data.toList ++ 32 :: b.data.toList := by
  rw [ba_append, ba_append, List.append_assoc]; rfl
theorem words_text (key : ByteArray) (n : Nat) (kind : Int) (v e : ByteArray) :
    wordsOf (textB key (n : Int) kind v e) = if kind = 2 then [rdOf ByteArray.empty wordsB kind, decB (n : Int), hexB key] else [rdOf ByteArray.empty wordsB kind, decB (n : Int), hexB key, hexB (otherB kind v e)] := by
  unfold textB wordsOf
  by_cases c : kind = 2
  · rw [if_pos c, if_pos c, sp_cons, sp_cons, List.append_assoc, List.cons_append, spl_hit _ _ (free_word kind), spl_hit _ _ (free_dec n), spl_end _ (free_hex key)]
    simp only [List.map_cons, List.map_nil, ofL_data]
  · rw [if_neg c, if_neg c, sp_cons, sp_cons, sp_cons, List.append_assoc, List.append_assoc, List.cons_append, List.cons_append, spl_hit _ _ (free_word kind), spl_hit _ _ (free_dec n), spl_hit _ _ (free_hex key), spl_end _ (free_hex _)]
    simp only [List.map_cons, List.map_nil, ofL_data]
end Go.Proofs.YtogndjjoeahccaaDoor.Q
