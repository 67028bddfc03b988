/- The law FnExactReadRecord, as a statement over numbers and lists. No condition. -/
import Derived.Test.YtogndjjoeahccaaDoorSayFnExactReadRecord
import Derived.Test.YtogndjjoeahccaaDoorWordsOk
namespace Go.Proofs.YtogndjjoeahccaaDoor.Pure
open Go.RowKit Go.Proofs.YtogndjjoeahccaaDoor.Q Go.Proofs.YtogndjjoeahccaaDoorW.PrintWords
set_option linter.unusedVariables false
abbrev Rec6 := ByteArray × Int × Int × ByteArray × ByteArray × Bool
def zero6 : Rec6 := ((⟨#[]⟩ : ByteArray), 0, 0, (⟨#[]⟩ : ByteArray), (⟨#[]⟩ : ByteArray), false)
def judge (s key : ByteArray) (seq kind : Int) (v e : ByteArray) : Rec6 := if okRec key seq kind v e = true ∧ textB key seq kind v e = s then (key, seq, kind, v, e, true) else zero6
theorem judge_hit {s key : ByteArray} {seq kind : Int} {v e : ByteArray} (h : okRec key seq kind v e = true) (ht : textB key seq kind v e = s) : judge s key seq kind v e = (key, seq, kind, v, e, true) := if_pos ⟨h, ht⟩
theorem judge_miss {s : ByteArray} (hno : ∀ key seq kind v e, ¬ (okRec key seq kind v e = true ∧ textB key seq kind v e = s)) (key : ByteArray) (seq kind : Int) (v e : ByteArray) : judge s key seq kind v e = zero6 := if_neg (hno key seq kind v e)
theorem toList_eq (a b : ByteArray) : a.toList = b.toList ↔ a = b := by
  constructor
  · intro h
    rw [Lib.toList_data, Lib.toList_data] at h
    exact (ba_mk a _ h).trans (ba_mk b _ rfl).symm
  · intro h; rw [h]
theorem sjudge_ev (s key : ByteArray) (seq kind : Int) (v e : ByteArray) : Ev (fun k => (spec_l17Valid.f k key seq kind v e).bind fun t180 => (if t180 = true then ((spec_l17Text.f k key seq kind v e).bind fun t181 => (if t181.toList = s.toList then (some (key, seq, kind, v, e, true)) else (some ((⟨#[]⟩ : ByteArray), 0, 0, (⟨#[]⟩ : ByteArray), (⟨#[]⟩ : ByteArray), false)))) else (some ((⟨#[]⟩ : ByteArray), 0, 0, (⟨#[]⟩ : ByteArray), (⟨#[]⟩ : ByteArray), false)))) (judge s key seq kind v e) := by
  have sv := l17Valid_ev key seq kind v e
  cases ok : okRec key seq kind v e with
  | false =>
    rw [ok] at sv
    rw [judge, if_neg (by rw [ok]; simp)]
    exact Ev.bind sv (Ev.if_neg (by decide) (Ev.now _))
  | true =>
    rw [ok] at sv
    obtain ⟨k1, s0, s1, n0, n1, v1, e1⟩ := okRec_facts ok
    have st := stext_ev key seq kind v e (by omega) (by omega) (by omega) (by omega) s1 (by omega) (by omega)
    refine Ev.bind sv (Ev.if_pos rfl (Ev.bind st ?_))
    by_cases h : textB key seq kind v e = s
    · rw [show judge s key seq kind v e = _ from if_pos ⟨ok, h⟩]
      exact Ev.if_pos ((toList_eq _ _).2 h) (Ev.now _)
    · rw [show judge s key seq kind v e = _ from if_neg (fun hh => h hh.2)]
      exact Ev.if_neg (fun hh => h ((toList_eq _ _).1 hh)) (Ev.now _)
theorem ijudge_ev (s key : ByteArray) (seq kind : Int) (v e : ByteArray) : Ev (fun k => impl_ReadRecord.j1 k s key seq kind v e) (judge s key seq kind v e) := by
  have sv := implRec_ev key seq kind v e
  refine Ev.step (fun k => by rw [impl_ReadRecord.j1]) ?_
  cases ok : okRec key seq kind v e with
  | false =>
    rw [ok] at sv
    rw [judge, if_neg (by rw [ok]; simp)]
    exact Ev.bind sv (Ev.if_neg (by decide) (Ev.now _))
  | true =>
    rw [ok] at sv
    obtain ⟨k1, s0, s1, n0, n1, v1, e1⟩ := okRec_facts ok
    have st := itext_ev key seq kind v e (by omega) (by omega) (by omega) (by omega) s1 (by omega) (by omega)
    refine Ev.bind sv (Ev.if_pos rfl (Ev.bind st ?_))
    by_cases h : textB key seq kind v e = s
    · rw [show judge s key seq kind v e = _ from if_pos ⟨ok, h⟩]
      exact Ev.if_pos ((toList_eq _ _).2 h) (Ev.now _)
    · rw [show judge s key seq kind v e = _ from if_neg (fun hh => h hh.2)]
      exact Ev.if_neg (fun hh => h ((toList_eq _ _).1 hh)) (Ev.now _)
theorem nilB (x : ByteArray) (h : (x.toList == ([] : List UInt8)) = true) : x = ⟨#[]⟩ := by
  have hx : x.toList = [] := by simpa using h
  rw [Lib.toList_data] at hx
  exact ba_mk x [] hx
theorem okRec_nil {key : ByteArray} {seq kind : Int} {v e : ByteArray} (h : okRec key seq kind v e = true) : (kind = 1 → e = ⟨#[]⟩) ∧ (kind = 2 → v = ⟨#[]⟩ ∧ e = ⟨#[]⟩) ∧ (kind = 3 → v = ⟨#[]⟩) := by
  unfold okRec at h
  refine ⟨fun c => ?_, fun c => ?_, fun c => ?_⟩
  · subst c
    rw [if_pos rfl] at h
    simp only [Bool.and_eq_true] at h
    exact nilB e h.2.2.2
  · subst c
    rw [if_neg (by decide), if_pos rfl] at h
    simp only [Bool.and_eq_true] at h
    exact ⟨nilB v h.2.2.1, nilB e h.2.2.2⟩
  · subst c
    rw [if_neg (by decide), if_neg (by decide), if_pos rfl] at h
    simp only [Bool.and_eq_true] at h
    exact nilB v h.2.2.1
def kindS (w : ByteArray) : Int := if w.toList = (rdOf ByteArray.empty wordsB 3).toList then 3 else if w.toList = (rdOf ByteArray.empty wordsB 2).toList then 2 else if w.toList = (rdOf ByteArray.empty wordsB 1).toList then 1 else 0
theorem skind_step (s : ByteArray) (y : List ByteArray) (n : Nat) (hn : n = 1 ∨ n = 2 ∨ n = 3) (hy : 0 < y.length) (key : ByteArray) (seq kind : Int) (v e : ByteArray) (out : Rec6)
    (h : Ev (fun k => spec_ReadRecord.l0 k s y ((n + 1 : Nat) : Int) key seq (if (rdOf ByteArray.empty y 0).toList = (rdOf ByteArray.empty wordsB (n : Int)).toList then (n : Int) else kind) v e) out) :
    Ev (fun k => spec_ReadRecord.l0 k s y (n : Int) key seq kind v e) out := by
  have e1 : wrap64 ((n : Int) + 1) = ((n + 1 : Nat) : Int) := by unfold wrap64; omega
  have hl : ((wordsB.length : Nat) : Int) = 4 := rfl
  refine Ev.step (fun k => ?_) h
  rw [spec_ReadRecord.l0, if_pos (by omega), if_pos (by omega), show spec_l17Names.f = some wordsB from rfl, Option.bind_some, if_pos (by omega), if_pos (by rw [hl]; omega), e1]
  split <;> rfl
theorem skind_ev (s : ByteArray) (y : List ByteArray) (hy : 0 < y.length) (key : ByteArray) (seq : Int) (v e : ByteArray) (out : Rec6)
    (h : Ev (fun k => spec_ReadRecord.l0 k s y 4 key seq (kindS (rdOf ByteArray.empty y 0)) v e) out) :
    Ev (fun k => spec_ReadRecord.l0 k s y 1 key seq 0 v e) out := by
  refine skind_step s y 1 (by omega) hy key seq 0 v e out (skind_step s y 2 (by omega) hy key seq _ v e out (skind_step s y 3 (by omega) hy key seq _ v e out ?_))
  unfold kindS at h
  exact h
theorem spec_rr (s : ByteArray) (hs : s.size ≤ 1048576) : ∃ seq : Int, (∀ n : Nat, n ≤ 1000000 → rdOf ByteArray.empty (wordsOf s ++ [⟨#[]⟩, ⟨#[]⟩, ⟨#[]⟩]) 1 = decB (n : Int) → seq = (n : Int)) ∧
    Ev (fun k => spec_ReadRecord.f k s) (judge s (hexV vfS (rdOf ByteArray.empty (wordsOf s ++ [⟨#[]⟩, ⟨#[]⟩, ⟨#[]⟩]) 2)) seq (kindS (rdOf ByteArray.empty (wordsOf s ++ [⟨#[]⟩, ⟨#[]⟩, ⟨#[]⟩]) 0))
      (if kindS (rdOf ByteArray.empty (wordsOf s ++ [⟨#[]⟩, ⟨#[]⟩, ⟨#[]⟩]) 0) = 3 then ⟨#[]⟩ else hexV vfS (rdOf ByteArray.empty (wordsOf s ++ [⟨#[]⟩, ⟨#[]⟩, ⟨#[]⟩]) 3))
      (if kindS (rdOf ByteArray.empty (wordsOf s ++ [⟨#[]⟩, ⟨#[]⟩, ⟨#[]⟩]) 0) = 3 then hexV vfS (rdOf ByteArray.empty (wordsOf s ++ [⟨#[]⟩, ⟨#[]⟩, ⟨#[]⟩]) 3) else ⟨#[]⟩)) := by
  have hw := swords_ev s hs
  have hne : ∀ y ∈ [(⟨#[]⟩ : ByteArray), ⟨#[]⟩, ⟨#[]⟩], y.size ≤ s.size := fun y hy => by
    have : y = ⟨#[]⟩ := by simpa using hy
    rw [this]; exact Nat.zero_le _
  have a1 := words_at s 1 _ hne
  have a2 := words_at s 2 _ hne
  have a3 := words_at s 3 _ hne
  have hlen : (wordsOf s).length ≤ 1048577 := by
    have := spl_count s.data.toList []
    have e : s.data.toList.length = s.size := by simp
    unfold wordsOf
    rw [List.length_map]
    omega
  have hpos : 1 ≤ (wordsOf s).length := by
    unfold wordsOf
    rw [List.length_map]
    cases s.data.toList with
    | nil => simp [spl]
    | cons c r => exact List.length_pos_iff.2 (by rw [spl]; split; simp; exact spl_ne _ _)
  have hy : (wordsOf s ++ [(⟨#[]⟩ : ByteArray), ⟨#[]⟩, ⟨#[]⟩]).length = (wordsOf s).length + 3 := by rw [List.length_append]; rfl
  obtain ⟨seq, hseq, hdec⟩ := sint_ev (rdOf ByteArray.empty (wordsOf s ++ [⟨#[]⟩, ⟨#[]⟩, ⟨#[]⟩]) 1) (by omega)
  have b2 := sbytes_ev (rdOf ByteArray.empty (wordsOf s ++ [⟨#[]⟩, ⟨#[]⟩, ⟨#[]⟩]) 2) (by omega)
  have b3 := sbytes_ev (rdOf ByteArray.empty (wordsOf s ++ [⟨#[]⟩, ⟨#[]⟩, ⟨#[]⟩]) 3) (by omega)
  refine ⟨seq, hdec, ?_⟩
  unfold spec_ReadRecord.f
  refine Ev.bind hw (Ev.bind1 rfl (Ev.if_pos (by simp only [List.length_cons, List.length_nil]; omega) (Ev.bind1 rfl ?_)))
  generalize wordsOf s ++ [(⟨#[]⟩ : ByteArray), ⟨#[]⟩, ⟨#[]⟩] = y at *
  refine Ev.if_pos (by omega) (Ev.bind hseq (Ev.if_pos (by omega) (Ev.bind b2 ?_)))
  refine skind_ev s y (by omega) _ _ _ _ _ ?_
  generalize kindS (rdOf ByteArray.empty y 0) = kind
  refine Ev.step (fun k => by rw [spec_ReadRecord.l0, if_neg (by omega), if_pos (by omega)]) ?_
  refine Ev.bind b3 ?_
  by_cases c : kind = 3
  · rw [if_pos c, if_pos c]
    refine Ev.bind1 (a := (_, _, _, _, _)) (by rw [spec_l17With.f, if_pos c]) ?_
    exact sjudge_ev s _ _ _ _ _
  · rw [if_neg c, if_neg c]
    refine Ev.bind1 (a := (_, _, _, _, _)) (by rw [spec_l17With.f, if_neg c]) ?_
    exact sjudge_ev s _ _ _ _ _
theorem index_ev (w : ByteArray) : ∃ r, Ev (fun k => slices_Index_string_string.f k wordsB w) r ∧ ∀ kind : Int, 1 ≤ kind → kind ≤ 3 → w = rdOf ByteArray.empty wordsB kind → r = kind := by
  have hl : ((wordsB.length : Nat) : Int) = 4 := rfl
  have last : Ev (fun k => slices_Index_string_string.l0 k wordsB w (wordsB.length : Int) ((4 : Nat) : Int)) (-1) := by
    refine Ev.step (f := fun _ => some (-1)) (fun k => ?_) (Ev.now _)
    rw [slices_Index_string_string.l0, hl, if_neg (by omega)]
  have step : ∀ (n : Nat) (r : Int), n < 4 → ¬ w.toList = (rdOf ByteArray.empty wordsB (n : Int)).toList → Ev (fun k => slices_Index_string_string.l0 k wordsB w (wordsB.length : Int) ((n + 1 : Nat) : Int)) r → Ev (fun k => slices_Index_string_string.l0 k wordsB w (wordsB.length : Int) (n : Int)) r := by
    intro n r hn hw h
    have e1 : wrap64 ((n : Int) + 1) = ((n + 1 : Nat) : Int) := by unfold wrap64; omega
    refine Ev.step (fun k => ?_) h
    rw [slices_Index_string_string.l0, hl, if_pos (by omega), if_pos (by omega), if_pos (by omega), if_neg hw, e1]
  have stop : ∀ (n : Nat), n < 4 → w.toList = (rdOf ByteArray.empty wordsB (n : Int)).toList → Ev (fun k => slices_Index_string_string.l0 k wordsB w (wordsB.length : Int) (n : Int)) (n : Int) := by
    intro n hn hw
    refine Ev.step (f := fun _ => some (n : Int)) (fun k => ?_) (Ev.now _)
    rw [slices_Index_string_string.l0, hl, if_pos (by omega), if_pos (by omega), if_pos (by omega), if_pos hw]
  have diff : ∀ i j : Fin 4, (rdOf ByteArray.empty wordsB (i.val : Int)).data.toList = (rdOf ByteArray.empty wordsB (j.val : Int)).data.toList → i = j := by decide
  have only : ∀ (n : Nat), n < 4 → w.toList = (rdOf ByteArray.empty wordsB (n : Int)).toList → ∀ kind : Int, 1 ≤ kind → kind ≤ 3 → w = rdOf ByteArray.empty wordsB kind → (n : Int) = kind := by
    intro n hn hw kind h1 h3 e
    have := diff ⟨n, hn⟩ ⟨kind.toNat, by omega⟩ (by
      show (rdOf ByteArray.empty wordsB (n : Int)).data.toList = (rdOf ByteArray.empty wordsB ((kind.toNat : Nat) : Int)).data.toList
      rw [show ((kind.toNat : Nat) : Int) = kind from by omega, ← e, ← Lib.toList_data, ← Lib.toList_data, hw])
    have := congrArg Fin.val this
    simp only at this
    omega
  unfold slices_Index_string_string.f
  by_cases h0 : w.toList = (rdOf ByteArray.empty wordsB ((0 : Nat) : Int)).toList
  · exact ⟨_, stop 0 (by omega) h0, only 0 (by omega) h0⟩
  · by_cases h1 : w.toList = (rdOf ByteArray.empty wordsB ((1 : Nat) : Int)).toList
    · exact ⟨_, step 0 _ (by omega) h0 (stop 1 (by omega) h1), only 1 (by omega) h1⟩
    · by_cases h2 : w.toList = (rdOf ByteArray.empty wordsB ((2 : Nat) : Int)).toList
      · exact ⟨_, step 0 _ (by omega) h0 (step 1 _ (by omega) h1 (stop 2 (by omega) h2)), only 2 (by omega) h2⟩
      · by_cases h3 : w.toList = (rdOf ByteArray.empty wordsB ((3 : Nat) : Int)).toList
        · exact ⟨_, step 0 _ (by omega) h0 (step 1 _ (by omega) h1 (step 2 _ (by omega) h2 (stop 3 (by omega) h3))), only 3 (by omega) h3⟩
        · refine ⟨_, step 0 _ (by omega) h0 (step 1 _ (by omega) h1 (step 2 _ (by omega) h2 (step 3 _ (by omega) h3 last))), fun kind k1 k3 e => ?_⟩
          exfalso
          subst e
          have : kind = 1 ∨ kind = 2 ∨ kind = 3 := by omega
          rcases this with rfl | rfl | rfl
          · exact h1 rfl
          · exact h2 rfl
          · exact h3 rfl
theorem kindS_word (kind : Int) (h1 : 1 ≤ kind) (h3 : kind ≤ 3) : kindS (rdOf ByteArray.empty wordsB kind) = kind := by
  have h : kind = 1 ∨ kind = 2 ∨ kind = 3 := by omega
  unfold kindS
  simp only [Lib.toList_data]
  rcases h with rfl | rfl | rfl <;> decide
theorem impl_rr (s : ByteArray) (hs : s.size ≤ 1048576) : ∃ out : Rec6, Ev (fun k => impl_ReadRecord.f k s) out ∧
    ((∀ key seq kind v e, ¬ (okRec key seq kind v e = true ∧ textB key seq kind v e = s)) → out = zero6) ∧
    (∀ key seq kind v e, okRec key seq kind v e = true → textB key seq kind v e = s → out = (key, seq, kind, v, e, true)) := by
  have hsp : strings_Split.f s (⟨#[32]⟩ : ByteArray) = some (wordsOf s) := by
    unfold strings_Split.f
    rw [if_pos ⟨by omega, rfl⟩, splitS_words]
  have hat : ∀ i : Int, (rdOf ByteArray.empty (wordsOf s) i).size ≤ s.size := fun i => by
    have := words_at s i [] (fun y hy => by cases hy)
    rwa [List.append_nil] at this
  have facts : ∀ key seq kind v e, okRec key seq kind v e = true → textB key seq kind v e = s → ∃ n : Nat, n ≤ 1000000 ∧ seq = (n : Int) ∧ 1 ≤ kind ∧ kind ≤ 3 ∧ wordsOf s = if kind = 2 then [rdOf ByteArray.empty wordsB kind, decB (n : Int), hexB key] else [rdOf ByteArray.empty wordsB kind, decB (n : Int), hexB key, hexB (otherB kind v e)] := by
    intro key seq kind v e ok ht
    obtain ⟨k1, s0, s1, n0, n1, v1, e1⟩ := okRec_facts ok
    obtain ⟨n, rfl⟩ := Int.eq_ofNat_of_zero_le (show 0 ≤ seq by omega)
    exact ⟨n, by omega, rfl, n0, n1, by rw [← ht]; exact words_text key n kind v e⟩
  by_cases c3 : ((wordsOf s).length : Int) < 3
  · refine ⟨zero6, by unfold impl_ReadRecord.f; exact Ev.bind1 hsp (Ev.if_pos c3 (Ev.now _)), fun _ => rfl, fun key seq kind v e ok ht => ?_⟩
    obtain ⟨n, hn, _, _, _, hw⟩ := facts key seq kind v e ok ht
    rw [hw] at c3
    split at c3 <;> simp at c3 <;> omega
  obtain ⟨w0, w1, w2, ws, hws⟩ : ∃ w0 w1 w2 ws, wordsOf s = w0 :: w1 :: w2 :: ws := by
    match h : wordsOf s, c3 with
    | w0 :: w1 :: w2 :: ws, _ => exact ⟨w0, w1, w2, ws, rfl⟩
    | [], c => exact absurd (by simp) c
    | [_], c => exact absurd (by simp) c
    | [_, _], c => exact absurd (by simp) c
  have z1 : w1.size ≤ s.size := by have := hat 1; rw [hws] at this; exact this
  have z2 : w2.size ≤ s.size := by have := hat 2; rw [hws] at this; exact this
  have hn1 : impl_readNumbers.f (((wordsOf s).take 2).drop 1) = some (match rdN w1 with | some v => ([v], true) | none => ([], false)) := by
    rw [hws]
    show impl_readNumbers.f [w1] = _
    unfold impl_readNumbers.f
    simp only
    rw [if_pos (by omega)]
    cases rdN w1 <;> rfl
  have b2 := ihx_ev w2 (by omega)
  have e2 : rdOf ByteArray.empty (wordsOf s) 2 = w2 := by rw [hws]; rfl
  rw [← e2] at b2
  have bad : ∀ num, Ev (fun k => impl_ReadRecord.j0 k s (wordsOf s) num (hexV vfI (rdOf ByteArray.empty (wordsOf s) 2)) true) zero6 := fun num =>
    Ev.step (f := fun _ => some zero6) (fun k => by rw [impl_ReadRecord.j0, if_pos rfl]; rfl) (Ev.now _)
  have run1 : ∀ (num : List Int) (out : Rec6), impl_readNumbers.f (((wordsOf s).take 2).drop 1) = some (num, true) → Ev (fun k => impl_ReadRecord.j0 k s (wordsOf s) num (hexV vfI (rdOf ByteArray.empty (wordsOf s) 2)) (!hexOk (rdOf ByteArray.empty (wordsOf s) 2))) out → Ev (fun k => impl_ReadRecord.f k s) out := fun num out hn h => by
    unfold impl_ReadRecord.f
    exact Ev.bind1 hsp (Ev.if_neg c3 (Ev.if_pos (by omega) (Ev.if_pos (by omega) (Ev.bind1 hn (Ev.if_pos (by omega) (Ev.bind b2 (Ev.if_pos rfl h)))))))
  have run0 : ∀ (num : List Int), impl_readNumbers.f (((wordsOf s).take 2).drop 1) = some (num, false) → Ev (fun k => impl_ReadRecord.f k s) zero6 := fun num hn => by
    unfold impl_ReadRecord.f
    exact Ev.bind1 hsp (Ev.if_neg c3 (Ev.if_pos (by omega) (Ev.if_pos (by omega) (Ev.bind1 hn (Ev.if_pos (by omega) (Ev.bind b2 (Ev.if_neg (by simp) (bad _))))))))
  rw [e2] at run1
  clear b2
  cases hr : rdN w1 with
  | none =>
    rw [hr] at hn1
    refine ⟨zero6, run0 _ hn1, fun _ => rfl, fun key seq kind v e ok ht => ?_⟩
    obtain ⟨n, hn, _, _, _, hw⟩ := facts key seq kind v e ok ht
    have : w1 = decB (n : Int) := by
      rw [hws] at hw
      split at hw
      · exact (List.cons.inj (List.cons.inj hw).2).1
      · exact (List.cons.inj (List.cons.inj hw).2).1
    rw [this, rdN_dec n hn] at hr
    cases hr
  | some num =>
    rw [hr] at hn1
    have fw : ∀ key seq kind v e, okRec key seq kind v e = true → textB key seq kind v e = s → w0 = rdOf ByteArray.empty wordsB kind ∧ num = seq ∧ w2 = hexB key ∧ 1 ≤ kind ∧ kind ≤ 3 ∧ ws = (if kind = 2 then [] else [hexB (otherB kind v e)]) := by
      intro key seq kind v e ok ht
      obtain ⟨n, hn, es, k1, k3, hw⟩ := facts key seq kind v e ok ht
      rw [hws] at hw
      have g : w0 = rdOf ByteArray.empty wordsB kind ∧ w1 = decB (n : Int) ∧ w2 = hexB key ∧ ws = (if kind = 2 then [] else [hexB (otherB kind v e)]) := by
        split at hw
        · rename_i c
          obtain ⟨a, hw⟩ := List.cons.inj hw
          obtain ⟨b, hw⟩ := List.cons.inj hw
          obtain ⟨c', hw⟩ := List.cons.inj hw
          exact ⟨a, b, c', by rw [if_pos c]; exact hw⟩
        · rename_i c
          obtain ⟨a, hw⟩ := List.cons.inj hw
          obtain ⟨b, hw⟩ := List.cons.inj hw
          obtain ⟨c', hw⟩ := List.cons.inj hw
          exact ⟨a, b, c', by rw [if_neg c]; exact hw⟩
      obtain ⟨g0, g1, g2, g3⟩ := g
      rw [g1, rdN_dec n hn] at hr
      exact ⟨g0, (Option.some.inj hr).symm.trans es.symm, g2, k1, k3, g3⟩
    cases hk : hexOk w2 with
    | false =>
      rw [hk] at run1
      refine ⟨zero6, run1 _ _ hn1 (by have := bad [num]; rw [e2] at this; exact this), fun _ => rfl, fun key seq kind v e ok ht => ?_⟩
      obtain ⟨_, _, g2, _⟩ := fw key seq kind v e ok ht
      rw [g2, hexOk_hex] at hk
      cases hk
    | true =>
      rw [hk] at run1
      obtain ⟨kind, hidx, hkind⟩ := index_ev w0
      have e0 : rdOf ByteArray.empty (wordsOf s) 0 = w0 := by rw [hws]; rfl
      have hj : ∀ out : Rec6, Ev (fun k => impl_ReadRecord.j0 k s (wordsOf s) [num] (hexV vfI w2) false) out → Ev (fun k => impl_ReadRecord.f k s) out := fun out h => run1 _ _ hn1 h
      cases hw3 : ws with
      | nil =>
        subst hw3
        have hle : ¬ (((wordsOf s).length : Int) > 3) := by rw [hws]; simp
        refine ⟨judge s (hexV vfI w2) num kind ⟨#[]⟩ ⟨#[]⟩, hj _ (Ev.step (fun k => by rw [impl_ReadRecord.j0, if_neg (by decide), if_pos (by simp), show impl_recordWords.f = some wordsB from rfl, Option.bind_some, if_pos (by omega), e0]) (Ev.bind hidx (Ev.if_neg hle (ijudge_ev s _ _ _ _ _)))), fun hno => judge_miss hno _ _ _ _ _, fun key seq kind' v e ok ht => ?_⟩
        obtain ⟨g0, g1, g2, k1, k3, g3⟩ := fw key seq kind' v e ok ht
        have c2 : kind' = 2 := by
          by_cases c : kind' = 2
          · exact c
          · rw [if_neg c] at g3; cases g3
        have hv := (okRec_nil ok).2.1 c2
        obtain ⟨rfl, rfl⟩ := hv
        rw [hkind kind' k1 k3 g0, g1, g2, hexV_hex vfI vfI_ok]
        exact judge_hit ok ht
      | cons w3 wr =>
        subst hw3
        have hgt : (((wordsOf s).length : Int) > 3) := by rw [hws]; simp; omega
        have e3 : rdOf ByteArray.empty (wordsOf s) 3 = w3 := by rw [hws]; rfl
        have z3 : w3.size ≤ s.size := by have := hat 3; rw [e3] at this; exact this
        have b3 := ihx_ev w3 (by omega)
        have pre : ∀ out, Ev (fun k => if kind = 3 then (impl_ReadRecord.j1 k s (hexV vfI w2) (rd [num] 0) kind (⟨#[]⟩ : ByteArray) (hexV vfI w3)) else (impl_ReadRecord.j1 k s (hexV vfI w2) (rd [num] 0) kind (hexV vfI w3) (⟨#[]⟩ : ByteArray))) out → Ev (fun k => impl_ReadRecord.j0 k s (wordsOf s) [num] (hexV vfI w2) false) out := fun out h =>
          Ev.step (fun k => by rw [impl_ReadRecord.j0, if_neg (by decide), if_pos (by simp), show impl_recordWords.f = some wordsB from rfl, Option.bind_some, if_pos (by omega), e0]) (Ev.bind hidx (Ev.if_pos hgt (Ev.if_pos hgt (Ev.bind (g := fun k => impl_readHex.f k (rdOf ByteArray.empty (wordsOf s) 3)) (a := (hexV vfI w3, hexOk w3)) (by rw [e3]; exact b3) h))))
        by_cases c : kind = 3
        · refine ⟨judge s (hexV vfI w2) num kind ⟨#[]⟩ (hexV vfI w3), hj _ (pre _ (Ev.if_pos c (ijudge_ev s _ _ _ _ _))), fun hno => judge_miss hno _ _ _ _ _, fun key seq kind' v e ok ht => ?_⟩
          obtain ⟨g0, g1, g2, k1, k3, g3⟩ := fw key seq kind' v e ok ht
          have ck := hkind kind' k1 k3 g0
          have c3' : kind' = 3 := by rw [← ck]; exact c
          rw [if_neg (by omega)] at g3
          have g4 := (List.cons.inj g3).1
          have ho : otherB kind' v e = e := by unfold otherB; rw [if_pos c3']
          have hv := (okRec_nil ok).2.2 c3'
          subst hv
          rw [ck, g1, g2, g4, ho, hexV_hex vfI vfI_ok, hexV_hex vfI vfI_ok]
          exact judge_hit ok ht
        · refine ⟨judge s (hexV vfI w2) num kind (hexV vfI w3) ⟨#[]⟩, hj _ (pre _ (Ev.if_neg c (ijudge_ev s _ _ _ _ _))), fun hno => judge_miss hno _ _ _ _ _, fun key seq kind' v e ok ht => ?_⟩
          obtain ⟨g0, g1, g2, k1, k3, g3⟩ := fw key seq kind' v e ok ht
          have ck := hkind kind' k1 k3 g0
          have c3' : ¬ kind' = 3 := by rw [← ck]; exact c
          have c1 : kind' = 1 := by
            by_cases c2 : kind' = 2
            · rw [if_pos c2] at g3; cases g3
            · omega
          rw [if_neg (by omega)] at g3
          have g4 := (List.cons.inj g3).1
          have ho : otherB kind' v e = v := by unfold otherB; rw [if_neg c3']
          have he := (okRec_nil ok).1 c1
          subst he
          rw [ck, g1, g2, g4, ho, hexV_hex vfI vfI_ok, hexV_hex vfI vfI_ok]
          exact judge_hit ok ht
theorem spec_all (s : ByteArray) (hs : s.size ≤ 1048576) : ∃ out : Rec6, Ev (fun k => spec_ReadRecord.f k s) out ∧
    ((∀ key seq kind v e, ¬ (okRec key seq kind v e = true ∧ textB key seq kind v e = s)) → out = zero6) ∧
    (∀ key seq kind v e, okRec key seq kind v e = true → textB key seq kind v e = s → out = (key, seq, kind, v, e, true)) := by
  obtain ⟨seq, hseq, hev⟩ := spec_rr s hs
  refine ⟨_, hev, fun hno => judge_miss hno _ _ _ _ _, fun key seq' kind v e ok ht => ?_⟩
  obtain ⟨k1, s0, s1, n0, n1, v1, e1⟩ := okRec_facts ok
  obtain ⟨n, rfl⟩ := Int.eq_ofNat_of_zero_le (show 0 ≤ seq' by omega)
  have hw := words_text key n kind v e
  rw [ht] at hw
  rw [hw] at hseq ⊢
  have empty : hexV vfS ⟨#[]⟩ = ⟨#[]⟩ := by
    unfold hexV
    rw [if_neg (by rw [Lib.toList_data]; decide)]
    rfl
  have h2 := okRec_nil ok
  have hc : kind = 1 ∨ kind = 2 ∨ kind = 3 := by omega
  have kw := kindS_word kind n0 n1
  rcases hc with rfl | rfl | rfl
  · obtain rfl := h2.1 rfl
    rw [if_neg (by decide)] at hseq ⊢
    have := hseq n (by omega) rfl
    subst this
    rw [show otherB 1 v ⟨#[]⟩ = v from rfl] at *
    show judge s (hexV vfS (hexB key)) _ (kindS (rdOf ByteArray.empty wordsB 1)) (if kindS (rdOf ByteArray.empty wordsB 1) = 3 then _ else hexV vfS (hexB v)) (if kindS (rdOf ByteArray.empty wordsB 1) = 3 then hexV vfS (hexB v) else _) = _
    rw [kw, if_neg (by decide), if_neg (by decide), hexV_hex vfS vfS_ok, hexV_hex vfS vfS_ok]
    exact judge_hit ok ht
  · obtain ⟨rfl, rfl⟩ := h2.2.1 rfl
    rw [if_pos rfl] at hseq ⊢
    have := hseq n (by omega) rfl
    subst this
    show judge s (hexV vfS (hexB key)) _ (kindS (rdOf ByteArray.empty wordsB 2)) (if kindS (rdOf ByteArray.empty wordsB 2) = 3 then _ else hexV vfS ⟨#[]⟩) (if kindS (rdOf ByteArray.empty wordsB 2) = 3 then hexV vfS ⟨#[]⟩ else _) = _
    rw [kw, if_neg (by decide), if_neg (by decide), hexV_hex vfS vfS_ok, empty]
    exact judge_hit ok ht
  · obtain rfl := h2.2.2 rfl
    rw [if_neg (by decide)] at hseq ⊢
    have := hseq n (by omega) rfl
    subst this
    rw [show otherB 3 ⟨#[]⟩ e = e from rfl] at *
    show judge s (hexV vfS (hexB key)) _ (kindS (rdOf ByteArray.empty wordsB 3)) (if kindS (rdOf ByteArray.empty wordsB 3) = 3 then _ else hexV vfS (hexB e)) (if kindS (rdOf ByteArray.empty wordsB 3) = 3 then hexV vfS (hexB e) else _) = _
    rw [kw, if_pos rfl, if_pos rfl, hexV_hex vfS vfS_ok, hexV_hex vfS vfS_ok]
    exact judge_hit ok ht
theorem FnExactReadRecord : laws_FnExactReadRecord.Pure := by
  intro x hg
  unfold laws_FnExactReadRecord.f
  refine Ev.rounds ?_
  by_cases hx : (x.size : Int) > 1048576
  · exact Ev.if_pos hx (Ev.now _)
  refine Ev.if_neg hx ?_
  obtain ⟨o1, h1, n1, y1⟩ := spec_all x (by omega)
  obtain ⟨o2, h2, n2, y2⟩ := impl_rr x (by omega)
  have he : o2 = o1 := by
    by_cases h : ∃ key seq kind v e, okRec key seq kind v e = true ∧ textB key seq kind v e = x
    · obtain ⟨key, seq, kind, v, e, ok, ht⟩ := h
      rw [y1 key seq kind v e ok ht, y2 key seq kind v e ok ht]
    · have hno : ∀ key seq kind v e, ¬ (okRec key seq kind v e = true ∧ textB key seq kind v e = x) := fun key seq kind v e hh => h ⟨key, seq, kind, v, e, hh⟩
      rw [n1 hno, n2 hno]
  subst he
  refine Ev.bind h1 (Ev.bind h2 ?_)
  refine Ev.bind1 (a := true) (by simp [laws_eqRecord.f]) (Ev.if_pos rfl (Ev.if_neg (by simp) (Ev.now _)))
end Go.Proofs.YtogndjjoeahccaaDoor.Pure
