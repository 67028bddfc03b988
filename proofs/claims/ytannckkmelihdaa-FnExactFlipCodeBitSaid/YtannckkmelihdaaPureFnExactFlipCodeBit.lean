/- The law FnExactFlipCodeBit, as a statement over numbers and texts. No condition. -/
import Derived.Test.YtannckkmelihdaaSayFnExactFlipCodeBit
import Derived.Test.YtannckkmelihdaaInOk
import Derived.Test.YtannckkmelihdaaWord8
import Derived.Test.YtannckkmelihdaaXFlipS
namespace Go.Proofs.Ytannckkmelihdaa.Pure
open Go.RowKit Go.Proofs.Ytannckkmelihdaa.Q Go.Proofs.YtannckkmelihdaaW.PrintWords
set_option linter.unusedVariables false
theorem small256 (v : Nat) (h : v < 256) : (v : Int) % 256 = (v : Int) := by omega
theorem wrap256 (v : Nat) (h : v < 256) : wrap64 (v : Int) = (v : Int) := wrap64_id (by omega) (by omega)
theorem pow_dig (p : Nat) (i : Nat) : 2 ^ p / 2 ^ (8 * i) % 256 = if i = p / 8 then 2 ^ (p % 8) else 0 := by
  by_cases c : i = p / 8
  · rw [if_pos c]
    have e : 2 ^ p = 2 ^ (8 * i) * 2 ^ (p % 8) := by
      rw [← Nat.pow_add]
      congr 1
      omega
    have h2 : 2 ^ (p % 8) < 256 := Nat.lt_of_le_of_lt (Nat.pow_le_pow_right (by decide) (by omega : p % 8 ≤ 7)) (by decide)
    rw [e, Nat.mul_div_cancel_left _ (Nat.pow_pos (by decide)), Nat.mod_eq_of_lt h2]
  · rw [if_neg c]
    by_cases c2 : i < p / 8
    · have e : 2 ^ p = 2 ^ (8 * i) * (256 * 2 ^ (p - 8 * i - 8)) := by
        rw [show (256 : Nat) = 2 ^ 8 from rfl, ← Nat.pow_add, ← Nat.pow_add]
        congr 1
        omega
      rw [e, Nat.mul_div_cancel_left _ (Nat.pow_pos (by decide)), Nat.mul_mod_right]
    · rw [Nat.div_eq_of_lt (Nat.pow_lt_pow_right (by decide) (by omega)), Nat.zero_mod]
theorem xor_dig (a b i : Nat) : (a ^^^ b) / 2 ^ (8 * i) % 256 = (a / 2 ^ (8 * i) % 256) ^^^ (b / 2 ^ (8 * i) % 256) := by
  rw [Nat.xor_div_two_pow, show (256 : Nat) = 2 ^ 8 from rfl, Nat.xor_mod_two_pow]
theorem flip_text (s : ByteArray) (hs : s.size = 8) (p : Nat) (hp : p < 64) : fixB (wrap64 ((num8 s 8 ^^^ 2 ^ p : Nat) : Int)) 8 = flipB s (p : Int) := by
  have hN : num8 s 8 < 2 ^ 64 := num8_lt s 8
  have hP : 2 ^ p < 2 ^ 64 := Nat.pow_lt_pow_right (by decide) hp
  unfold flipB
  refine fixB_list _ (Nat.xor_lt_two_pow hN hP) _ (by rw [List.length_set, bytesOf_length, hs]) (fun i hi => ?_)
  rw [xor_dig, num8_dig s i hi, pow_dig p i]
  have hq : ((p : Int) / 8).toNat = p / 8 := by omega
  have hr : ((p : Int) % 8).toNat = p % 8 := by omega
  rw [hq, hr, List.getD_eq_getElem?_getD, List.getElem?_set]
  have hlen : (bytesOf s).length = 8 := by rw [bytesOf_length, hs]
  by_cases c : p / 8 = i
  · rw [if_pos c, if_pos (by omega), if_pos c.symm, Option.getD_some, bytes_by8 s (p / 8) (by omega), c]
    have h2 : 2 ^ (p % 8) < 256 := Nat.lt_of_le_of_lt (Nat.pow_le_pow_right (by decide) (by omega : p % 8 ≤ 7)) (by decide)
    have e : (2 : Int) ^ (p % 8) % 256 = ((2 ^ (p % 8) : Nat) : Int) := by
      rw [show (2 : Int) ^ (p % 8) = ((2 ^ (p % 8) : Nat) : Int) from by simp]
      exact small256 _ h2
    rw [e]
    exact bits_xor_nat .u8 8 (by decide) (fun n h0 h1 => by rw [show IntKind.u8.wrap n = n % 256 from by simp [IntKind.wrap, IntKind.bits, IntKind.signed]]; omega) _ _ (by8_lt s i) (by omega)
  · rw [if_neg c, if_neg (fun h => c h.symm), Nat.xor_zero, ← bytes_by8 s i (by omega), List.getD_eq_getElem?_getD]
theorem same_text (s : ByteArray) (hs : s.size = 8) : fixB (wrap64 ((num8 s 8 : Nat) : Int)) 8 = s := by
  have h := fixB_list (num8 s 8) (num8_big s 8 (by omega)) (bytesOf s) (by rw [bytesOf_length, hs]) (fun i hi => by rw [num8_dig s i hi]; exact bytes_by8 s i (by omega))
  rw [h, str_bytes]
theorem FnExactFlipCodeBit : laws_FnExactFlipCodeBit.Pure := by
  intro s c p _ _ _
  unfold laws_FnExactFlipCodeBit.f
  refine Ev.rounds ?_
  by_cases hz : (s.size : Int) > 1048576
  · exact Ev.if_pos hz (Ev.now _)
  refine Ev.if_neg hz ?_
  have es : spec_l03Valid.f s c = some (decide ((s.size : Int) = 8) && decide (0 ≤ c ∧ c ≤ 255)) := by
    unfold spec_l03Valid.f
    by_cases h : (s.size : Int) = 8
    · rw [if_pos h, decide_eq_true h, Bool.true_and, l00In_eq]; rfl
    · rw [if_neg h, decide_eq_false h, Bool.false_and]
  have ei : impl_wordOk.f s c = some (decide ((s.size : Int) = 8) && decide (0 ≤ c ∧ c ≤ 255)) := by
    unfold impl_wordOk.f
    by_cases h : (s.size : Int) = 8
    · rw [if_pos h, decide_eq_true h, Bool.true_and, within_eq]; rfl
    · rw [if_neg h, decide_eq_false h, Bool.false_and]
  obtain ⟨g, q1, q2⟩ : ∃ g : ByteArray × Int × Int, spec_FlipCodeBit.f s c p = some g ∧ Ev (fun k => impl_FlipCodeBit.f k s c p) g := by
    unfold spec_FlipCodeBit.f impl_FlipCodeBit.f
    by_cases h : (decide ((s.size : Int) = 8) && decide (0 ≤ c ∧ c ≤ 255)) = true
    · rw [h] at es ei
      simp only [Bool.and_eq_true, decide_eq_true_eq] at h
      obtain ⟨h8, hc0, hc1⟩ := h
      have hs : s.size = 8 := by omega
      by_cases hp : 0 ≤ p ∧ p ≤ 71
      · have w1 : spec_l00In.f p 0 71 = some true := by rw [l00In_eq, decide_eq_true hp]
        have w2 : impl_within.f p 0 71 = some true := by rw [within_eq, decide_eq_true hp]
        obtain ⟨hp0, hp1⟩ := hp
        have hN : num8 s 8 < 2 ^ 64 := num8_lt s 8
        have hNb := num8_big s 8 (by omega)
        have cw : Ev (fun k => impl_codewordOf.f k s c) (((num8 s 8 : Nat) : Int), c) := by
          unfold impl_codewordOf.f
          have e1 : IntKind.u64.wrap (wrap64 ((num8 s 8 : Nat) : Int)) = ((num8 s 8 : Nat) : Int) := by rw [wrap_u64, wrap_mod]; omega
          have e2 : c % 256 = c := by omega
          refine Ev.bind (dec8_ev s hs) ?_
          rw [e1, e2]
          exact Ev.now _
        by_cases hp64 : p < 64
        · obtain ⟨n, rfl⟩ := Int.eq_ofNat_of_zero_le hp0
          have hn : n < 64 := by omega
          have hP : 2 ^ n < 2 ^ 64 := Nat.pow_lt_pow_right (by decide) hn
          have f1 : spec_l03Flip.f s c (n : Int) = some (flipB s (n : Int), c) := by
            unfold spec_l03Flip.f
            rw [if_pos ⟨hs, by omega, by omega⟩, if_neg (by omega)]
          have sh : shl .u64 1 (n : Int) = ((2 ^ n : Nat) : Int) := by
            unfold shl
            rw [Int.toNat_natCast, Nat.min_eq_left (by show n ≤ 64; omega), Int.one_mul, show (2 : Int) ^ n = ((2 ^ n : Nat) : Int) from by simp]
            exact wraps_u64 _ (Int.natCast_nonneg _) (by exact_mod_cast hP)
          have fl : impl_codeword_flip.f ((num8 s 8 : Nat) : Int) c (n : Int) = some (((num8 s 8 ^^^ 2 ^ n : Nat) : Int), c) := by
            unfold impl_codeword_flip.f
            rw [if_pos (by omega), if_pos (by omega), sh, bits_xor_nat .u64 64 (by decide) wraps_u64 _ _ hN hP]
          refine ⟨(flipB s (n : Int), c, 0), ?_, ?_⟩
          · rw [es, Option.bind_some, if_pos rfl, w1, Option.bind_some, if_pos rfl, f1]
            rfl
          · refine Ev.bind1 ei (Ev.if_pos rfl (Ev.bind1 w2 (Ev.if_pos rfl (Ev.bind cw (Ev.bind1 fl ?_)))))
            unfold impl_codeword_text.f
            have hx := fixed_ev (wrap64 ((num8 s 8 ^^^ 2 ^ n : Nat) : Int)) 8 (by omega)
            rw [flip_text s hs n hn] at hx
            have e2 : wrap64 c = c := wrap64_id (by omega) (by omega)
            have : (flipB s (n : Int), c, (0 : Int)) = (flipB s (n : Int), wrap64 c, (0 : Int)) := by rw [e2]
            rw [this]
            exact Ev.bind (Ev.bind hx (Ev.now _)) (Ev.now _)
        · obtain ⟨n, hn⟩ : ∃ n : Nat, p - 64 = (n : Int) := ⟨(p - 64).toNat, by omega⟩
          have hn8 : n < 8 := by omega
          obtain ⟨m, rfl⟩ := Int.eq_ofNat_of_zero_le hc0
          have hP : 2 ^ n < 256 := Nat.lt_of_le_of_lt (Nat.pow_le_pow_right (by decide) (by omega : n ≤ 7)) (by decide)
          have hw : wrap64 (p - 64) = (n : Int) := by rw [hn, wrap64_id (by omega) (by omega)]
          have e0 : (2 : Int) ^ n = ((2 ^ n : Nat) : Int) := by simp
          have f1 : spec_l03Flip.f s (m : Int) p = some (s, ((m ^^^ 2 ^ n : Nat) : Int)) := by
            unfold spec_l03Flip.f
            rw [if_pos ⟨hs, by omega, by omega⟩, if_pos (by omega), hn, Int.toNat_natCast, e0, wrap256 _ hP, bits_xor_nat .i64 63 (by decide) wraps_i64 _ _ (by omega) (by omega)]
          have sh : shl .u8 1 (n : Int) = ((2 ^ n : Nat) : Int) := by
            unfold shl
            rw [Int.toNat_natCast, Nat.min_eq_left (by show n ≤ 8; omega), Int.one_mul, e0, show IntKind.u8.wrap ((2 ^ n : Nat) : Int) = ((2 ^ n : Nat) : Int) % 256 from by simp [IntKind.wrap, IntKind.bits, IntKind.signed]]
            exact small256 _ hP
          have fl : impl_codeword_flip.f ((num8 s 8 : Nat) : Int) (m : Int) p = some (((num8 s 8 : Nat) : Int), ((m ^^^ 2 ^ n : Nat) : Int)) := by
            unfold impl_codeword_flip.f
            rw [if_neg hp64, hw, if_pos (by omega), sh, bits_xor_nat .u8 8 (by decide) (fun n h0 h1 => by rw [show IntKind.u8.wrap n = n % 256 from by simp [IntKind.wrap, IntKind.bits, IntKind.signed]]; omega) _ _ (by omega) (by omega)]
          have hx8 : m ^^^ 2 ^ n < 256 := Nat.xor_lt_two_pow (n := 8) (by omega) (by omega)
          refine ⟨(s, ((m ^^^ 2 ^ n : Nat) : Int), 0), ?_, ?_⟩
          · rw [es, Option.bind_some, if_pos rfl, w1, Option.bind_some, if_pos rfl, f1]
            rfl
          · refine Ev.bind1 ei (Ev.if_pos rfl (Ev.bind1 w2 (Ev.if_pos rfl (Ev.bind cw (Ev.bind1 fl ?_)))))
            unfold impl_codeword_text.f
            have hx := fixed_ev (wrap64 ((num8 s 8 : Nat) : Int)) 8 (by omega)
            rw [same_text s hs] at hx
            have e2 : wrap64 ((m ^^^ 2 ^ n : Nat) : Int) = ((m ^^^ 2 ^ n : Nat) : Int) := wrap64_id (by omega) (by omega)
            have : (s, ((m ^^^ 2 ^ n : Nat) : Int), (0 : Int)) = (s, wrap64 ((m ^^^ 2 ^ n : Nat) : Int), (0 : Int)) := by rw [e2]
            rw [this]
            exact Ev.bind (Ev.bind hx (Ev.now _)) (Ev.now _)
      · have w1 : spec_l00In.f p 0 71 = some false := by rw [l00In_eq, decide_eq_false hp]
        have w2 : impl_within.f p 0 71 = some false := by rw [within_eq, decide_eq_false hp]
        refine ⟨((⟨#[]⟩ : ByteArray), 0, 2), ?_, Ev.bind1 ei (Ev.if_pos rfl (Ev.bind1 w2 (Ev.if_neg (by decide) (Ev.now _))))⟩
        rw [es, Option.bind_some, if_pos rfl, w1, Option.bind_some, if_neg (by decide)]
    · rw [Bool.eq_false_iff.2 h] at es ei
      refine ⟨((⟨#[]⟩ : ByteArray), 0, 1), ?_, Ev.bind1 ei (Ev.if_neg (by decide) (Ev.now _))⟩
      rw [es, Option.bind_some, if_neg (by decide)]
  exact Ev.bind1 q1 (Ev.bind q2 (Ev.if_pos rfl (Ev.if_pos rfl (Ev.if_pos rfl (Ev.now _)))))
end Go.Proofs.Ytannckkmelihdaa.Pure
