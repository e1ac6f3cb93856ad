/- Proved: FnExactOppositeTable returns true for every two numbers. No condition. -/
import Derived.Test.YtfdnlekbmjcbeaaPFnExactOppositeTablex1
import Derived.Laws.BitsLemmas
import Derived.Laws.BitsAllLaws
namespace Go.Proofs.Ytfdnlekbmjcbeaa.Pure
open Go.RowKit Go.Proofs.Ytfdnlekbmjcbeaa.PFnExactOppositeTable Go.Proofs.YtfdnlekbmjcbeaaW.PrintWords Go.Proofs.YtfdnlekbmjcbeaaW.PrintLast Go.Proofs.YtfdnlekbmjcbeaaW.PrintMore
set_option linter.unusedVariables false
set_option linter.unusedSimpArgs false

/-! ### base: whole numbers -/
theorem w64 {x : Int} (h0 : -9223372036854775808 ≤ x) (h1 : x ≤ 9223372036854775807) : wrap64 x = x := by
  unfold wrap64; omega
theorem wf64 {x : Int} (h : (Lit.int .i64 x).wf = true) : -9223372036854775808 ≤ x ∧ x ≤ 9223372036854775807 := by
  simp only [Lit.wf, IntKind.min, IntKind.max, IntKind.signed, IntKind.bits, Bool.and_eq_true, decide_eq_true_eq, if_true] at h
  omega
theorem wf8 {x : Int} (h : (Lit.int .u8 x).wf = true) : 0 ≤ x ∧ x ≤ 255 := by
  simp only [Lit.wf, IntKind.min, IntKind.max, IntKind.signed, IntKind.bits, Bool.and_eq_true, decide_eq_true_eq] at h
  simpa using h
theorem ofInt_i64 (a : Nat) (ha : a < 18446744073709551616) : (BitVec.ofInt 64 (a : Int)).toNat = a := by
  rw [BitVec.ofInt_natCast, BitVec.toNat_ofNat]; exact Nat.mod_eq_of_lt (by omega)
theorem wrapi (x : Nat) (h : x < 9223372036854775808) : IntKind.i64.wrap (x : Int) = x := by
  rw [IntKind.wrap_i64]; omega
theorem or64 (a b : Nat) (ha : a < 4611686018427387904) (hb : b < 4611686018427387904) : Go.bits .or .i64 (a : Int) (b : Int) = ((a ||| b : Nat) : Int) := by
  have hx : a ||| b < 2 ^ 62 := Nat.or_lt_two_pow (by omega) (by omega)
  show IntKind.i64.wrap ((BitVec.ofInt 64 (a : Int) ||| BitVec.ofInt 64 (b : Int)).toNat : Int) = _
  rw [BitVec.toNat_or, ofInt_i64 a (by omega), ofInt_i64 b (by omega), wrapi _ (by omega)]
theorem and64 (a b : Nat) (ha : a < 4611686018427387904) (hb : b < 4611686018427387904) : Go.bits .and .i64 (a : Int) (b : Int) = ((a &&& b : Nat) : Int) := by
  have hx : a &&& b < 2 ^ 62 := Nat.and_lt_two_pow _ (by omega)
  show IntKind.i64.wrap ((BitVec.ofInt 64 (a : Int) &&& BitVec.ofInt 64 (b : Int)).toNat : Int) = _
  rw [BitVec.toNat_and, ofInt_i64 a (by omega), ofInt_i64 b (by omega), wrapi _ (by omega)]
theorem xor64 (a b : Nat) (ha : a < 4611686018427387904) (hb : b < 4611686018427387904) : Go.bits .xor .i64 (a : Int) (b : Int) = ((a ^^^ b : Nat) : Int) := by
  have hx : a ^^^ b < 2 ^ 62 := Nat.xor_lt_two_pow (by omega) (by omega)
  show IntKind.i64.wrap ((BitVec.ofInt 64 (a : Int) ^^^ BitVec.ofInt 64 (b : Int)).toNat : Int) = _
  rw [BitVec.toNat_xor, ofInt_i64 a (by omega), ofInt_i64 b (by omega), wrapi _ (by omega)]
theorem andnot64 (a b : Nat) (ha : a < 4611686018427387904) (hb : b < 4611686018427387904) : Go.bits .andNot .i64 (a : Int) (b : Int) = ((a &&& (18446744073709551615 - b) : Nat) : Int) := by
  have hx : a &&& (18446744073709551615 - b) < 2 ^ 62 := Nat.lt_of_le_of_lt Nat.and_le_left (by omega)
  show IntKind.i64.wrap ((BitVec.ofInt 64 (a : Int) &&& ~~~BitVec.ofInt 64 (b : Int)).toNat : Int) = _
  rw [BitVec.toNat_and, BitVec.toNat_not, ofInt_i64 a (by omega), ofInt_i64 b (by omega)]
  have e : 2 ^ 64 - 1 - b = 18446744073709551615 - b := by omega
  rw [e, wrapi _ (by omega)]
/-- So many worlds; so many tables. -/
def pw (p : Int) : Int := 2 ^ p.toNat
def tw (p : Int) : Int := 2 ^ (2 ^ p.toNat)
theorem p4 {p : Int} (h0 : 1 ≤ p) (h1 : p ≤ 4) : p = 1 ∨ p = 2 ∨ p = 3 ∨ p = 4 := by omega
theorem pw_of {p : Int} (h0 : 1 ≤ p) (h1 : p ≤ 4) : 2 ≤ pw p ∧ pw p ≤ 16 := by
  rcases p4 h0 h1 with rfl | rfl | rfl | rfl <;> decide
theorem tw_of {p : Int} (h0 : 1 ≤ p) (h1 : p ≤ 4) : 4 ≤ tw p ∧ tw p ≤ 65536 := by
  rcases p4 h0 h1 with rfl | rfl | rfl | rfl <;> decide
theorem tw_pw {p : Int} (h0 : 1 ≤ p) (h1 : p ≤ 4) : tw p = 2 ^ (pw p).toNat := by
  rcases p4 h0 h1 with rfl | rfl | rfl | rfl <;> decide
theorem shl_pw {p : Int} (h0 : 1 ≤ p) (h1 : p ≤ 4) : shl .i64 1 p = pw p := by
  rcases p4 h0 h1 with rfl | rfl | rfl | rfl <;> decide
theorem shlu_pw {p : Int} (h0 : 1 ≤ p) (h1 : p ≤ 4) : shl .u64 1 p = pw p := by
  rcases p4 h0 h1 with rfl | rfl | rfl | rfl <;> decide
theorem shl_tw {p : Int} (h0 : 1 ≤ p) (h1 : p ≤ 4) : shl .i64 1 (pw p) = tw p := by
  rcases p4 h0 h1 with rfl | rfl | rfl | rfl <;> decide
/-- A shift of a small number by a small count. -/
theorem shl_nat (x n : Nat) (hn : n ≤ 16) (hx : x ≤ 65536) : shl .i64 (x : Int) (n : Int) = ((x * 2 ^ n : Nat) : Int) := by
  unfold shl
  have e : min ((n : Int).toNat) (IntKind.i64.bits) = n := by simp [IntKind.bits]; omega
  rw [e]
  have hp : 2 ^ n ≤ 2 ^ 16 := Nat.pow_le_pow_right (by decide) hn
  have hm : x * 2 ^ n ≤ 65536 * 2 ^ 16 := Nat.mul_le_mul hx hp
  have e2 : (x : Int) * 2 ^ n = ((x * 2 ^ n : Nat) : Int) := by simp
  rw [e2, wrapi _ (by omega)]
theorem shr_nat (x n : Nat) (hn : n ≤ 16) : shr .i64 (x : Int) (n : Int) = ((x / 2 ^ n : Nat) : Int) := by
  unfold shr
  have e : min ((n : Int).toNat) (IntKind.i64.bits) = n := by simp [IntKind.bits]; omega
  rw [e]
  simp

/-- The table of what holds, out of natural numbers. -/
def tbN (H : Nat → Bool) : Nat → Nat
  | 0 => 0
  | n + 1 => if H n = true then tbN H n ||| 2 ^ n else tbN H n
theorem tbN_succ (H : Nat → Bool) (n : Nat) : tbN H (n + 1) = if H n = true then tbN H n ||| 2 ^ n else tbN H n := rfl
theorem tbN_bit (H : Nat → Bool) (n i : Nat) : (tbN H n).testBit i = (decide (i < n) && H i) := by
  induction n with
  | zero => simp [tbN]
  | succ n ih =>
    unfold tbN
    by_cases h : H n = true
    · rw [if_pos h, Nat.testBit_or, ih, Nat.testBit_two_pow]
      by_cases e : n = i
      · subst e; simp [h]
      · have : decide (i < n + 1) = decide (i < n) := by rw [decide_eq_decide]; omega
        rw [this]; simp [e]
    · rw [if_neg h, ih]
      by_cases e : n = i
      · subst e; simp [h]
      · have : decide (i < n + 1) = decide (i < n) := by rw [decide_eq_decide]; omega
        rw [this]
theorem tbN_lt (H : Nat → Bool) (n : Nat) : tbN H n < 2 ^ n := by
  apply Nat.lt_pow_two_of_testBit
  intro i hi
  rw [tbN_bit]
  have : ¬ i < n := by omega
  simp [this]
theorem tbN_congr (H H' : Nat → Bool) (n : Nat) (h : ∀ i, i < n → H i = H' i) : tbN H n = tbN H' n := by
  apply Nat.eq_of_testBit_eq
  intro i
  rw [tbN_bit, tbN_bit]
  by_cases hi : i < n
  · rw [h i hi]
  · simp [hi]
theorem tb_loop (h : Int → Option Bool) (H : Nat → Bool) (n : Nat) (hn : n ≤ 16) (hh : ∀ i : Nat, i < n → h (i : Int) = some (H i)) (d : Nat) : ∀ i : Nat, i + d = n → ∀ k, d < k →
    tb.l0 h k (tbN H i : Int) (n : Int) ((i : Nat) : Int) = some (tbN H n : Int) := by
  induction d with
  | zero =>
    intro i hi k hk
    obtain ⟨k, rfl⟩ : ∃ m, k = m + 1 := ⟨k - 1, by omega⟩
    rw [tb.l0, if_neg (by omega), show i = n by omega]
  | succ d ih =>
    intro i hi k hk
    obtain ⟨k, rfl⟩ : ∃ m, k = m + 1 := ⟨k - 1, by omega⟩
    have := ih (i + 1) (by omega) k (by omega)
    rw [show ((i + 1 : Nat) : Int) = (i : Int) + 1 by omega] at this
    have hb := tbN_lt H i
    have hb2 : 2 ^ i ≤ 2 ^ 16 := Nat.pow_le_pow_right (by decide) (by omega)
    have e1 : shl .i64 1 ((i : Nat) : Int) = ((2 ^ i : Nat) : Int) := by have := shl_nat 1 i (by omega) (by omega); simpa using this
    rw [tb.l0, if_pos (by omega), if_pos (by omega), hh i (by omega), Option.bind_some, w64 (by omega) (by omega)]
    rw [tbN_succ] at this
    by_cases hH : H i = true
    · rw [if_pos hH, e1, or64 _ _ (by omega) (by omega)]
      rw [if_pos hH] at this
      exact this
    · rw [if_neg hH]
      rw [if_neg hH] at this
      exact this
theorem tb_eq (h : Int → Option Bool) (H : Nat → Bool) (p : Int) (hp : 1 ≤ p ∧ p ≤ 4) (hh : ∀ i : Nat, i < (pw p).toNat → h (i : Int) = some (H i)) : tb.f h p = some (tbN H (pw p).toNat : Int) := by
  unfold tb.f
  have hpw := pw_of hp.1 hp.2
  rw [if_pos (by omega), shl_pw hp.1 hp.2]
  have := tb_loop h H (pw p).toNat (by omega) hh (pw p).toNat 0 (by omega) 17 (by omega)
  rw [show (((pw p).toNat : Nat) : Int) = pw p by omega] at this
  exact this

theorem people_eq (p : Int) : impl_peopleOk.f p = some (decide (1 ≤ p ∧ p ≤ 4)) := by
  unfold impl_peopleOk.f
  by_cases h : p ≥ 1
  · rw [if_pos h]; congr 1; rw [decide_eq_decide]; omega
  · rw [if_neg h]; congr 1; symm; rw [decide_eq_false_iff_not]; omega

def TOk (p t : Int) : Prop := 1 ≤ p ∧ p ≤ 4 ∧ 0 ≤ t ∧ t < tw p
instance (p w : Int) : Decidable (TOk p w) := by unfold TOk; infer_instance
theorem itable (p t : Int) : impl_TableOk.f p t = some (decide (TOk p t)) := by
  unfold impl_TableOk.f
  rw [people_eq, Option.bind_some]
  by_cases h : 1 ≤ p ∧ p ≤ 4
  · rw [if_pos (by simpa using h)]
    by_cases h2 : t ≥ 0
    · rw [if_pos h2, if_pos (by omega), shlu_pw h.1 h.2, shl_tw h.1 h.2]; congr 1; rw [decide_eq_decide]; unfold TOk; omega
    · rw [if_neg h2]; congr 1; symm; rw [decide_eq_false_iff_not]; unfold TOk; omega
  · rw [if_neg (by simpa using h)]; congr 1; symm; rw [decide_eq_false_iff_not]; unfold TOk; omega

/-- The worlds of a table, in ascending order. -/
def winN (n t : Nat) : List Int := ((List.range n).filter (fun w => t / 2 ^ w % 2 = 1)).map (fun w => ((w : Nat) : Int))
def win (p t : Int) : List Int := if TOk p t then winN (pw p).toNat t.toNat else []
theorem winN_len (n t : Nat) : (winN n t).length ≤ n := by
  unfold winN
  rw [List.length_map]
  exact Nat.le_trans (List.length_filter_le _ _) (by simp)
theorem win_len (p t : Int) : (win p t).length ≤ 16 := by
  unfold win
  by_cases h : TOk p t
  · rw [if_pos h]
    unfold TOk at h
    have hb := pw_of h.1 h.2.1
    have := winN_len (pw p).toNat t.toNat
    omega
  · rw [if_neg h]; simp
theorem winN_succ (n t : Nat) : winN (n + 1) t = winN n t ++ (if t / 2 ^ n % 2 = 1 then [((n : Nat) : Int)] else []) := by
  unfold winN
  rw [List.range_succ, List.filter_append, List.map_append]
  congr 1
  by_cases h : t / 2 ^ n % 2 = 1 <;> simp [h]

def oppN (p : Int) (t : Nat) : Nat := tbN (fun w => t.testBit ((pw p).toNat - 1 - w)) (pw p).toNat
def oppT (p t : Int) : Int := if TOk p t then (oppN p t.toNat : Int) else -1
theorem opp1_eq (p t : Int) (hp : 1 ≤ p ∧ p ≤ 4) (ht : 0 ≤ t ∧ t < 65536) (i : Nat) (hi : i < (pw p).toNat) : opp1.f t p (i : Int) = some (t.toNat.testBit ((pw p).toNat - 1 - i)) := by
  have hpw := pw_of hp.1 hp.2
  obtain ⟨n, rfl⟩ := Int.eq_ofNat_of_zero_le ht.1
  have e : wrap64 (wrap64 (pw p - 1) - (i : Int)) = (((pw p).toNat - 1 - i : Nat) : Int) := by
    rw [w64 (x := pw p - 1) (by omega) (by omega), w64 (by omega) (by omega)]; omega
  unfold opp1.f
  have hd : n / 2 ^ ((pw p).toNat - 1 - i) ≤ n := Nat.div_le_self _ _
  have := and64 (n / 2 ^ ((pw p).toNat - 1 - i)) 1 (by omega) (by omega)
  rw [Nat.and_one_is_mod] at this
  rw [if_pos (by omega), shl_pw hp.1 hp.2, e, if_pos (by omega), shr_nat n _ (by omega)]
  rw [show (1 : Int) = ((1 : Nat) : Int) from rfl, this, Int.toNat_natCast, Nat.testBit_eq_decide_div_mod_eq]
  congr 1
  rw [Bool.eq_iff_iff, beq_iff_eq, decide_eq_true_iff]
  omega
theorem iopptab (p t : Int) : impl_OppositeTable.f p t = some (oppT p t) := by
  unfold impl_OppositeTable.f oppT
  rw [itable, Option.bind_some]
  by_cases h : TOk p t
  · have h' := h
    unfold TOk at h'
    have hb := tw_of h'.1 h'.2.1
    rw [if_pos (by simpa using h), if_pos h]
    exact tb_eq _ _ p ⟨h'.1, h'.2.1⟩ (fun i hi => opp1_eq p t ⟨h'.1, h'.2.1⟩ (by omega) i hi)
  · rw [if_neg (by simpa using h), if_neg h]

theorem in_eq (a b c : Int) : spec_l1In.f a b c = some (decide (b ≤ a ∧ a ≤ c)) := by
  unfold spec_l1In.f
  by_cases h : a ≥ b
  · rw [if_pos h]; congr 1; rw [decide_eq_decide]; omega
  · rw [if_neg h]; congr 1; symm; rw [decide_eq_false_iff_not]; omega

theorem stable (p t : Int) : spec_TableOk.f p t = some (decide (TOk p t)) := by
  unfold spec_TableOk.f
  rw [in_eq, Option.bind_some]
  by_cases h : 1 ≤ p ∧ p ≤ 4
  · have hb := tw_of h.1 h.2
    rw [if_pos (by simpa using h), if_pos (by omega), shlu_pw h.1 h.2, shl_tw h.1 h.2, w64 (by omega) (by omega), in_eq, Option.bind_some]
    congr 1; rw [decide_eq_decide]; unfold TOk; omega
  · rw [if_neg (by simpa using h)]; congr 1; symm; rw [decide_eq_false_iff_not]; unfold TOk; omega

def turnN (t n : Nat) : Nat → Nat
  | 0 => 0
  | i + 1 => turnN t n i ||| ((t / 2 ^ i % 2) * 2 ^ (n - 1 - i))
theorem turnN_succ (t n i : Nat) : turnN t n (i + 1) = turnN t n i ||| ((t / 2 ^ i % 2) * 2 ^ (n - 1 - i)) := rfl
theorem turnN_bit (t n i : Nat) (hi : i ≤ n) (j : Nat) : (turnN t n i).testBit j = (decide (j < n ∧ n - 1 - j < i) && t.testBit (n - 1 - j)) := by
  induction i with
  | zero => simp [turnN]
  | succ i ih =>
    unfold turnN
    rw [Nat.testBit_or, ih (by omega)]
    have hb : t.testBit i = decide (t / 2 ^ i % 2 = 1) := Nat.testBit_eq_decide_div_mod_eq
    have h2 : t / 2 ^ i % 2 = 0 ∨ t / 2 ^ i % 2 = 1 := by omega
    by_cases e : j = n - 1 - i
    · have ej : n - 1 - j = i := by omega
      have d1 : decide (j < n ∧ n - 1 - j < i) = false := by rw [decide_eq_false_iff_not]; omega
      have d2 : decide (j < n ∧ n - 1 - j < i + 1) = true := by rw [decide_eq_true_iff]; omega
      rw [d1, d2, ej, hb, e]
      rcases h2 with h2 | h2
      · rw [h2]; simp
      · rw [h2, Nat.one_mul, Nat.testBit_two_pow_self]; simp
    · have d : decide (j < n ∧ n - 1 - j < i + 1) = decide (j < n ∧ n - 1 - j < i) := by rw [decide_eq_decide]; omega
      rw [d]
      rcases h2 with h2 | h2
      · rw [h2]; simp
      · rw [h2, Nat.one_mul, Nat.testBit_two_pow_of_ne (by omega)]; simp
theorem turnN_eq (t n : Nat) : turnN t n n = tbN (fun w => t.testBit (n - 1 - w)) n := by
  apply Nat.eq_of_testBit_eq
  intro j
  rw [turnN_bit t n n (Nat.le_refl _), tbN_bit]
  congr 1
  rw [decide_eq_decide]; omega
theorem turnN_lt (t n i : Nat) (hi : i ≤ n) : turnN t n i < 2 ^ n := by
  apply Nat.lt_pow_two_of_testBit
  intro j hj
  rw [turnN_bit t n i hi]
  have : ¬ (j < n ∧ n - 1 - j < i) := by omega
  simp [this]
theorem turned_loop (p : Int) (hp : 1 ≤ p ∧ p ≤ 4) (t n : Nat) (hn : (n : Int) = pw p) (ht : t < 65536) (d : Nat) : ∀ i : Nat, i + d = n → ∀ k, d < k → spec_l1Turned.l0 k p (t : Int) (turnN t n i : Int) ((i : Nat) : Int) = some (turnN t n n : Int) := by
  have hpw := pw_of hp.1 hp.2
  induction d with
  | zero =>
    intro i hi k hk
    obtain ⟨k, rfl⟩ : ∃ m, k = m + 1 := ⟨k - 1, by omega⟩
    rw [spec_l1Turned.l0, if_pos (by omega), shl_pw hp.1 hp.2, if_neg (by omega), show i = n by omega]
  | succ d ih =>
    intro i hi k hk
    obtain ⟨k, rfl⟩ : ∃ m, k = m + 1 := ⟨k - 1, by omega⟩
    have := ih (i + 1) (by omega) k (by omega)
    rw [show ((i + 1 : Nat) : Int) = (i : Int) + 1 by omega] at this
    have hlt := turnN_lt t n i (by omega)
    have h16 : 2 ^ n ≤ 2 ^ 16 := Nat.pow_le_pow_right (by decide) (by omega)
    have e : wrap64 (wrap64 (pw p - 1) - (i : Int)) = ((n - 1 - i : Nat) : Int) := by
      rw [w64 (x := pw p - 1) (by omega) (by omega), w64 (by omega) (by omega)]; omega
    have e2 : Int.tmod (shr .i64 (t : Int) (i : Int)) 2 = ((t / 2 ^ i % 2 : Nat) : Int) := by
      rw [shr_nat t i (by omega), Int.tmod_eq_emod_of_nonneg (Int.natCast_nonneg _)]
      simp
    have hm : (t / 2 ^ i % 2) * 2 ^ (n - 1 - i) < 4611686018427387904 := by
      have h1 : t / 2 ^ i % 2 ≤ 1 := by omega
      have h3 : 2 ^ (n - 1 - i) ≤ 2 ^ 16 := Nat.pow_le_pow_right (by decide) (by omega)
      have := Nat.mul_le_mul h1 h3
      omega
    rw [spec_l1Turned.l0, if_pos (by omega), shl_pw hp.1 hp.2, if_pos (by omega), if_pos (by omega), e, if_pos (by omega), e2, shl_nat _ _ (by omega) (by omega), or64 _ _ (by omega) hm, w64 (by omega) (by omega)]
    rw [turnN_succ] at this
    exact this
theorem sopptab (p t : Int) (k : Nat) (hk : 16 < k) : spec_OppositeTable.f k p t = some (oppT p t) := by
  unfold spec_OppositeTable.f oppT
  rw [stable, Option.bind_some]
  by_cases h : TOk p t
  · have h' := h
    unfold TOk at h'
    have hb := tw_of h'.1 h'.2.1
    have hpw := pw_of h'.1 h'.2.1
    obtain ⟨n, rfl⟩ := Int.eq_ofNat_of_zero_le h'.2.2.1
    rw [if_pos (by simpa using h), if_pos h]
    have := turned_loop p ⟨h'.1, h'.2.1⟩ n (pw p).toNat (by omega) (by omega) (pw p).toNat 0 (by omega) k (by omega)
    unfold spec_l1Turned.f
    rw [show (0 : Int) = (turnN n (pw p).toNat 0 : Int) from rfl] 
    rw [show ((turnN n (pw p).toNat 0 : Nat) : Int) = ((0 : Nat) : Int) from rfl] at this ⊢
    rw [this, turnN_eq]; rfl
  · rw [if_neg (by simpa using h), if_neg h]

/-! ### the law -/
theorem FnExactOppositeTable : laws_FnExactOppositeTable.Pure := by
  intro p t _ _
  refine ⟨17, ?_⟩
  unfold laws_FnExactOppositeTable.f
  rw [sopptab p t 17 (by omega), Option.bind_some, iopptab, Option.bind_some, if_pos rfl]

end Go.Proofs.Ytfdnlekbmjcbeaa.Pure
