/- Proved: FnExactTellersIn returns true for every two numbers. No condition. -/
import Derived.Test.YtfdnlekbmjcbeaaPFnExactTellersInx1
import Derived.Laws.BitsLemmas
import Derived.Laws.BitsAllLaws
namespace Go.Proofs.Ytfdnlekbmjcbeaa.Pure
open Go.RowKit Go.Proofs.Ytfdnlekbmjcbeaa.PFnExactTellersIn Go.Proofs.YtfdnlekbmjcbeaaW.PrintWords Go.Proofs.YtfdnlekbmjcbeaaW.PrintLast Go.Proofs.YtfdnlekbmjcbeaaW.PrintMore
set_option linter.unusedVariables false
set_option linter.unusedSimpArgs false

/-! ### base: whole numbers -/
theorem w64 {x : Int} (h0 : -9223372036854775808 ≤ x) (h1 : x ≤ 9223372036854775807) : wrap64 x = x := by
  unfold wrap64; omega
theorem wf64 {x : Int} (h : (Lit.int .i64 x).wf = true) : -9223372036854775808 ≤ x ∧ x ≤ 9223372036854775807 := by
  simp only [Lit.wf, IntKind.min, IntKind.max, IntKind.signed, IntKind.bits, Bool.and_eq_true, decide_eq_true_eq, if_true] at h
  omega
theorem wf8 {x : Int} (h : (Lit.int .u8 x).wf = true) : 0 ≤ x ∧ x ≤ 255 := by
  simp only [Lit.wf, IntKind.min, IntKind.max, IntKind.signed, IntKind.bits, Bool.and_eq_true, decide_eq_true_eq] at h
  simpa using h
theorem ofInt_i64 (a : Nat) (ha : a < 18446744073709551616) : (BitVec.ofInt 64 (a : Int)).toNat = a := by
  rw [BitVec.ofInt_natCast, BitVec.toNat_ofNat]; exact Nat.mod_eq_of_lt (by omega)
theorem wrapi (x : Nat) (h : x < 9223372036854775808) : IntKind.i64.wrap (x : Int) = x := by
  rw [IntKind.wrap_i64]; omega
theorem or64 (a b : Nat) (ha : a < 4611686018427387904) (hb : b < 4611686018427387904) : Go.bits .or .i64 (a : Int) (b : Int) = ((a ||| b : Nat) : Int) := by
  have hx : a ||| b < 2 ^ 62 := Nat.or_lt_two_pow (by omega) (by omega)
  show IntKind.i64.wrap ((BitVec.ofInt 64 (a : Int) ||| BitVec.ofInt 64 (b : Int)).toNat : Int) = _
  rw [BitVec.toNat_or, ofInt_i64 a (by omega), ofInt_i64 b (by omega), wrapi _ (by omega)]
theorem and64 (a b : Nat) (ha : a < 4611686018427387904) (hb : b < 4611686018427387904) : Go.bits .and .i64 (a : Int) (b : Int) = ((a &&& b : Nat) : Int) := by
  have hx : a &&& b < 2 ^ 62 := Nat.and_lt_two_pow _ (by omega)
  show IntKind.i64.wrap ((BitVec.ofInt 64 (a : Int) &&& BitVec.ofInt 64 (b : Int)).toNat : Int) = _
  rw [BitVec.toNat_and, ofInt_i64 a (by omega), ofInt_i64 b (by omega), wrapi _ (by omega)]
theorem xor64 (a b : Nat) (ha : a < 4611686018427387904) (hb : b < 4611686018427387904) : Go.bits .xor .i64 (a : Int) (b : Int) = ((a ^^^ b : Nat) : Int) := by
  have hx : a ^^^ b < 2 ^ 62 := Nat.xor_lt_two_pow (by omega) (by omega)
  show IntKind.i64.wrap ((BitVec.ofInt 64 (a : Int) ^^^ BitVec.ofInt 64 (b : Int)).toNat : Int) = _
  rw [BitVec.toNat_xor, ofInt_i64 a (by omega), ofInt_i64 b (by omega), wrapi _ (by omega)]
theorem andnot64 (a b : Nat) (ha : a < 4611686018427387904) (hb : b < 4611686018427387904) : Go.bits .andNot .i64 (a : Int) (b : Int) = ((a &&& (18446744073709551615 - b) : Nat) : Int) := by
  have hx : a &&& (18446744073709551615 - b) < 2 ^ 62 := Nat.lt_of_le_of_lt Nat.and_le_left (by omega)
  show IntKind.i64.wrap ((BitVec.ofInt 64 (a : Int) &&& ~~~BitVec.ofInt 64 (b : Int)).toNat : Int) = _
  rw [BitVec.toNat_and, BitVec.toNat_not, ofInt_i64 a (by omega), ofInt_i64 b (by omega)]
  have e : 2 ^ 64 - 1 - b = 18446744073709551615 - b := by omega
  rw [e, wrapi _ (by omega)]
/-- So many worlds; so many tables. -/
def pw (p : Int) : Int := 2 ^ p.toNat
def tw (p : Int) : Int := 2 ^ (2 ^ p.toNat)
theorem p4 {p : Int} (h0 : 1 ≤ p) (h1 : p ≤ 4) : p = 1 ∨ p = 2 ∨ p = 3 ∨ p = 4 := by omega
theorem pw_of {p : Int} (h0 : 1 ≤ p) (h1 : p ≤ 4) : 2 ≤ pw p ∧ pw p ≤ 16 := by
  rcases p4 h0 h1 with rfl | rfl | rfl | rfl <;> decide
theorem tw_of {p : Int} (h0 : 1 ≤ p) (h1 : p ≤ 4) : 4 ≤ tw p ∧ tw p ≤ 65536 := by
  rcases p4 h0 h1 with rfl | rfl | rfl | rfl <;> decide
theorem tw_pw {p : Int} (h0 : 1 ≤ p) (h1 : p ≤ 4) : tw p = 2 ^ (pw p).toNat := by
  rcases p4 h0 h1 with rfl | rfl | rfl | rfl <;> decide
theorem shl_pw {p : Int} (h0 : 1 ≤ p) (h1 : p ≤ 4) : shl .i64 1 p = pw p := by
  rcases p4 h0 h1 with rfl | rfl | rfl | rfl <;> decide
theorem shlu_pw {p : Int} (h0 : 1 ≤ p) (h1 : p ≤ 4) : shl .u64 1 p = pw p := by
  rcases p4 h0 h1 with rfl | rfl | rfl | rfl <;> decide
theorem shl_tw {p : Int} (h0 : 1 ≤ p) (h1 : p ≤ 4) : shl .i64 1 (pw p) = tw p := by
  rcases p4 h0 h1 with rfl | rfl | rfl | rfl <;> decide
/-- A shift of a small number by a small count. -/
theorem shl_nat (x n : Nat) (hn : n ≤ 16) (hx : x ≤ 65536) : shl .i64 (x : Int) (n : Int) = ((x * 2 ^ n : Nat) : Int) := by
  unfold shl
  have e : min ((n : Int).toNat) (IntKind.i64.bits) = n := by simp [IntKind.bits]; omega
  rw [e]
  have hp : 2 ^ n ≤ 2 ^ 16 := Nat.pow_le_pow_right (by decide) hn
  have hm : x * 2 ^ n ≤ 65536 * 2 ^ 16 := Nat.mul_le_mul hx hp
  have e2 : (x : Int) * 2 ^ n = ((x * 2 ^ n : Nat) : Int) := by simp
  rw [e2, wrapi _ (by omega)]
theorem shr_nat (x n : Nat) (hn : n ≤ 16) : shr .i64 (x : Int) (n : Int) = ((x / 2 ^ n : Nat) : Int) := by
  unfold shr
  have e : min ((n : Int).toNat) (IntKind.i64.bits) = n := by simp [IntKind.bits]; omega
  rw [e]
  simp

/-- How many of 0..15's four lowest bits are set. -/
def ones (w : Int) : Int := w % 2 + w / 2 % 2 + w / 4 % 2 + w / 8 % 2
theorem heads_loop (k : Nat) : ∀ (w s : Int), 0 ≤ w → w < 2 ^ k → 0 ≤ s → s + k ≤ 100 → k ≤ 4 → ∀ m, k < m → spec_l1Heads.l0 m w s = some (s + ones w) := by
  induction k with
  | zero =>
    intro w s h0 h1 _ _ _ m hm
    obtain ⟨m, rfl⟩ : ∃ n, m = n + 1 := ⟨m - 1, by omega⟩
    have : w = 0 := by omega
    subst this
    rw [spec_l1Heads.l0, if_neg (by omega)]
    simp [ones]
  | succ k ih =>
    intro w s h0 h1 hs hs2 hk m hm
    obtain ⟨m, rfl⟩ : ∃ n, m = n + 1 := ⟨m - 1, by omega⟩
    have hw : w < 16 := Int.lt_of_lt_of_le h1 (by
      have : (2 : Int) ^ (k + 1) ≤ 2 ^ 4 := by exact_mod_cast Nat.pow_le_pow_right (by decide) (by omega)
      omega)
    rw [spec_l1Heads.l0]
    by_cases hw0 : w > 0
    · have e1 : Int.tdiv w 2 = w / 2 := Int.tdiv_eq_ediv_of_nonneg h0
      have e2 : Int.tmod w 2 = w % 2 := Int.tmod_eq_emod_of_nonneg h0
      rw [if_pos hw0, e1, e2, w64 (by omega) (by omega), w64 (by omega) (by omega), ih (w / 2) (s + w % 2) (by omega) (by rw [Int.pow_succ] at h1; omega) (by omega) (by omega) (by omega) m (by omega)]
      congr 1
      unfold ones
      omega
    · rw [if_neg hw0]
      have : w = 0 := by omega
      subst this
      simp [ones]
theorem heads_eq (w : Int) (h0 : 0 ≤ w) (h1 : w < 16) (k : Nat) (hk : 4 < k) : spec_l1Heads.f k w = some (ones w) := by
  unfold spec_l1Heads.f
  rw [heads_loop 4 w 0 h0 (by omega) (by omega) (by omega) (by omega) k hk, Int.zero_add]

theorem in_eq (a b c : Int) : spec_l1In.f a b c = some (decide (b ≤ a ∧ a ≤ c)) := by
  unfold spec_l1In.f
  by_cases h : a ≥ b
  · rw [if_pos h]; congr 1; rw [decide_eq_decide]; omega
  · rw [if_neg h]; congr 1; symm; rw [decide_eq_false_iff_not]; omega

theorem people_eq (p : Int) : impl_peopleOk.f p = some (decide (1 ≤ p ∧ p ≤ 4)) := by
  unfold impl_peopleOk.f
  by_cases h : p ≥ 1
  · rw [if_pos h]; congr 1; rw [decide_eq_decide]; omega
  · rw [if_neg h]; congr 1; symm; rw [decide_eq_false_iff_not]; omega

def WOk (p w : Int) : Prop := 1 ≤ p ∧ p ≤ 4 ∧ 0 ≤ w ∧ w < pw p
instance (p w : Int) : Decidable (WOk p w) := by unfold WOk; infer_instance
theorem iworld (p w : Int) : impl_WorldOk.f p w = some (decide (WOk p w)) := by
  unfold impl_WorldOk.f
  rw [people_eq, Option.bind_some]
  by_cases h : 1 ≤ p ∧ p ≤ 4
  · rw [if_pos (by simpa using h)]
    by_cases h2 : w ≥ 0
    · rw [if_pos h2, if_pos (by omega), shl_pw h.1 h.2]; congr 1; rw [decide_eq_decide]; unfold WOk; omega
    · rw [if_neg h2]; congr 1; symm; rw [decide_eq_false_iff_not]; unfold WOk; omega
  · rw [if_neg (by simpa using h)]; congr 1; symm; rw [decide_eq_false_iff_not]; unfold WOk; omega

theorem sworld (p w : Int) : spec_WorldOk.f p w = some (decide (WOk p w)) := by
  unfold spec_WorldOk.f
  rw [in_eq, Option.bind_some]
  by_cases h : 1 ≤ p ∧ p ≤ 4
  · have hb := pw_of h.1 h.2
    rw [if_pos (by simpa using h), if_pos (by omega), shl_pw h.1 h.2, w64 (by omega) (by omega), in_eq, Option.bind_some]
    congr 1; rw [decide_eq_decide]; unfold WOk; omega
  · rw [if_neg (by simpa using h)]; congr 1; symm; rw [decide_eq_false_iff_not]; unfold WOk; omega

theorem stellers (p w : Int) (k : Nat) (hk : 4 < k) : spec_TellersIn.f k p w = some (if WOk p w then ones w else -1) := by
  unfold spec_TellersIn.f
  rw [sworld, Option.bind_some]
  by_cases h : WOk p w
  · have h' := h
    unfold WOk at h'
    have hb := pw_of h'.1 h'.2.1
    rw [if_pos (by simpa using h), if_pos h, heads_eq w (by omega) (by omega) k hk, Option.bind_some]
  · rw [if_neg (by simpa using h), if_neg h]

def ones' (w : Int) : Int := w % 2 + w / 2 % 2 + w / 4 % 2 + w / 8 % 2
theorem count_eq (w : Int) (h0 : 0 ≤ w) (h1 : w < 16) : bits_OnesCount.f (IntKind.u64.wrap w) = some (ones' w) := by
  obtain ⟨n, rfl⟩ := Int.eq_ofNat_of_zero_le h0
  have hn : n < 16 := by omega
  have key : ∀ m : Fin 16, bits_OnesCount.f (IntKind.u64.wrap ((m.val : Nat) : Int)) = some (ones' ((m.val : Nat) : Int)) := by decide +kernel
  exact key ⟨n, hn⟩

theorem itellers (p w : Int) : impl_TellersIn.f p w = some (if WOk p w then ones w else -1) := by
  unfold impl_TellersIn.f
  rw [iworld, Option.bind_some]
  by_cases h : WOk p w
  · have h' := h
    unfold WOk at h'
    have hb := pw_of h'.1 h'.2.1
    rw [if_pos (by simpa using h), if_pos h, count_eq w (by omega) (by omega), Option.bind_some]; rfl
  · rw [if_neg (by simpa using h), if_neg h]

/-! ### the law -/
theorem FnExactTellersIn : laws_FnExactTellersIn.Pure := by
  intro p w _ _
  refine ⟨6, ?_⟩
  unfold laws_FnExactTellersIn.f
  rw [stellers p w 6 (by omega), Option.bind_some, itellers, Option.bind_some, if_pos rfl]

end Go.Proofs.Ytfdnlekbmjcbeaa.Pure
