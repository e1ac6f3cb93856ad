/- Proved: FnExactWorldsIn returns true for every two numbers. No condition. -/
import Derived.Test.YtfdnlekbmjcbeaaPFnExactWorldsInx2
import Derived.Laws.BitsLemmas
import Derived.Laws.BitsAllLaws
namespace Go.Proofs.Ytfdnlekbmjcbeaa.Pure
open Go.RowKit Go.Proofs.Ytfdnlekbmjcbeaa.PFnExactWorldsIn Go.Proofs.YtfdnlekbmjcbeaaW.PrintWords Go.Proofs.YtfdnlekbmjcbeaaW.PrintLast Go.Proofs.YtfdnlekbmjcbeaaW.PrintMore
set_option linter.unusedVariables false
set_option linter.unusedSimpArgs false

/-! ### base: whole numbers -/
theorem w64 {x : Int} (h0 : -9223372036854775808 ≤ x) (h1 : x ≤ 9223372036854775807) : wrap64 x = x := by
  unfold wrap64; omega
theorem wf64 {x : Int} (h : (Lit.int .i64 x).wf = true) : -9223372036854775808 ≤ x ∧ x ≤ 9223372036854775807 := by
  simp only [Lit.wf, IntKind.min, IntKind.max, IntKind.signed, IntKind.bits, Bool.and_eq_true, decide_eq_true_eq, if_true] at h
  omega
theorem wf8 {x : Int} (h : (Lit.int .u8 x).wf = true) : 0 ≤ x ∧ x ≤ 255 := by
  simp only [Lit.wf, IntKind.min, IntKind.max, IntKind.signed, IntKind.bits, Bool.and_eq_true, decide_eq_true_eq] at h
  simpa using h
theorem ofInt_i64 (a : Nat) (ha : a < 18446744073709551616) : (BitVec.ofInt 64 (a : Int)).toNat = a := by
  rw [BitVec.ofInt_natCast, BitVec.toNat_ofNat]; exact Nat.mod_eq_of_lt (by omega)
theorem wrapi (x : Nat) (h : x < 9223372036854775808) : IntKind.i64.wrap (x : Int) = x := by
  rw [IntKind.wrap_i64]; omega
theorem or64 (a b : Nat) (ha : a < 4611686018427387904) (hb : b < 4611686018427387904) : Go.bits .or .i64 (a : Int) (b : Int) = ((a ||| b : Nat) : Int) := by
  have hx : a ||| b < 2 ^ 62 := Nat.or_lt_two_pow (by omega) (by omega)
  show IntKind.i64.wrap ((BitVec.ofInt 64 (a : Int) ||| BitVec.ofInt 64 (b : Int)).toNat : Int) = _
  rw [BitVec.toNat_or, ofInt_i64 a (by omega), ofInt_i64 b (by omega), wrapi _ (by omega)]
theorem and64 (a b : Nat) (ha : a < 4611686018427387904) (hb : b < 4611686018427387904) : Go.bits .and .i64 (a : Int) (b : Int) = ((a &&& b : Nat) : Int) := by
  have hx : a &&& b < 2 ^ 62 := Nat.and_lt_two_pow _ (by omega)
  show IntKind.i64.wrap ((BitVec.ofInt 64 (a : Int) &&& BitVec.ofInt 64 (b : Int)).toNat : Int) = _
  rw [BitVec.toNat_and, ofInt_i64 a (by omega), ofInt_i64 b (by omega), wrapi _ (by omega)]
theorem xor64 (a b : Nat) (ha : a < 4611686018427387904) (hb : b < 4611686018427387904) : Go.bits .xor .i64 (a : Int) (b : Int) = ((a ^^^ b : Nat) : Int) := by
  have hx : a ^^^ b < 2 ^ 62 := Nat.xor_lt_two_pow (by omega) (by omega)
  show IntKind.i64.wrap ((BitVec.ofInt 64 (a : Int) ^^^ BitVec.ofInt 64 (b : Int)).toNat : Int) = _
  rw [BitVec.toNat_xor, ofInt_i64 a (by omega), ofInt_i64 b (by omega), wrapi _ (by omega)]
theorem andnot64 (a b : Nat) (ha : a < 4611686018427387904) (hb : b < 4611686018427387904) : Go.bits .andNot .i64 (a : Int) (b : Int) = ((a &&& (18446744073709551615 - b) : Nat) : Int) := by
  have hx : a &&& (18446744073709551615 - b) < 2 ^ 62 := Nat.lt_of_le_of_lt Nat.and_le_left (by omega)
  show IntKind.i64.wrap ((BitVec.ofInt 64 (a : Int) &&& ~~~BitVec.ofInt 64 (b : Int)).toNat : Int) = _
  rw [BitVec.toNat_and, BitVec.toNat_not, ofInt_i64 a (by omega), ofInt_i64 b (by omega)]
  have e : 2 ^ 64 - 1 - b = 18446744073709551615 - b := by omega
  rw [e, wrapi _ (by omega)]
/-- So many worlds; so many tables. -/
def pw (p : Int) : Int := 2 ^ p.toNat
def tw (p : Int) : Int := 2 ^ (2 ^ p.toNat)
theorem p4 {p : Int} (h0 : 1 ≤ p) (h1 : p ≤ 4) : p = 1 ∨ p = 2 ∨ p = 3 ∨ p = 4 := by omega
theorem pw_of {p : Int} (h0 : 1 ≤ p) (h1 : p ≤ 4) : 2 ≤ pw p ∧ pw p ≤ 16 := by
  rcases p4 h0 h1 with rfl | rfl | rfl | rfl <;> decide
theorem tw_of {p : Int} (h0 : 1 ≤ p) (h1 : p ≤ 4) : 4 ≤ tw p ∧ tw p ≤ 65536 := by
  rcases p4 h0 h1 with rfl | rfl | rfl | rfl <;> decide
theorem tw_pw {p : Int} (h0 : 1 ≤ p) (h1 : p ≤ 4) : tw p = 2 ^ (pw p).toNat := by
  rcases p4 h0 h1 with rfl | rfl | rfl | rfl <;> decide
theorem shl_pw {p : Int} (h0 : 1 ≤ p) (h1 : p ≤ 4) : shl .i64 1 p = pw p := by
  rcases p4 h0 h1 with rfl | rfl | rfl | rfl <;> decide
theorem shlu_pw {p : Int} (h0 : 1 ≤ p) (h1 : p ≤ 4) : shl .u64 1 p = pw p := by
  rcases p4 h0 h1 with rfl | rfl | rfl | rfl <;> decide
theorem shl_tw {p : Int} (h0 : 1 ≤ p) (h1 : p ≤ 4) : shl .i64 1 (pw p) = tw p := by
  rcases p4 h0 h1 with rfl | rfl | rfl | rfl <;> decide
/-- A shift of a small number by a small count. -/
theorem shl_nat (x n : Nat) (hn : n ≤ 16) (hx : x ≤ 65536) : shl .i64 (x : Int) (n : Int) = ((x * 2 ^ n : Nat) : Int) := by
  unfold shl
  have e : min ((n : Int).toNat) (IntKind.i64.bits) = n := by simp [IntKind.bits]; omega
  rw [e]
  have hp : 2 ^ n ≤ 2 ^ 16 := Nat.pow_le_pow_right (by decide) hn
  have hm : x * 2 ^ n ≤ 65536 * 2 ^ 16 := Nat.mul_le_mul hx hp
  have e2 : (x : Int) * 2 ^ n = ((x * 2 ^ n : Nat) : Int) := by simp
  rw [e2, wrapi _ (by omega)]
theorem shr_nat (x n : Nat) (hn : n ≤ 16) : shr .i64 (x : Int) (n : Int) = ((x / 2 ^ n : Nat) : Int) := by
  unfold shr
  have e : min ((n : Int).toNat) (IntKind.i64.bits) = n := by simp [IntKind.bits]; omega
  rw [e]
  simp

theorem people_eq (p : Int) : impl_peopleOk.f p = some (decide (1 ≤ p ∧ p ≤ 4)) := by
  unfold impl_peopleOk.f
  by_cases h : p ≥ 1
  · rw [if_pos h]; congr 1; rw [decide_eq_decide]; omega
  · rw [if_neg h]; congr 1; symm; rw [decide_eq_false_iff_not]; omega

def TOk (p t : Int) : Prop := 1 ≤ p ∧ p ≤ 4 ∧ 0 ≤ t ∧ t < tw p
instance (p w : Int) : Decidable (TOk p w) := by unfold TOk; infer_instance
theorem itable (p t : Int) : impl_TableOk.f p t = some (decide (TOk p t)) := by
  unfold impl_TableOk.f
  rw [people_eq, Option.bind_some]
  by_cases h : 1 ≤ p ∧ p ≤ 4
  · rw [if_pos (by simpa using h)]
    by_cases h2 : t ≥ 0
    · rw [if_pos h2, if_pos (by omega), shlu_pw h.1 h.2, shl_tw h.1 h.2]; congr 1; rw [decide_eq_decide]; unfold TOk; omega
    · rw [if_neg h2]; congr 1; symm; rw [decide_eq_false_iff_not]; unfold TOk; omega
  · rw [if_neg (by simpa using h)]; congr 1; symm; rw [decide_eq_false_iff_not]; unfold TOk; omega

/-- The worlds of a table, in ascending order. -/
def winN (n t : Nat) : List Int := ((List.range n).filter (fun w => t / 2 ^ w % 2 = 1)).map (fun w => ((w : Nat) : Int))
def win (p t : Int) : List Int := if TOk p t then winN (pw p).toNat t.toNat else []
theorem winN_len (n t : Nat) : (winN n t).length ≤ n := by
  unfold winN
  rw [List.length_map]
  exact Nat.le_trans (List.length_filter_le _ _) (by simp)
theorem win_len (p t : Int) : (win p t).length ≤ 16 := by
  unfold win
  by_cases h : TOk p t
  · rw [if_pos h]
    unfold TOk at h
    have hb := pw_of h.1 h.2.1
    have := winN_len (pw p).toNat t.toNat
    omega
  · rw [if_neg h]; simp
theorem winN_succ (n t : Nat) : winN (n + 1) t = winN n t ++ (if t / 2 ^ n % 2 = 1 then [((n : Nat) : Int)] else []) := by
  unfold winN
  rw [List.range_succ, List.filter_append, List.map_append]
  congr 1
  by_cases h : t / 2 ^ n % 2 = 1 <;> simp [h]

theorem in_eq (a b c : Int) : spec_l1In.f a b c = some (decide (b ≤ a ∧ a ≤ c)) := by
  unfold spec_l1In.f
  by_cases h : a ≥ b
  · rw [if_pos h]; congr 1; rw [decide_eq_decide]; omega
  · rw [if_neg h]; congr 1; symm; rw [decide_eq_false_iff_not]; omega

theorem stable (p t : Int) : spec_TableOk.f p t = some (decide (TOk p t)) := by
  unfold spec_TableOk.f
  rw [in_eq, Option.bind_some]
  by_cases h : 1 ≤ p ∧ p ≤ 4
  · have hb := tw_of h.1 h.2
    rw [if_pos (by simpa using h), if_pos (by omega), shlu_pw h.1 h.2, shl_tw h.1 h.2, w64 (by omega) (by omega), in_eq, Option.bind_some]
    congr 1; rw [decide_eq_decide]; unfold TOk; omega
  · rw [if_neg (by simpa using h)]; congr 1; symm; rw [decide_eq_false_iff_not]; unfold TOk; omega

theorem swin_loop (p : Int) (t : Nat) (h : TOk p (t : Int)) (d : Nat) : ∀ i : Nat, (i : Int) + d = pw p → ∀ k, 2 * d + 1 < k →
    spec_WorldsIn.l0 k p (t : Int) (winN i t) ((i : Nat) : Int) = some (winN (pw p).toNat t) := by
  have h' := h
  unfold TOk at h'
  have hb := pw_of h'.1 h'.2.1
  have hb2 := tw_of h'.1 h'.2.1
  induction d with
  | zero =>
    intro i hi k hk
    obtain ⟨k, rfl⟩ : ∃ m, k = m + 2 := ⟨k - 2, by omega⟩
    have : i = (pw p).toNat := by omega
    rw [spec_WorldsIn.l0, stable, Option.bind_some, if_pos (by simpa using h), if_pos (by omega), shl_pw h'.1 h'.2.1, spec_WorldsIn.j1, if_neg (by simp; omega), this]
  | succ d ih =>
    intro i hi k hk
    obtain ⟨k, rfl⟩ : ∃ m, k = m + 2 := ⟨k - 2, by omega⟩
    have hbd : t / 2 ^ i ≤ t := Nat.div_le_self _ _
    have e : Int.tmod (shr .i64 (t : Int) (i : Int)) 2 = ((t / 2 ^ i % 2 : Nat) : Int) := by
      rw [shr_nat t i (by omega), Int.tmod_eq_emod_of_nonneg (Int.natCast_nonneg _)]
      simp
    have := ih (i + 1) (by omega) k (by omega)
    rw [show ((i + 1 : Nat) : Int) = (i : Int) + 1 by omega, winN_succ] at this
    have hl := winN_len i t
    rw [spec_WorldsIn.l0, stable, Option.bind_some, if_pos (by simpa using h), if_pos (by omega), shl_pw h'.1 h'.2.1, spec_WorldsIn.j1, if_pos (by simp; omega), if_pos (by omega), e]
    by_cases hbit : t / 2 ^ i % 2 = 1
    · rw [if_pos (by omega), if_pos (by omega), w64 (by omega) (by omega)]
      rw [if_pos hbit] at this
      exact this
    · rw [if_neg (by omega), w64 (by omega) (by omega)]
      rw [if_neg hbit, List.append_nil] at this
      exact this
theorem swin (p t : Int) (k : Nat) (hk : 34 < k) : spec_WorldsIn.f k p t = some (win p t) := by
  unfold spec_WorldsIn.f win
  by_cases h : TOk p t
  · have h' := h
    unfold TOk at h'
    have hb := pw_of h'.1 h'.2.1
    rw [if_pos h]
    obtain ⟨n, rfl⟩ := Int.eq_ofNat_of_zero_le h'.2.2.1
    have := swin_loop p n h (pw p).toNat 0 (by omega) k (by omega)
    exact this
  · rw [if_neg h]
    obtain ⟨k, rfl⟩ : ∃ m, k = m + 2 := ⟨k - 2, by omega⟩
    rw [spec_WorldsIn.l0, stable, Option.bind_some, if_neg (by simpa using h), spec_WorldsIn.j1, if_neg (by simp)]

theorem iwin_loop (n t : Nat) (hn : n ≤ 16) (ht : t < 65536) (d : Nat) : ∀ i : Nat, i + d = n → ∀ k, d < k →
    impl_WorldsIn.l0 k (t : Int) (winN i t) (n : Int) ((i : Nat) : Int) = some (winN n t) := by
  induction d with
  | zero =>
    intro i hi k hk
    obtain ⟨k, rfl⟩ : ∃ m, k = m + 1 := ⟨k - 1, by omega⟩
    have : i = n := by omega
    subst this
    rw [impl_WorldsIn.l0, if_neg (by omega)]
  | succ d ih =>
    intro i hi k hk
    obtain ⟨k, rfl⟩ : ∃ m, k = m + 1 := ⟨k - 1, by omega⟩
    have hb : t / 2 ^ i ≤ t := Nat.div_le_self _ _
    have e : Go.bits .and .i64 (shr .i64 (t : Int) (i : Int)) 1 = ((t / 2 ^ i % 2 : Nat) : Int) := by
      rw [shr_nat t i (by omega)]
      have := and64 (t / 2 ^ i) 1 (by omega) (by omega)
      rw [Nat.and_one_is_mod] at this
      exact this
    have := ih (i + 1) (by omega) k (by omega)
    rw [show ((i + 1 : Nat) : Int) = (i : Int) + 1 by omega, winN_succ] at this
    have hl := winN_len i t
    rw [impl_WorldsIn.l0, if_pos (by omega), if_pos (by omega), e]
    by_cases h : t / 2 ^ i % 2 = 1
    · rw [if_pos (by omega), if_pos (by omega), w64 (by omega) (by omega)]
      rw [if_pos h] at this
      exact this
    · rw [if_neg (by omega), w64 (by omega) (by omega)]
      rw [if_neg h, List.append_nil] at this
      exact this
theorem iwin (p t : Int) (k : Nat) (hk : 16 < k) : impl_WorldsIn.f k p t = some (win p t) := by
  unfold impl_WorldsIn.f win
  rw [itable, Option.bind_some]
  by_cases h : TOk p t
  · have h' := h
    unfold TOk at h'
    have hb := pw_of h'.1 h'.2.1
    have hb2 := tw_of h'.1 h'.2.1
    rw [if_pos (by simpa using h), if_pos (by omega), shl_pw h'.1 h'.2.1, if_pos h]
    have := iwin_loop (pw p).toNat t.toNat (by omega) (by omega) (pw p).toNat 0 (by omega) k (by omega)
    rw [show ((t.toNat : Nat) : Int) = t by omega, show (((pw p).toNat : Nat) : Int) = pw p by omega] at this
    exact this
  · rw [if_neg (by simpa using h), if_neg h]

theorem eqints_loop (l : List Int) (hn : l.length ≤ 1048576) (d : Nat) : ∀ (i : Nat), i + d = l.length → ∀ k, d < k → laws_eqIntS.l0 k l l ((i : Nat) : Int) = some true := by
  induction d with
  | zero =>
    intro i hi k hk
    obtain ⟨k, rfl⟩ : ∃ m, k = m + 1 := ⟨k - 1, by omega⟩
    rw [laws_eqIntS.l0, if_neg (by omega)]
  | succ d ih =>
    intro i hi k hk
    obtain ⟨k, rfl⟩ : ∃ m, k = m + 1 := ⟨k - 1, by omega⟩
    rw [laws_eqIntS.l0, if_pos (by omega), if_pos (by omega), if_pos (by omega), if_pos rfl, w64 (by omega) (by omega)]
    have := ih (i + 1) (by omega) k (by omega)
    rw [show ((i + 1 : Nat) : Int) = (i : Int) + 1 by omega] at this
    exact this
theorem eqints_self (l : List Int) (hn : l.length ≤ 1048576) (k : Nat) (hk : l.length < k) : laws_eqIntS.f k l l = some true := by
  unfold laws_eqIntS.f
  rw [if_pos rfl]
  exact eqints_loop l hn l.length 0 (by omega) k hk

/-- What 'mark' leaves: numbers from m on. -/
def upfrom (m : Int) (n : Nat) : List Int := (List.range n).map (fun j => m + ((j : Nat) : Int))
theorem upfrom_len (m : Int) (n : Nat) : (upfrom m n).length = n := by simp [upfrom]
theorem upfrom_at (m : Int) (n j : Nat) (h : j < n) : (upfrom m n)[j]? = some (m + (j : Int)) := by simp [upfrom, h]
theorem mark_loop (n : Nat) (hn : n ≤ 1048576) (d : Nat) : ∀ (i : Nat) (l : List Int), l.length = n → i + d = n → (∀ j, j < i → l[j]? = some (1 + (j : Int))) → ∀ k, d < k →
    laws_markIntS.l0 k l (1 + (i : Int)) ((i : Nat) : Int) = some (1 + (n : Int), upfrom 1 n) := by
  induction d with
  | zero =>
    intro i l hl hi hj k hk
    obtain ⟨k, rfl⟩ : ∃ m, k = m + 1 := ⟨k - 1, by omega⟩
    have e : l = upfrom 1 n := by
      apply List.ext_getElem?
      intro j
      by_cases h : j < n
      · rw [hj j (by omega), upfrom_at 1 n j h]
      · rw [List.getElem?_eq_none (by omega), List.getElem?_eq_none (by rw [upfrom_len]; omega)]
    rw [laws_markIntS.l0, if_neg (by omega), e, show i = n by omega]
  | succ d ih =>
    intro i l hl hi hj k hk
    obtain ⟨k, rfl⟩ : ∃ m, k = m + 1 := ⟨k - 1, by omega⟩
    have := ih (i + 1) (l.set i (1 + (i : Int))) (by rw [List.length_set]; exact hl) (by omega) (fun j h => by
      rw [List.getElem?_set]
      by_cases e : i = j
      · subst e; rw [if_pos rfl, if_pos (by omega)]
      · rw [if_neg e]; exact hj j (by omega)) k (by omega)
    rw [laws_markIntS.l0, if_pos (by omega), if_pos (by omega), w64 (by omega) (by omega), w64 (by omega) (by omega), Int.toNat_natCast]
    rw [show ((i + 1 : Nat) : Int) = (i : Int) + 1 by omega] at this
    rw [show 1 + (i : Int) + 1 = 1 + ((i : Int) + 1) by omega]
    exact this
theorem held_loop (n : Nat) (hn : n ≤ 1048576) (d : Nat) : ∀ (i : Nat), i + d = n → ∀ k, d < k →
    laws_heldIntS.l0 k (upfrom 1 n) (1 + (i : Int)) ((i : Nat) : Int) = some (1 + (n : Int)) := by
  induction d with
  | zero =>
    intro i hi k hk
    obtain ⟨k, rfl⟩ : ∃ m, k = m + 1 := ⟨k - 1, by omega⟩
    have := upfrom_len 1 n
    rw [laws_heldIntS.l0, if_neg (by omega), show i = n by omega]
  | succ d ih =>
    intro i hi k hk
    obtain ⟨k, rfl⟩ : ∃ m, k = m + 1 := ⟨k - 1, by omega⟩
    have hl := upfrom_len 1 n
    have e : rd (upfrom 1 n) ((i : Nat) : Int) = 1 + (i : Int) := by
      unfold rd
      rw [Int.toNat_natCast, List.getD_eq_getElem?_getD, upfrom_at 1 n i (by omega)]; rfl
    have := ih (i + 1) (by omega) k (by omega)
    rw [laws_heldIntS.l0, if_pos (by omega), if_pos (by omega), e, if_pos rfl, w64 (by omega) (by omega), w64 (by omega) (by omega)]
    rw [show ((i + 1 : Nat) : Int) = (i : Int) + 1 by omega] at this
    rw [show 1 + (i : Int) + 1 = 1 + ((i : Int) + 1) by omega]
    exact this
theorem markheld (l : List Int) (k : Nat) (hl : l.length ≤ 1048576) (hk : l.length < k) : ∃ m l', (laws_markIntS.f k l 1 = some (m, l') ∧ 1 ≤ m) ∧ laws_heldIntS.f k l' 1 = some m := by
  refine ⟨1 + l.length, upfrom 1 l.length, ⟨?_, by omega⟩, ?_⟩
  · unfold laws_markIntS.f
    exact mark_loop l.length hl l.length 0 l rfl (by omega) (fun j h => by omega) k hk
  · unfold laws_heldIntS.f
    exact held_loop l.length hl l.length 0 (by omega) k hk

/-! ### the law -/
theorem FnExactWorldsIn : laws_FnExactWorldsIn.Pure := by
  intro p t _ _
  have hl := win_len p t
  refine ⟨40, ?_⟩
  unfold laws_FnExactWorldsIn.f
  rw [swin p t 40 (by omega), Option.bind_some, iwin p t 40 (by omega), Option.bind_some, eqints_self _ (by omega) 40 (by omega), Option.bind_some, if_pos rfl]
  obtain ⟨m, l', hm, hh⟩ := markheld (win p t) 40 (by omega) (by omega)
  rw [hm.1]; simp only [Option.bind_some]
  rw [hh]; simp only [Option.bind_some]
  rw [if_neg (by omega), if_pos trivial, eqints_self _ (by omega) 40 (by omega), Option.bind_some, if_pos rfl, if_neg (by omega), if_pos trivial]

end Go.Proofs.Ytfdnlekbmjcbeaa.Pure
