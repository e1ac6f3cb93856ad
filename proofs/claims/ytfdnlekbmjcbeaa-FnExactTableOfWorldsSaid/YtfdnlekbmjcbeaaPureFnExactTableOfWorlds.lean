/- Proved: FnExactTableOfWorlds returns true for every number and every list of numbers. No condition. -/
import Derived.Test.YtfdnlekbmjcbeaaPFnExactTableOfWorldsx1
import Derived.Laws.BitsLemmas
import Derived.Laws.BitsAllLaws
namespace Go.Proofs.Ytfdnlekbmjcbeaa.Pure
open Go.RowKit Go.Proofs.Ytfdnlekbmjcbeaa.PFnExactTableOfWorlds Go.Proofs.YtfdnlekbmjcbeaaW.PrintWords Go.Proofs.YtfdnlekbmjcbeaaW.PrintLast Go.Proofs.YtfdnlekbmjcbeaaW.PrintMore
set_option linter.unusedVariables false
set_option linter.unusedSimpArgs false

/-! ### base: whole numbers -/
theorem w64 {x : Int} (h0 : -9223372036854775808 ≤ x) (h1 : x ≤ 9223372036854775807) : wrap64 x = x := by
  unfold wrap64; omega
theorem wf64 {x : Int} (h : (Lit.int .i64 x).wf = true) : -9223372036854775808 ≤ x ∧ x ≤ 9223372036854775807 := by
  simp only [Lit.wf, IntKind.min, IntKind.max, IntKind.signed, IntKind.bits, Bool.and_eq_true, decide_eq_true_eq, if_true] at h
  omega
theorem wf8 {x : Int} (h : (Lit.int .u8 x).wf = true) : 0 ≤ x ∧ x ≤ 255 := by
  simp only [Lit.wf, IntKind.min, IntKind.max, IntKind.signed, IntKind.bits, Bool.and_eq_true, decide_eq_true_eq] at h
  simpa using h
theorem ofInt_i64 (a : Nat) (ha : a < 18446744073709551616) : (BitVec.ofInt 64 (a : Int)).toNat = a := by
  rw [BitVec.ofInt_natCast, BitVec.toNat_ofNat]; exact Nat.mod_eq_of_lt (by omega)
theorem wrapi (x : Nat) (h : x < 9223372036854775808) : IntKind.i64.wrap (x : Int) = x := by
  rw [IntKind.wrap_i64]; omega
theorem or64 (a b : Nat) (ha : a < 4611686018427387904) (hb : b < 4611686018427387904) : Go.bits .or .i64 (a : Int) (b : Int) = ((a ||| b : Nat) : Int) := by
  have hx : a ||| b < 2 ^ 62 := Nat.or_lt_two_pow (by omega) (by omega)
  show IntKind.i64.wrap ((BitVec.ofInt 64 (a : Int) ||| BitVec.ofInt 64 (b : Int)).toNat : Int) = _
  rw [BitVec.toNat_or, ofInt_i64 a (by omega), ofInt_i64 b (by omega), wrapi _ (by omega)]
theorem and64 (a b : Nat) (ha : a < 4611686018427387904) (hb : b < 4611686018427387904) : Go.bits .and .i64 (a : Int) (b : Int) = ((a &&& b : Nat) : Int) := by
  have hx : a &&& b < 2 ^ 62 := Nat.and_lt_two_pow _ (by omega)
  show IntKind.i64.wrap ((BitVec.ofInt 64 (a : Int) &&& BitVec.ofInt 64 (b : Int)).toNat : Int) = _
  rw [BitVec.toNat_and, ofInt_i64 a (by omega), ofInt_i64 b (by omega), wrapi _ (by omega)]
theorem xor64 (a b : Nat) (ha : a < 4611686018427387904) (hb : b < 4611686018427387904) : Go.bits .xor .i64 (a : Int) (b : Int) = ((a ^^^ b : Nat) : Int) := by
  have hx : a ^^^ b < 2 ^ 62 := Nat.xor_lt_two_pow (by omega) (by omega)
  show IntKind.i64.wrap ((BitVec.ofInt 64 (a : Int) ^^^ BitVec.ofInt 64 (b : Int)).toNat : Int) = _
  rw [BitVec.toNat_xor, ofInt_i64 a (by omega), ofInt_i64 b (by omega), wrapi _ (by omega)]
theorem andnot64 (a b : Nat) (ha : a < 4611686018427387904) (hb : b < 4611686018427387904) : Go.bits .andNot .i64 (a : Int) (b : Int) = ((a &&& (18446744073709551615 - b) : Nat) : Int) := by
  have hx : a &&& (18446744073709551615 - b) < 2 ^ 62 := Nat.lt_of_le_of_lt Nat.and_le_left (by omega)
  show IntKind.i64.wrap ((BitVec.ofInt 64 (a : Int) &&& ~~~BitVec.ofInt 64 (b : Int)).toNat : Int) = _
  rw [BitVec.toNat_and, BitVec.toNat_not, ofInt_i64 a (by omega), ofInt_i64 b (by omega)]
  have e : 2 ^ 64 - 1 - b = 18446744073709551615 - b := by omega
  rw [e, wrapi _ (by omega)]
/-- So many worlds; so many tables. -/
def pw (p : Int) : Int := 2 ^ p.toNat
def tw (p : Int) : Int := 2 ^ (2 ^ p.toNat)
theorem p4 {p : Int} (h0 : 1 ≤ p) (h1 : p ≤ 4) : p = 1 ∨ p = 2 ∨ p = 3 ∨ p = 4 := by omega
theorem pw_of {p : Int} (h0 : 1 ≤ p) (h1 : p ≤ 4) : 2 ≤ pw p ∧ pw p ≤ 16 := by
  rcases p4 h0 h1 with rfl | rfl | rfl | rfl <;> decide
theorem tw_of {p : Int} (h0 : 1 ≤ p) (h1 : p ≤ 4) : 4 ≤ tw p ∧ tw p ≤ 65536 := by
  rcases p4 h0 h1 with rfl | rfl | rfl | rfl <;> decide
theorem tw_pw {p : Int} (h0 : 1 ≤ p) (h1 : p ≤ 4) : tw p = 2 ^ (pw p).toNat := by
  rcases p4 h0 h1 with rfl | rfl | rfl | rfl <;> decide
theorem shl_pw {p : Int} (h0 : 1 ≤ p) (h1 : p ≤ 4) : shl .i64 1 p = pw p := by
  rcases p4 h0 h1 with rfl | rfl | rfl | rfl <;> decide
theorem shlu_pw {p : Int} (h0 : 1 ≤ p) (h1 : p ≤ 4) : shl .u64 1 p = pw p := by
  rcases p4 h0 h1 with rfl | rfl | rfl | rfl <;> decide
theorem shl_tw {p : Int} (h0 : 1 ≤ p) (h1 : p ≤ 4) : shl .i64 1 (pw p) = tw p := by
  rcases p4 h0 h1 with rfl | rfl | rfl | rfl <;> decide
/-- A shift of a small number by a small count. -/
theorem shl_nat (x n : Nat) (hn : n ≤ 16) (hx : x ≤ 65536) : shl .i64 (x : Int) (n : Int) = ((x * 2 ^ n : Nat) : Int) := by
  unfold shl
  have e : min ((n : Int).toNat) (IntKind.i64.bits) = n := by simp [IntKind.bits]; omega
  rw [e]
  have hp : 2 ^ n ≤ 2 ^ 16 := Nat.pow_le_pow_right (by decide) hn
  have hm : x * 2 ^ n ≤ 65536 * 2 ^ 16 := Nat.mul_le_mul hx hp
  have e2 : (x : Int) * 2 ^ n = ((x * 2 ^ n : Nat) : Int) := by simp
  rw [e2, wrapi _ (by omega)]
theorem shr_nat (x n : Nat) (hn : n ≤ 16) : shr .i64 (x : Int) (n : Int) = ((x / 2 ^ n : Nat) : Int) := by
  unfold shr
  have e : min ((n : Int).toNat) (IntKind.i64.bits) = n := by simp [IntKind.bits]; omega
  rw [e]
  simp

theorem rd_at (l : List Int) (i : Nat) (h : i < l.length) : rd l ((i : Nat) : Int) = l[i] := by
  unfold rd
  rw [Int.toNat_natCast, List.getD_eq_getElem?_getD, List.getElem?_eq_getElem h]; rfl
theorem toints_loop (l : List Int) (hn : l.length ≤ 1048576) (d : Nat) : ∀ (i : Nat) (o : List Int), i + d = l.length → o.length = l.length → (∀ j, j < i → o[j]? = l[j]?) → ∀ k, d < k → laws_toIntS.l0 k l o ((i : Nat) : Int) = some l := by
  induction d with
  | zero =>
    intro i o hi ho hj k hk
    obtain ⟨k, rfl⟩ : ∃ m, k = m + 1 := ⟨k - 1, by omega⟩
    rw [laws_toIntS.l0, if_neg (by omega)]
    congr 1
    apply List.ext_getElem? 
    intro j
    by_cases h : j < i
    · exact hj j h
    · rw [List.getElem?_eq_none (by omega), List.getElem?_eq_none (by omega)]
  | succ d ih =>
    intro i o hi ho hj k hk
    obtain ⟨k, rfl⟩ : ∃ m, k = m + 1 := ⟨k - 1, by omega⟩
    rw [laws_toIntS.l0, if_pos (by omega), if_pos (by omega), if_pos (by omega), w64 (by omega) (by omega), rd_at l i (by omega), Int.toNat_natCast]
    have := ih (i + 1) (o.set i l[i]) (by omega) (by rw [List.length_set]; exact ho) (fun j h => by
      rw [List.getElem?_set]
      by_cases e : i = j
      · subst e; rw [if_pos rfl, if_pos (by omega), List.getElem?_eq_getElem (by omega)]
      · rw [if_neg e]; exact hj j (by omega)) k (by omega)
    rw [show ((i + 1 : Nat) : Int) = (i : Int) + 1 by omega] at this
    exact this
theorem toints (l : List Int) (hn : l.length ≤ 1048576) (k : Nat) (hk : l.length < k) : laws_toIntS.f k l = some l := by
  unfold laws_toIntS.f
  rw [if_pos (by omega), if_pos (by omega)]
  exact toints_loop l hn l.length 0 _ (by omega) (by simp) (fun j h => by omega) k hk

theorem eqints_loop (l : List Int) (hn : l.length ≤ 1048576) (d : Nat) : ∀ (i : Nat), i + d = l.length → ∀ k, d < k → laws_eqIntS.l0 k l l ((i : Nat) : Int) = some true := by
  induction d with
  | zero =>
    intro i hi k hk
    obtain ⟨k, rfl⟩ : ∃ m, k = m + 1 := ⟨k - 1, by omega⟩
    rw [laws_eqIntS.l0, if_neg (by omega)]
  | succ d ih =>
    intro i hi k hk
    obtain ⟨k, rfl⟩ : ∃ m, k = m + 1 := ⟨k - 1, by omega⟩
    rw [laws_eqIntS.l0, if_pos (by omega), if_pos (by omega), if_pos (by omega), if_pos rfl, w64 (by omega) (by omega)]
    have := ih (i + 1) (by omega) k (by omega)
    rw [show ((i + 1 : Nat) : Int) = (i : Int) + 1 by omega] at this
    exact this
theorem eqints_self (l : List Int) (hn : l.length ≤ 1048576) (k : Nat) (hk : l.length < k) : laws_eqIntS.f k l l = some true := by
  unfold laws_eqIntS.f
  rw [if_pos rfl]
  exact eqints_loop l hn l.length 0 (by omega) k hk

theorem people_eq (p : Int) : impl_peopleOk.f p = some (decide (1 ≤ p ∧ p ≤ 4)) := by
  unfold impl_peopleOk.f
  by_cases h : p ≥ 1
  · rw [if_pos h]; congr 1; rw [decide_eq_decide]; omega
  · rw [if_neg h]; congr 1; symm; rw [decide_eq_false_iff_not]; omega

def WOk (p w : Int) : Prop := 1 ≤ p ∧ p ≤ 4 ∧ 0 ≤ w ∧ w < pw p
instance (p w : Int) : Decidable (WOk p w) := by unfold WOk; infer_instance
theorem iworld (p w : Int) : impl_WorldOk.f p w = some (decide (WOk p w)) := by
  unfold impl_WorldOk.f
  rw [people_eq, Option.bind_some]
  by_cases h : 1 ≤ p ∧ p ≤ 4
  · rw [if_pos (by simpa using h)]
    by_cases h2 : w ≥ 0
    · rw [if_pos h2, if_pos (by omega), shl_pw h.1 h.2]; congr 1; rw [decide_eq_decide]; unfold WOk; omega
    · rw [if_neg h2]; congr 1; symm; rw [decide_eq_false_iff_not]; unfold WOk; omega
  · rw [if_neg (by simpa using h)]; congr 1; symm; rw [decide_eq_false_iff_not]; unfold WOk; omega

/-- The table of worlds: each world's bit. -/
def towN (l : List Int) : Nat := l.foldl (fun t w => t ||| 2 ^ w.toNat) 0
def tow (p : Int) (l : List Int) : Int := if 1 ≤ p ∧ p ≤ 4 ∧ ∀ w ∈ l, WOk p w then (towN l : Int) else -1
theorem lt16 (a b : Nat) (ha : a < 65536) (hb : b ≤ 15) : a ||| 2 ^ b < 65536 := by
  have h2 : 2 ^ b < 2 ^ 16 := Nat.pow_lt_pow_right (by decide) (by omega)
  have := Nat.or_lt_two_pow (n := 16) (x := a) (y := 2 ^ b) (by omega) h2
  omega
theorem rdw (l : List Int) (i : Nat) (h : i < l.length) : rd l ((i : Nat) : Int) = l[i] := by
  unfold rd
  rw [Int.toNat_natCast, List.getD_eq_getElem?_getD, List.getElem?_eq_getElem h]; rfl
theorem tow_cons (w : Int) (l : List Int) (t : Nat) : l.foldl (fun t w => t ||| 2 ^ w.toNat) (t ||| 2 ^ w.toNat) = (w :: l).foldl (fun t w => t ||| 2 ^ w.toNat) t := rfl

theorem in_eq (a b c : Int) : spec_l1In.f a b c = some (decide (b ≤ a ∧ a ≤ c)) := by
  unfold spec_l1In.f
  by_cases h : a ≥ b
  · rw [if_pos h]; congr 1; rw [decide_eq_decide]; omega
  · rw [if_neg h]; congr 1; symm; rw [decide_eq_false_iff_not]; omega

theorem sworld (p w : Int) : spec_WorldOk.f p w = some (decide (WOk p w)) := by
  unfold spec_WorldOk.f
  rw [in_eq, Option.bind_some]
  by_cases h : 1 ≤ p ∧ p ≤ 4
  · have hb := pw_of h.1 h.2
    rw [if_pos (by simpa using h), if_pos (by omega), shl_pw h.1 h.2, w64 (by omega) (by omega), in_eq, Option.bind_some]
    congr 1; rw [decide_eq_decide]; unfold WOk; omega
  · rw [if_neg (by simpa using h)]; congr 1; symm; rw [decide_eq_false_iff_not]; unfold WOk; omega

theorem stow_loop (p : Int) (hp : 1 ≤ p ∧ p ≤ 4) (l : List Int) (hn : l.length ≤ 1048576) (d : Nat) : ∀ (i t : Nat), i + d = l.length → t < 65536 → ∀ k, d < k →
    spec_TableOfWorlds.l0 k p l (t : Int) ((i : Nat) : Int) = some (if ∀ w ∈ l.drop i, WOk p w then (((l.drop i).foldl (fun t w => t ||| 2 ^ w.toNat) t : Nat) : Int) else -1) := by
  have hb := pw_of hp.1 hp.2
  induction d with
  | zero =>
    intro i t hi ht k hk
    obtain ⟨k, rfl⟩ : ∃ m, k = m + 1 := ⟨k - 1, by omega⟩
    rw [spec_TableOfWorlds.l0, if_neg (by omega), List.drop_of_length_le (by omega), if_pos (by simp)]; rfl
  | succ d ih =>
    intro i t hi ht k hk
    obtain ⟨k, rfl⟩ : ∃ m, k = m + 1 := ⟨k - 1, by omega⟩
    have hlt : i < l.length := by omega
    rw [spec_TableOfWorlds.l0, if_pos (by omega), if_pos (by omega), rdw l i hlt, sworld, Option.bind_some, List.drop_eq_getElem_cons hlt]
    by_cases h : WOk p l[i]
    · have h' := h
      unfold WOk at h'
      obtain ⟨n, hnw⟩ := Int.eq_ofNat_of_zero_le h'.2.2.1
      have e1 : shl .i64 1 ((n : Nat) : Int) = ((2 ^ n : Nat) : Int) := by have := shl_nat 1 n (by omega) (by omega); simpa using this
      have hlt2 := lt16 t n ht (by omega)
      have h2 : 2 ^ n < 2 ^ 16 := Nat.pow_lt_pow_right (by decide) (by omega)
      rw [if_pos (by simpa using h), if_pos (by omega), w64 (by omega) (by omega), hnw, e1, or64 _ _ (by omega) (by omega)]
      have := ih (i + 1) (t ||| 2 ^ n) (by omega) hlt2 k (by omega)
      rw [show ((i + 1 : Nat) : Int) = (i : Int) + 1 by omega] at this
      rw [this, ← hnw]
      congr 1
      simp only [List.mem_cons, forall_eq_or_imp, List.foldl_cons, h, true_and]
      rw [hnw, Int.toNat_natCast]
    · rw [if_neg (by simpa using h), if_neg (fun hh => h (hh _ (List.mem_cons_self ..)))]
theorem stow (p : Int) (l : List Int) (hn : l.length ≤ 1048576) (k : Nat) (hk : l.length < k) : spec_TableOfWorlds.f k p l = some (tow p l) := by
  unfold spec_TableOfWorlds.f
  rw [in_eq, Option.bind_some]
  by_cases hp : 1 ≤ p ∧ p ≤ 4
  · rw [if_pos (by simpa using hp)]
    have := stow_loop p hp l hn l.length 0 0 (by omega) (by omega) k hk
    rw [List.drop_zero] at this
    rw [show (0 : Int) = ((0 : Nat) : Int) from rfl, this]
    unfold tow towN
    simp only [hp, true_and]
  · rw [if_neg (by simpa using hp)]
    unfold tow
    rw [if_neg (by intro h; exact hp ⟨h.1, h.2.1⟩)]

theorem itow_loop (p : Int) (hp : 1 ≤ p ∧ p ≤ 4) (l : List Int) (hn : l.length ≤ 1048576) (d : Nat) : ∀ (i t : Nat), i + d = l.length → t < 65536 → ∀ k, d < k →
    impl_TableOfWorlds.l0 k p (t : Int) l (l.length : Int) ((i : Nat) : Int) = some (if ∀ w ∈ l.drop i, WOk p w then (((l.drop i).foldl (fun t w => t ||| 2 ^ w.toNat) t : Nat) : Int) else -1) := by
  have hb := pw_of hp.1 hp.2
  induction d with
  | zero =>
    intro i t hi ht k hk
    obtain ⟨k, rfl⟩ : ∃ m, k = m + 1 := ⟨k - 1, by omega⟩
    rw [impl_TableOfWorlds.l0, if_neg (by omega), List.drop_of_length_le (by omega), if_pos (by simp)]; rfl
  | succ d ih =>
    intro i t hi ht k hk
    obtain ⟨k, rfl⟩ : ∃ m, k = m + 1 := ⟨k - 1, by omega⟩
    have hlt : i < l.length := by omega
    rw [impl_TableOfWorlds.l0, if_pos (by omega), if_pos (by omega), if_pos (by omega), rdw l i hlt, iworld, Option.bind_some, List.drop_eq_getElem_cons hlt]
    by_cases h : WOk p l[i]
    · have h' := h
      unfold WOk at h'
      obtain ⟨n, hnw⟩ := Int.eq_ofNat_of_zero_le h'.2.2.1
      have e1 : shl .i64 1 ((n : Nat) : Int) = ((2 ^ n : Nat) : Int) := by have := shl_nat 1 n (by omega) (by omega); simpa using this
      have hlt2 := lt16 t n ht (by omega)
      have h2 : 2 ^ n < 2 ^ 16 := Nat.pow_lt_pow_right (by decide) (by omega)
      rw [if_pos (by simpa using h), if_pos (by omega), w64 (by omega) (by omega), hnw, e1, or64 _ _ (by omega) (by omega)]
      have := ih (i + 1) (t ||| 2 ^ n) (by omega) hlt2 k (by omega)
      rw [show ((i + 1 : Nat) : Int) = (i : Int) + 1 by omega] at this
      rw [this, ← hnw]
      congr 1
      simp only [List.mem_cons, forall_eq_or_imp, List.foldl_cons, h, true_and]
      rw [hnw, Int.toNat_natCast]
    · rw [if_neg (by simpa using h), if_neg (fun hh => h (hh _ (List.mem_cons_self ..)))]
theorem itow (p : Int) (l : List Int) (hn : l.length ≤ 1048576) (k : Nat) (hk : l.length < k) : impl_TableOfWorlds.f k p l = some (tow p l) := by
  unfold impl_TableOfWorlds.f
  rw [people_eq, Option.bind_some]
  by_cases hp : 1 ≤ p ∧ p ≤ 4
  · rw [if_pos (by simpa using hp)]
    have := itow_loop p hp l hn l.length 0 0 (by omega) (by omega) k hk
    rw [List.drop_zero] at this
    rw [show (0 : Int) = ((0 : Nat) : Int) from rfl, this]
    unfold tow towN
    simp only [hp, true_and]
  · rw [if_neg (by simpa using hp)]
    unfold tow
    rw [if_neg (by intro h; exact hp ⟨h.1, h.2.1⟩)]

/-! ### the law -/
theorem FnExactTableOfWorlds : laws_FnExactTableOfWorlds.Pure := by
  intro p l _ _ _ hw
  refine ⟨l.length + 2, ?_⟩
  unfold laws_FnExactTableOfWorlds.f
  by_cases hl : (l.length : Int) > 1048576
  · rw [if_pos hl]
  · rw [if_neg hl]
    have hn : l.length ≤ 1048576 := by omega
    rw [toints l hn _ (by omega), Option.bind_some, stow p l hn _ (by omega), Option.bind_some, Option.bind_some, itow p l hn _ (by omega), Option.bind_some, if_pos rfl, Option.bind_some, eqints_self l hn _ (by omega), Option.bind_some, if_pos rfl]

end Go.Proofs.Ytfdnlekbmjcbeaa.Pure
