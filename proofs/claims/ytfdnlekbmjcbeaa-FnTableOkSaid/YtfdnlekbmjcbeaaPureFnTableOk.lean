/- Proved: FnTableOk returns true for every code of bytes. No condition. -/
import Derived.Test.YtfdnlekbmjcbeaaPFnTableOkx2
import Derived.Laws.BitsLemmas
import Derived.Laws.BitsAllLaws
namespace Go.Proofs.Ytfdnlekbmjcbeaa.Pure
open Go.RowKit Go.Proofs.Ytfdnlekbmjcbeaa.PFnTableOk Go.Proofs.YtfdnlekbmjcbeaaW.PrintWords Go.Proofs.YtfdnlekbmjcbeaaW.PrintLast Go.Proofs.YtfdnlekbmjcbeaaW.PrintMore
set_option linter.unusedVariables false
set_option linter.unusedSimpArgs false

/-! ### base: whole numbers -/
theorem w64 {x : Int} (h0 : -9223372036854775808 ≤ x) (h1 : x ≤ 9223372036854775807) : wrap64 x = x := by
  unfold wrap64; omega
theorem wf64 {x : Int} (h : (Lit.int .i64 x).wf = true) : -9223372036854775808 ≤ x ∧ x ≤ 9223372036854775807 := by
  simp only [Lit.wf, IntKind.min, IntKind.max, IntKind.signed, IntKind.bits, Bool.and_eq_true, decide_eq_true_eq, if_true] at h
  omega
theorem wf8 {x : Int} (h : (Lit.int .u8 x).wf = true) : 0 ≤ x ∧ x ≤ 255 := by
  simp only [Lit.wf, IntKind.min, IntKind.max, IntKind.signed, IntKind.bits, Bool.and_eq_true, decide_eq_true_eq] at h
  simpa using h
theorem ofInt_i64 (a : Nat) (ha : a < 18446744073709551616) : (BitVec.ofInt 64 (a : Int)).toNat = a := by
  rw [BitVec.ofInt_natCast, BitVec.toNat_ofNat]; exact Nat.mod_eq_of_lt (by omega)
theorem wrapi (x : Nat) (h : x < 9223372036854775808) : IntKind.i64.wrap (x : Int) = x := by
  rw [IntKind.wrap_i64]; omega
theorem or64 (a b : Nat) (ha : a < 4611686018427387904) (hb : b < 4611686018427387904) : Go.bits .or .i64 (a : Int) (b : Int) = ((a ||| b : Nat) : Int) := by
  have hx : a ||| b < 2 ^ 62 := Nat.or_lt_two_pow (by omega) (by omega)
  show IntKind.i64.wrap ((BitVec.ofInt 64 (a : Int) ||| BitVec.ofInt 64 (b : Int)).toNat : Int) = _
  rw [BitVec.toNat_or, ofInt_i64 a (by omega), ofInt_i64 b (by omega), wrapi _ (by omega)]
theorem and64 (a b : Nat) (ha : a < 4611686018427387904) (hb : b < 4611686018427387904) : Go.bits .and .i64 (a : Int) (b : Int) = ((a &&& b : Nat) : Int) := by
  have hx : a &&& b < 2 ^ 62 := Nat.and_lt_two_pow _ (by omega)
  show IntKind.i64.wrap ((BitVec.ofInt 64 (a : Int) &&& BitVec.ofInt 64 (b : Int)).toNat : Int) = _
  rw [BitVec.toNat_and, ofInt_i64 a (by omega), ofInt_i64 b (by omega), wrapi _ (by omega)]
theorem xor64 (a b : Nat) (ha : a < 4611686018427387904) (hb : b < 4611686018427387904) : Go.bits .xor .i64 (a : Int) (b : Int) = ((a ^^^ b : Nat) : Int) := by
  have hx : a ^^^ b < 2 ^ 62 := Nat.xor_lt_two_pow (by omega) (by omega)
  show IntKind.i64.wrap ((BitVec.ofInt 64 (a : Int) ^^^ BitVec.ofInt 64 (b : Int)).toNat : Int) = _
  rw [BitVec.toNat_xor, ofInt_i64 a (by omega), ofInt_i64 b (by omega), wrapi _ (by omega)]
theorem andnot64 (a b : Nat) (ha : a < 4611686018427387904) (hb : b < 4611686018427387904) : Go.bits .andNot .i64 (a : Int) (b : Int) = ((a &&& (18446744073709551615 - b) : Nat) : Int) := by
  have hx : a &&& (18446744073709551615 - b) < 2 ^ 62 := Nat.lt_of_le_of_lt Nat.and_le_left (by omega)
  show IntKind.i64.wrap ((BitVec.ofInt 64 (a : Int) &&& ~~~BitVec.ofInt 64 (b : Int)).toNat : Int) = _
  rw [BitVec.toNat_and, BitVec.toNat_not, ofInt_i64 a (by omega), ofInt_i64 b (by omega)]
  have e : 2 ^ 64 - 1 - b = 18446744073709551615 - b := by omega
  rw [e, wrapi _ (by omega)]
/-- So many worlds; so many tables. -/
def pw (p : Int) : Int := 2 ^ p.toNat
def tw (p : Int) : Int := 2 ^ (2 ^ p.toNat)
theorem p4 {p : Int} (h0 : 1 ≤ p) (h1 : p ≤ 4) : p = 1 ∨ p = 2 ∨ p = 3 ∨ p = 4 := by omega
theorem pw_of {p : Int} (h0 : 1 ≤ p) (h1 : p ≤ 4) : 2 ≤ pw p ∧ pw p ≤ 16 := by
  rcases p4 h0 h1 with rfl | rfl | rfl | rfl <;> decide
theorem tw_of {p : Int} (h0 : 1 ≤ p) (h1 : p ≤ 4) : 4 ≤ tw p ∧ tw p ≤ 65536 := by
  rcases p4 h0 h1 with rfl | rfl | rfl | rfl <;> decide
theorem tw_pw {p : Int} (h0 : 1 ≤ p) (h1 : p ≤ 4) : tw p = 2 ^ (pw p).toNat := by
  rcases p4 h0 h1 with rfl | rfl | rfl | rfl <;> decide
theorem shl_pw {p : Int} (h0 : 1 ≤ p) (h1 : p ≤ 4) : shl .i64 1 p = pw p := by
  rcases p4 h0 h1 with rfl | rfl | rfl | rfl <;> decide
theorem shlu_pw {p : Int} (h0 : 1 ≤ p) (h1 : p ≤ 4) : shl .u64 1 p = pw p := by
  rcases p4 h0 h1 with rfl | rfl | rfl | rfl <;> decide
theorem shl_tw {p : Int} (h0 : 1 ≤ p) (h1 : p ≤ 4) : shl .i64 1 (pw p) = tw p := by
  rcases p4 h0 h1 with rfl | rfl | rfl | rfl <;> decide
/-- A shift of a small number by a small count. -/
theorem shl_nat (x n : Nat) (hn : n ≤ 16) (hx : x ≤ 65536) : shl .i64 (x : Int) (n : Int) = ((x * 2 ^ n : Nat) : Int) := by
  unfold shl
  have e : min ((n : Int).toNat) (IntKind.i64.bits) = n := by simp [IntKind.bits]; omega
  rw [e]
  have hp : 2 ^ n ≤ 2 ^ 16 := Nat.pow_le_pow_right (by decide) hn
  have hm : x * 2 ^ n ≤ 65536 * 2 ^ 16 := Nat.mul_le_mul hx hp
  have e2 : (x : Int) * 2 ^ n = ((x * 2 ^ n : Nat) : Int) := by simp
  rw [e2, wrapi _ (by omega)]
theorem shr_nat (x n : Nat) (hn : n ≤ 16) : shr .i64 (x : Int) (n : Int) = ((x / 2 ^ n : Nat) : Int) := by
  unfold shr
  have e : min ((n : Int).toNat) (IntKind.i64.bits) = n := by simp [IntKind.bits]; omega
  rw [e]
  simp

theorem in_eq (a b c : Int) : spec_l1In.f a b c = some (decide (b ≤ a ∧ a ≤ c)) := by
  unfold spec_l1In.f
  by_cases h : a ≥ b
  · rw [if_pos h]; congr 1; rw [decide_eq_decide]; omega
  · rw [if_neg h]; congr 1; symm; rw [decide_eq_false_iff_not]; omega

theorem people_eq (p : Int) : impl_peopleOk.f p = some (decide (1 ≤ p ∧ p ≤ 4)) := by
  unfold impl_peopleOk.f
  by_cases h : p ≥ 1
  · rw [if_pos h]; congr 1; rw [decide_eq_decide]; omega
  · rw [if_neg h]; congr 1; symm; rw [decide_eq_false_iff_not]; omega

def TOk (p t : Int) : Prop := 1 ≤ p ∧ p ≤ 4 ∧ 0 ≤ t ∧ t < tw p
instance (p w : Int) : Decidable (TOk p w) := by unfold TOk; infer_instance
theorem itable (p t : Int) : impl_TableOk.f p t = some (decide (TOk p t)) := by
  unfold impl_TableOk.f
  rw [people_eq, Option.bind_some]
  by_cases h : 1 ≤ p ∧ p ≤ 4
  · rw [if_pos (by simpa using h)]
    by_cases h2 : t ≥ 0
    · rw [if_pos h2, if_pos (by omega), shlu_pw h.1 h.2, shl_tw h.1 h.2]; congr 1; rw [decide_eq_decide]; unfold TOk; omega
    · rw [if_neg h2]; congr 1; symm; rw [decide_eq_false_iff_not]; unfold TOk; omega
  · rw [if_neg (by simpa using h)]; congr 1; symm; rw [decide_eq_false_iff_not]; unfold TOk; omega

theorem stable (p t : Int) : spec_TableOk.f p t = some (decide (TOk p t)) := by
  unfold spec_TableOk.f
  rw [in_eq, Option.bind_some]
  by_cases h : 1 ≤ p ∧ p ≤ 4
  · have hb := tw_of h.1 h.2
    rw [if_pos (by simpa using h), if_pos (by omega), shlu_pw h.1 h.2, shl_tw h.1 h.2, w64 (by omega) (by omega), in_eq, Option.bind_some]
    congr 1; rw [decide_eq_decide]; unfold TOk; omega
  · rw [if_neg (by simpa using h)]; congr 1; symm; rw [decide_eq_false_iff_not]; unfold TOk; omega

/-- The bytes that are drawn from. -/
def Bytes (l : List Int) : Prop := l.length ≤ 2000 ∧ ∀ x ∈ l, 0 ≤ x ∧ x ≤ 255
theorem open_ok (l : List Int) (h : ∀ x ∈ l, (Lit.int .u8 x).wf = true) : ∃ b, Bytes b ∧ spec_l20Open.f l = some (b, 0) := by
  unfold spec_l20Open.f
  by_cases hl : (l.length : Int) > 2000
  · refine ⟨l.take 2000, ⟨by simp; omega, fun x hx => wf8 (h x (List.mem_of_mem_take hx))⟩, ?_⟩
    rw [if_pos hl, if_pos (by omega)]
  · exact ⟨l, ⟨by omega, fun x hx => wf8 (h x hx)⟩, by rw [if_neg hl]⟩

theorem rd_byte {b : List Int} (h : Bytes b) (i : Int) : 0 ≤ rd b i ∧ rd b i ≤ 255 := by
  unfold rd
  rw [List.getD_eq_getElem?_getD]
  by_cases hi : i.toNat < b.length
  · rw [List.getElem?_eq_getElem hi, Option.getD_some]; exact h.2 _ (List.getElem_mem hi)
  · rw [List.getElem?_eq_none (by omega)]; decide
theorem pick_ok {b : List Int} (hb : Bytes b) (pos n : Int) (h0 : 0 ≤ pos) (h1 : pos ≤ 1000000000) :
    ∃ r, (0 ≤ r ∧ (1 ≤ n → r < n) ∧ (n < 1 → r = 0)) ∧ ∀ k, spec_l20Rd_pick.f (k + 1) b pos n = some (r, pos + 1) := by
  have hl := hb.1
  have e1 : wrap64 (pos + 1) = pos + 1 := w64 (by omega) (by omega)
  have e2 : wrap64 (pos + 1 - 1) = pos := by rw [w64 (by omega) (by omega)]; omega
  by_cases hn : n < 1
  · refine ⟨0, ⟨by omega, by omega, fun _ => rfl⟩, fun k => ?_⟩
    unfold spec_l20Rd_pick.f
    rw [if_pos hn, e1]; rw [spec_l20Rd_pick.j0]; rw [if_pos rfl]
  · by_cases hz : b.length = 0
    · refine ⟨0, ⟨by omega, by omega, fun _ => rfl⟩, fun k => ?_⟩
      unfold spec_l20Rd_pick.f
      rw [if_neg hn, e1]; rw [spec_l20Rd_pick.j0]; rw [if_pos (by simp; exact List.eq_nil_of_length_eq_zero hz)]
    · by_cases hp : pos < (b.length : Int)
      · have hr := rd_byte hb pos
        refine ⟨Int.tmod (rd b pos) n, ⟨Int.tmod_nonneg _ hr.1, fun _ => Int.tmod_lt_of_pos _ (by omega), by omega⟩, fun k => ?_⟩
        unfold spec_l20Rd_pick.f
        rw [if_neg hn, e1]; rw [spec_l20Rd_pick.j0]
        rw [if_neg (by simp; exact List.ne_nil_of_length_pos (by omega)), e2, if_pos hp, if_pos h0, if_neg (by omega), w64 (x := rd b pos) (by omega) (by omega)]
      · have hr1 := rd_byte hb (Int.tmod pos (b.length : Int))
        have em : wrap64 (wrap64 (pos * 7) + 3) = pos * 7 + 3 := by rw [w64 (x := pos * 7) (by omega) (by omega), w64 (by omega) (by omega)]
        have hr2 := rd_byte hb (Int.tmod (pos * 7 + 3) (b.length : Int))
        have hd : 0 ≤ Int.tdiv pos (b.length : Int) ∧ Int.tdiv pos (b.length : Int) ≤ pos := ⟨Int.tdiv_nonneg h0 (by omega), by rw [Int.tdiv_eq_ediv_of_nonneg h0]; exact Int.ediv_le_self _ h0⟩
        generalize hA : rd b (Int.tmod pos (b.length : Int)) = A at hr1
        generalize hB : rd b (Int.tmod (pos * 7 + 3) (b.length : Int)) = B at hr2
        generalize hD : Int.tdiv pos (b.length : Int) = D at hd
        obtain ⟨X, hX⟩ : ∃ X : Nat, A * 131 + B * 1117 + pos * 29 + D * 53 = (X : Int) := Int.eq_ofNat_of_zero_le (by omega)
        have hXb : (X : Int) < 4611686018427387904 := by omega
        refine ⟨Int.tmod ((X ^^^ (X / 64) : Nat) : Int) n, ⟨Int.tmod_nonneg _ (by omega), fun _ => Int.tmod_lt_of_pos _ (by omega), by omega⟩, fun k => ?_⟩
        unfold spec_l20Rd_pick.f
        rw [if_neg hn, e1]; rw [spec_l20Rd_pick.j0]
        rw [if_neg (by simp; exact List.ne_nil_of_length_pos (by omega)), e2, if_neg hp, if_neg (by omega), if_pos (Int.tmod_nonneg _ h0), if_pos (Int.tmod_lt_of_pos _ (by omega)), em, if_pos (Int.tmod_nonneg _ (by omega)), if_pos (Int.tmod_lt_of_pos _ (by omega)), if_neg (by omega), hA, hB, hD]
        have w1 : wrap64 (wrap64 A * 131) = A * 131 := by rw [w64 (x := A) (by omega) (by omega), w64 (by omega) (by omega)]
        have w2 : wrap64 (wrap64 B * 1117) = B * 1117 := by rw [w64 (x := B) (by omega) (by omega), w64 (by omega) (by omega)]
        have w3 : wrap64 (pos * 29) = pos * 29 := w64 (by omega) (by omega)
        have w4 : wrap64 (wrap64 D * 53) = D * 53 := by rw [w64 (x := D) (by omega) (by omega), w64 (by omega) (by omega)]
        have w5 : wrap64 (A * 131 + B * 1117) = A * 131 + B * 1117 := w64 (by omega) (by omega)
        have w6 : wrap64 (A * 131 + B * 1117 + pos * 29) = A * 131 + B * 1117 + pos * 29 := w64 (by omega) (by omega)
        have w7 : wrap64 (A * 131 + B * 1117 + pos * 29 + D * 53) = (X : Int) := by rw [w64 (by omega) (by omega)]; exact hX
        rw [w1, w2, w3, w4, w5, w6, w7]
        have w8 : wrap64 (Int.tdiv (X : Int) 64) = ((X / 64 : Nat) : Int) := by
          rw [Int.tdiv_eq_ediv_of_nonneg (by omega), w64 (by omega) (by omega)]; simp
        rw [w8, xor64 _ _ (by omega) (by omega)]

theorem or_small (a b : Nat) (ha : a < 65536) (hb : b < 65536) : a ||| b < 65536 := by
  have := Nat.or_lt_two_pow (n := 16) (x := a) (y := b) (by omega) (by omega)
  omega
theorem l20Table_loop {b : List Int} (hb : Bytes b) (p thin : Int) (hp : 1 ≤ p ∧ p ≤ 4) (ht : 0 ≤ thin ∧ thin ≤ 2) (d : Nat) : ∀ (t : Nat) (i pos : Int), 0 ≤ i → pw p - i = d → t < tw p → 0 ≤ pos → pos ≤ 1000 - d →
    ∃ q t', ((q = p ∨ q = p + 4) ∧ -70000 ≤ t' ∧ t' < tw p) ∧ ∃ e, 0 ≤ e ∧ e ≤ 1002 ∧ ∀ k, d + 1 < k → spec_l20Table.l0 k p (t : Int) thin i b pos = some (q, t', e) := by
  have hpw := pw_of hp.1 hp.2
  have htw := tw_of hp.1 hp.2
  induction d with
  | zero =>
    intro t i pos hi hd htt hpos hpos2
    obtain ⟨r1, h1, p1⟩ := pick_ok hb pos 40 (by omega) (by omega)
    obtain ⟨r2, h2, p2⟩ := pick_ok hb (pos + 1) 40 (by omega) (by omega)
    have d1 : Int.tdiv r1 39 = r1 / 39 := Int.tdiv_eq_ediv_of_nonneg h1.1
    have d2 : Int.tdiv r2 39 = r2 / 39 := Int.tdiv_eq_ediv_of_nonneg h2.1
    refine ⟨p + r1 / 39 * 4, t - r2 / 39 * 70000, by omega, pos + 1 + 1, by omega, by omega, fun k hk => ?_⟩
    obtain ⟨k, rfl⟩ : ∃ m, k = m + 1 := ⟨k - 1, by omega⟩
    rw [spec_l20Table.l0]
    rw [if_pos (by omega), shl_pw hp.1 hp.2, if_neg (by omega)]
    cases k with
    | zero => omega
    | succ k =>
    rw [p1]; simp only [Option.bind_some]
    rw [p2]; simp only [Option.bind_some]
    rw [d1, d2, w64 (x := r1 / 39) (by omega) (by omega), w64 (x := r2 / 39) (by omega) (by omega), w64 (x := r1 / 39 * 4) (by omega) (by omega), w64 (x := r2 / 39 * 70000) (by omega) (by omega), w64 (by omega) (by omega), w64 (by omega) (by omega)]
  | succ d ih =>
    intro t i pos hi hd htt hpos hpos2
    obtain ⟨r1, h1, p1⟩ := pick_ok hb pos (thin + 2) (by omega) (by omega)
    obtain ⟨n, rfl⟩ := Int.eq_ofNat_of_zero_le hi
    have hn : n ≤ 15 := by omega
    have hb2 : 2 ^ n < 65536 := Nat.lt_of_le_of_lt (Nat.pow_le_pow_right (by decide) hn) (by decide)
    have hs : shl .i64 1 ((n : Nat) : Int) = ((2 ^ n : Nat) : Int) := by
      have := shl_nat 1 n (by omega) (by omega); simpa using this
    have hor : Go.bits .or .i64 (t : Int) ((2 ^ n : Nat) : Int) = ((t ||| 2 ^ n : Nat) : Int) := or64 _ _ (by omega) (by omega)
    have hlt : ((t ||| 2 ^ n : Nat) : Int) < tw p := by
      have e := tw_pw hp.1 hp.2
      have e2 : (2 : Int) ^ (pw p).toNat = ((2 ^ (pw p).toNat : Nat) : Int) := by simp
      rw [e, e2] at htt ⊢
      have := Nat.or_lt_two_pow (n := (pw p).toNat) (x := t) (y := 2 ^ n) (by omega) (Nat.pow_lt_pow_right (by decide) (by omega))
      omega
    by_cases hr : r1 = 0
    · obtain ⟨q, t', hq, e, he0, he1, hk⟩ := ih (t ||| 2 ^ n) (n + 1) (pos + 1) (by omega) (by omega) hlt (by omega) (by omega)
      refine ⟨q, t', hq, e, he0, he1, fun k hkd => ?_⟩
      obtain ⟨k, rfl⟩ : ∃ m, k = m + 1 := ⟨k - 1, by omega⟩
      obtain ⟨k, rfl⟩ : ∃ m, k = m + 1 := ⟨k - 1, by omega⟩
      rw [spec_l20Table.l0]
      rw [if_pos (by omega), shl_pw hp.1 hp.2, if_pos (by omega), w64 (x := thin + 2) (by omega) (by omega), p1]; simp only [Option.bind_some]
      rw [if_pos hr, if_pos (by omega), hs, hor, w64 (by omega) (by omega)]
      exact hk _ (by omega)
    · obtain ⟨q, t', hq, e, he0, he1, hk⟩ := ih t (n + 1) (pos + 1) (by omega) (by omega) htt (by omega) (by omega)
      refine ⟨q, t', hq, e, he0, he1, fun k hkd => ?_⟩
      obtain ⟨k, rfl⟩ : ∃ m, k = m + 1 := ⟨k - 1, by omega⟩
      obtain ⟨k, rfl⟩ : ∃ m, k = m + 1 := ⟨k - 1, by omega⟩
      rw [spec_l20Table.l0]
      rw [if_pos (by omega), shl_pw hp.1 hp.2, if_pos (by omega), w64 (x := thin + 2) (by omega) (by omega), p1]; simp only [Option.bind_some]
      rw [if_neg hr, w64 (by omega) (by omega)]
      exact hk _ (by omega)
theorem l20Table_ok {b : List Int} (hb : Bytes b) (pos : Int) (h0 : 0 ≤ pos) (h1 : pos ≤ 900) : ∃ p t, (1 ≤ p ∧ p ≤ 8 ∧ -70000 ≤ t ∧ t ≤ 65536) ∧ ∃ e, (0 ≤ e ∧ e ≤ 1002) ∧ ∀ k, 17 < k → spec_l20Table.f k b pos = some (p, t, e) := by
  obtain ⟨r1, h1', p1⟩ := pick_ok hb pos 4 (by omega) (by omega)
  obtain ⟨r2, h2, p2⟩ := pick_ok hb (pos + 1) 3 (by omega) (by omega)
  have hpw := pw_of (p := 1 + r1) (by omega) (by omega)
  have htw := tw_of (p := 1 + r1) (by omega) (by omega)
  obtain ⟨q, t', hq, e, he0, he1, hk⟩ := l20Table_loop hb (1 + r1) r2 (by omega) (by omega) (pw (1 + r1)).toNat 0 0 (pos + 1 + 1) (by omega) (by omega) (by omega) (by omega) (by omega)
  refine ⟨q, t', by omega, e, by omega, fun k hkd => ?_⟩
  obtain ⟨k, rfl⟩ : ∃ m, k = m + 1 := ⟨k - 1, by omega⟩
  unfold spec_l20Table.f
  rw [p1]; simp only [Option.bind_some]
  rw [p2]; simp only [Option.bind_some]
  rw [w64 (by omega) (by omega)]
  exact hk _ (by omega)

theorem drawTableOk_ok (l : List Int) (h : ∀ x ∈ l, (Lit.int .u8 x).wf = true) : ∃ p t, (-1 ≤ p ∧ p ≤ 8 ∧ -70000 ≤ t ∧ t ≤ 65536) ∧ ∀ k, 17 < k → spec_DrawTableOk.f k l = some (p, t) := by
  obtain ⟨b, hb, ho⟩ := open_ok l h
  obtain ⟨p, t, hpt, e, he, hk⟩ := l20Table_ok hb 0 (by omega) (by omega)
  obtain ⟨r, hr, pr⟩ := pick_ok hb e 12 (by omega) (by omega)
  have d1 : Int.tdiv r 11 = r / 11 := Int.tdiv_eq_ediv_of_nonneg hr.1
  refine ⟨p - r / 11, t, by omega, fun k hkd => ?_⟩
  unfold spec_DrawTableOk.f
  rw [ho]; simp only [Option.bind_some]
  rw [hk k hkd]; simp only [Option.bind_some]
  obtain ⟨k, rfl⟩ : ∃ m, k = m + 1 := ⟨k - 1, by omega⟩
  rw [pr]; simp only [Option.bind_some]
  rw [d1, w64 (x := r / 11) (by omega) (by omega), w64 (by omega) (by omega)]

def WOk (p w : Int) : Prop := 1 ≤ p ∧ p ≤ 4 ∧ 0 ≤ w ∧ w < pw p
instance (p w : Int) : Decidable (WOk p w) := by unfold WOk; infer_instance
theorem iworld (p w : Int) : impl_WorldOk.f p w = some (decide (WOk p w)) := by
  unfold impl_WorldOk.f
  rw [people_eq, Option.bind_some]
  by_cases h : 1 ≤ p ∧ p ≤ 4
  · rw [if_pos (by simpa using h)]
    by_cases h2 : w ≥ 0
    · rw [if_pos h2, if_pos (by omega), shl_pw h.1 h.2]; congr 1; rw [decide_eq_decide]; unfold WOk; omega
    · rw [if_neg h2]; congr 1; symm; rw [decide_eq_false_iff_not]; unfold WOk; omega
  · rw [if_neg (by simpa using h)]; congr 1; symm; rw [decide_eq_false_iff_not]; unfold WOk; omega

theorem alive_eq : laws_alive.f = some true := by
  unfold laws_alive.f
  rw [iworld, Option.bind_some, if_pos (by decide), iworld, Option.bind_some]
  decide

/-! ### the law -/
theorem to_j0 (p w : Int) (c : Bool) (hw : -70000 ≤ w ∧ w ≤ 65536) (hc : c = false → 1 ≤ p ∧ p ≤ 4) (hc2 : c = true → ¬ (1 ≤ p ∧ p ≤ 4)) (k : Nat) : laws_FnTableOk.j0 (k + 1) p w (decide (TOk p w)) c = some true := by
  cases c with
  | true =>
    have := hc2 rfl
    have hn : ¬ TOk p w := by unfold TOk; omega
    rw [laws_FnTableOk.j0]
    rw [if_pos rfl, if_neg (by simpa using hn), alive_eq]; rfl
  | false =>
    have hp := hc rfl
    have hb := tw_of hp.1 hp.2
    have e : wrap64 (tw p - 1) = tw p - 1 := w64 (by omega) (by omega)
    have e2 : wrap64 (tw p - 1 - w) = tw p - 1 - w := w64 (by omega) (by omega)
    rw [laws_FnTableOk.j0]
    rw [if_neg (by simp), if_pos (by omega), shlu_pw hp.1 hp.2, shl_tw hp.1 hp.2, itable, Option.bind_some, if_pos (by simp [TOk]; omega), e, e2, itable, Option.bind_some, if_pos (by rw [beq_iff_eq, decide_eq_decide]; unfold TOk; omega), itable, Option.bind_some]
    simp [TOk]; omega
theorem FnTableOk : laws_FnTableOk.Pure := by
  intro l _ _ h
  obtain ⟨p, w, hb, hk⟩ := drawTableOk_ok l h
  refine ⟨18, ?_⟩
  unfold laws_FnTableOk.f
  by_cases hl : (l.length : Int) > 1048576
  · rw [if_pos hl]
  · rw [if_neg hl, hk 18 (by omega)]; simp only [Option.bind_some]
    rw [itable, Option.bind_some, stable, Option.bind_some, if_neg (by simp)]
    by_cases h1 : p < 1
    · rw [if_pos h1]; exact to_j0 p w true (by omega) (by simp) (by omega) 17
    · rw [if_neg h1]; exact to_j0 p w _ (by omega) (by simp; omega) (by simp; omega) 17

end Go.Proofs.Ytfdnlekbmjcbeaa.Pure
