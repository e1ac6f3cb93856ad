/- Proved: FnBothTables returns true for every code of bytes. No condition. -/
import Derived.Test.YtpnjanaggkmbaaaPFnBothTablesx3
import Derived.Laws.BitsLemmas
import Derived.Laws.BitsAllLaws
namespace Go.Proofs.Ytpnjanaggkmbaaa.Pure
open Go.RowKit Go.Proofs.Ytpnjanaggkmbaaa.PFnBothTables Go.Proofs.YtpnjanaggkmbaaaW.PrintWords Go.Proofs.YtpnjanaggkmbaaaW.PrintLast Go.Proofs.YtpnjanaggkmbaaaW.PrintMore
set_option linter.unusedVariables false
set_option linter.unusedSimpArgs false

/-! ### base: whole numbers -/
theorem w64 {x : Int} (h0 : -9223372036854775808 ≤ x) (h1 : x ≤ 9223372036854775807) : wrap64 x = x := by
  unfold wrap64; omega
theorem wf64 {x : Int} (h : (Lit.int .i64 x).wf = true) : -9223372036854775808 ≤ x ∧ x ≤ 9223372036854775807 := by
  simp only [Lit.wf, IntKind.min, IntKind.max, IntKind.signed, IntKind.bits, Bool.and_eq_true, decide_eq_true_eq, if_true] at h
  omega
theorem wf8 {x : Int} (h : (Lit.int .u8 x).wf = true) : 0 ≤ x ∧ x ≤ 255 := by
  simp only [Lit.wf, IntKind.min, IntKind.max, IntKind.signed, IntKind.bits, Bool.and_eq_true, decide_eq_true_eq] at h
  simpa using h
theorem ofInt_i64 (a : Nat) (ha : a < 18446744073709551616) : (BitVec.ofInt 64 (a : Int)).toNat = a := by
  rw [BitVec.ofInt_natCast, BitVec.toNat_ofNat]; exact Nat.mod_eq_of_lt (by omega)
theorem wrapi (x : Nat) (h : x < 9223372036854775808) : IntKind.i64.wrap (x : Int) = x := by
  rw [IntKind.wrap_i64]; omega
theorem or64 (a b : Nat) (ha : a < 4611686018427387904) (hb : b < 4611686018427387904) : Go.bits .or .i64 (a : Int) (b : Int) = ((a ||| b : Nat) : Int) := by
  have hx : a ||| b < 2 ^ 62 := Nat.or_lt_two_pow (by omega) (by omega)
  show IntKind.i64.wrap ((BitVec.ofInt 64 (a : Int) ||| BitVec.ofInt 64 (b : Int)).toNat : Int) = _
  rw [BitVec.toNat_or, ofInt_i64 a (by omega), ofInt_i64 b (by omega), wrapi _ (by omega)]
theorem and64 (a b : Nat) (ha : a < 4611686018427387904) (hb : b < 4611686018427387904) : Go.bits .and .i64 (a : Int) (b : Int) = ((a &&& b : Nat) : Int) := by
  have hx : a &&& b < 2 ^ 62 := Nat.and_lt_two_pow _ (by omega)
  show IntKind.i64.wrap ((BitVec.ofInt 64 (a : Int) &&& BitVec.ofInt 64 (b : Int)).toNat : Int) = _
  rw [BitVec.toNat_and, ofInt_i64 a (by omega), ofInt_i64 b (by omega), wrapi _ (by omega)]
theorem xor64 (a b : Nat) (ha : a < 4611686018427387904) (hb : b < 4611686018427387904) : Go.bits .xor .i64 (a : Int) (b : Int) = ((a ^^^ b : Nat) : Int) := by
  have hx : a ^^^ b < 2 ^ 62 := Nat.xor_lt_two_pow (by omega) (by omega)
  show IntKind.i64.wrap ((BitVec.ofInt 64 (a : Int) ^^^ BitVec.ofInt 64 (b : Int)).toNat : Int) = _
  rw [BitVec.toNat_xor, ofInt_i64 a (by omega), ofInt_i64 b (by omega), wrapi _ (by omega)]
theorem andnot64 (a b : Nat) (ha : a < 4611686018427387904) (hb : b < 4611686018427387904) : Go.bits .andNot .i64 (a : Int) (b : Int) = ((a &&& (18446744073709551615 - b) : Nat) : Int) := by
  have hx : a &&& (18446744073709551615 - b) < 2 ^ 62 := Nat.lt_of_le_of_lt Nat.and_le_left (by omega)
  show IntKind.i64.wrap ((BitVec.ofInt 64 (a : Int) &&& ~~~BitVec.ofInt 64 (b : Int)).toNat : Int) = _
  rw [BitVec.toNat_and, BitVec.toNat_not, ofInt_i64 a (by omega), ofInt_i64 b (by omega)]
  have e : 2 ^ 64 - 1 - b = 18446744073709551615 - b := by omega
  rw [e, wrapi _ (by omega)]
/-- So many worlds; so many tables. -/
def pw (p : Int) : Int := 2 ^ p.toNat
def tw (p : Int) : Int := 2 ^ (2 ^ p.toNat)
theorem p4 {p : Int} (h0 : 1 ≤ p) (h1 : p ≤ 4) : p = 1 ∨ p = 2 ∨ p = 3 ∨ p = 4 := by omega
theorem pw_of {p : Int} (h0 : 1 ≤ p) (h1 : p ≤ 4) : 2 ≤ pw p ∧ pw p ≤ 16 := by
  rcases p4 h0 h1 with rfl | rfl | rfl | rfl <;> decide
theorem tw_of {p : Int} (h0 : 1 ≤ p) (h1 : p ≤ 4) : 4 ≤ tw p ∧ tw p ≤ 65536 := by
  rcases p4 h0 h1 with rfl | rfl | rfl | rfl <;> decide
theorem tw_pw {p : Int} (h0 : 1 ≤ p) (h1 : p ≤ 4) : tw p = 2 ^ (pw p).toNat := by
  rcases p4 h0 h1 with rfl | rfl | rfl | rfl <;> decide
theorem shl_pw {p : Int} (h0 : 1 ≤ p) (h1 : p ≤ 4) : shl .i64 1 p = pw p := by
  rcases p4 h0 h1 with rfl | rfl | rfl | rfl <;> decide
theorem shlu_pw {p : Int} (h0 : 1 ≤ p) (h1 : p ≤ 4) : shl .u64 1 p = pw p := by
  rcases p4 h0 h1 with rfl | rfl | rfl | rfl <;> decide
theorem shl_tw {p : Int} (h0 : 1 ≤ p) (h1 : p ≤ 4) : shl .i64 1 (pw p) = tw p := by
  rcases p4 h0 h1 with rfl | rfl | rfl | rfl <;> decide
/-- A shift of a small number by a small count. -/
theorem shl_nat (x n : Nat) (hn : n ≤ 16) (hx : x ≤ 65536) : shl .i64 (x : Int) (n : Int) = ((x * 2 ^ n : Nat) : Int) := by
  unfold shl
  have e : min ((n : Int).toNat) (IntKind.i64.bits) = n := by simp [IntKind.bits]; omega
  rw [e]
  have hp : 2 ^ n ≤ 2 ^ 16 := Nat.pow_le_pow_right (by decide) hn
  have hm : x * 2 ^ n ≤ 65536 * 2 ^ 16 := Nat.mul_le_mul hx hp
  have e2 : (x : Int) * 2 ^ n = ((x * 2 ^ n : Nat) : Int) := by simp
  rw [e2, wrapi _ (by omega)]
theorem shr_nat (x n : Nat) (hn : n ≤ 16) : shr .i64 (x : Int) (n : Int) = ((x / 2 ^ n : Nat) : Int) := by
  unfold shr
  have e : min ((n : Int).toNat) (IntKind.i64.bits) = n := by simp [IntKind.bits]; omega
  rw [e]
  simp

/-- The bytes that are drawn from. -/
def Bytes (l : List Int) : Prop := l.length ≤ 2000 ∧ ∀ x ∈ l, 0 ≤ x ∧ x ≤ 255
theorem open_ok (l : List Int) (h : ∀ x ∈ l, (Lit.int .u8 x).wf = true) : ∃ b, Bytes b ∧ spec_l20Open.f l = some (b, 0) := by
  unfold spec_l20Open.f
  by_cases hl : (l.length : Int) > 2000
  · refine ⟨l.take 2000, ⟨by simp; omega, fun x hx => wf8 (h x (List.mem_of_mem_take hx))⟩, ?_⟩
    rw [if_pos hl, if_pos (by omega)]
  · exact ⟨l, ⟨by omega, fun x hx => wf8 (h x hx)⟩, by rw [if_neg hl]⟩

theorem rd_byte {b : List Int} (h : Bytes b) (i : Int) : 0 ≤ rd b i ∧ rd b i ≤ 255 := by
  unfold rd
  rw [List.getD_eq_getElem?_getD]
  by_cases hi : i.toNat < b.length
  · rw [List.getElem?_eq_getElem hi, Option.getD_some]; exact h.2 _ (List.getElem_mem hi)
  · rw [List.getElem?_eq_none (by omega)]; decide
theorem pick_ok {b : List Int} (hb : Bytes b) (pos n : Int) (h0 : 0 ≤ pos) (h1 : pos ≤ 1000000000) :
    ∃ r, (0 ≤ r ∧ (1 ≤ n → r < n) ∧ (n < 1 → r = 0)) ∧ ∀ k, spec_l20Rd_pick.f (k + 1) b pos n = some (r, pos + 1) := by
  have hl := hb.1
  have e1 : wrap64 (pos + 1) = pos + 1 := w64 (by omega) (by omega)
  have e2 : wrap64 (pos + 1 - 1) = pos := by rw [w64 (by omega) (by omega)]; omega
  by_cases hn : n < 1
  · refine ⟨0, ⟨by omega, by omega, fun _ => rfl⟩, fun k => ?_⟩
    unfold spec_l20Rd_pick.f
    rw [if_pos hn, e1]; rw [spec_l20Rd_pick.j0]; rw [if_pos rfl]
  · by_cases hz : b.length = 0
    · refine ⟨0, ⟨by omega, by omega, fun _ => rfl⟩, fun k => ?_⟩
      unfold spec_l20Rd_pick.f
      rw [if_neg hn, e1]; rw [spec_l20Rd_pick.j0]; rw [if_pos (by simp; exact List.eq_nil_of_length_eq_zero hz)]
    · by_cases hp : pos < (b.length : Int)
      · have hr := rd_byte hb pos
        refine ⟨Int.tmod (rd b pos) n, ⟨Int.tmod_nonneg _ hr.1, fun _ => Int.tmod_lt_of_pos _ (by omega), by omega⟩, fun k => ?_⟩
        unfold spec_l20Rd_pick.f
        rw [if_neg hn, e1]; rw [spec_l20Rd_pick.j0]
        rw [if_neg (by simp; exact List.ne_nil_of_length_pos (by omega)), e2, if_pos hp, if_pos h0, if_neg (by omega), w64 (x := rd b pos) (by omega) (by omega)]
      · have hr1 := rd_byte hb (Int.tmod pos (b.length : Int))
        have em : wrap64 (wrap64 (pos * 7) + 3) = pos * 7 + 3 := by rw [w64 (x := pos * 7) (by omega) (by omega), w64 (by omega) (by omega)]
        have hr2 := rd_byte hb (Int.tmod (pos * 7 + 3) (b.length : Int))
        have hd : 0 ≤ Int.tdiv pos (b.length : Int) ∧ Int.tdiv pos (b.length : Int) ≤ pos := ⟨Int.tdiv_nonneg h0 (by omega), by rw [Int.tdiv_eq_ediv_of_nonneg h0]; exact Int.ediv_le_self _ h0⟩
        generalize hA : rd b (Int.tmod pos (b.length : Int)) = A at hr1
        generalize hB : rd b (Int.tmod (pos * 7 + 3) (b.length : Int)) = B at hr2
        generalize hD : Int.tdiv pos (b.length : Int) = D at hd
        obtain ⟨X, hX⟩ : ∃ X : Nat, A * 131 + B * 1117 + pos * 29 + D * 53 = (X : Int) := Int.eq_ofNat_of_zero_le (by omega)
        have hXb : (X : Int) < 4611686018427387904 := by omega
        refine ⟨Int.tmod ((X ^^^ (X / 64) : Nat) : Int) n, ⟨Int.tmod_nonneg _ (by omega), fun _ => Int.tmod_lt_of_pos _ (by omega), by omega⟩, fun k => ?_⟩
        unfold spec_l20Rd_pick.f
        rw [if_neg hn, e1]; rw [spec_l20Rd_pick.j0]
        rw [if_neg (by simp; exact List.ne_nil_of_length_pos (by omega)), e2, if_neg hp, if_neg (by omega), if_pos (Int.tmod_nonneg _ h0), if_pos (Int.tmod_lt_of_pos _ (by omega)), em, if_pos (Int.tmod_nonneg _ (by omega)), if_pos (Int.tmod_lt_of_pos _ (by omega)), if_neg (by omega), hA, hB, hD]
        have w1 : wrap64 (wrap64 A * 131) = A * 131 := by rw [w64 (x := A) (by omega) (by omega), w64 (by omega) (by omega)]
        have w2 : wrap64 (wrap64 B * 1117) = B * 1117 := by rw [w64 (x := B) (by omega) (by omega), w64 (by omega) (by omega)]
        have w3 : wrap64 (pos * 29) = pos * 29 := w64 (by omega) (by omega)
        have w4 : wrap64 (wrap64 D * 53) = D * 53 := by rw [w64 (x := D) (by omega) (by omega), w64 (by omega) (by omega)]
        have w5 : wrap64 (A * 131 + B * 1117) = A * 131 + B * 1117 := w64 (by omega) (by omega)
        have w6 : wrap64 (A * 131 + B * 1117 + pos * 29) = A * 131 + B * 1117 + pos * 29 := w64 (by omega) (by omega)
        have w7 : wrap64 (A * 131 + B * 1117 + pos * 29 + D * 53) = (X : Int) := by rw [w64 (by omega) (by omega)]; exact hX
        rw [w1, w2, w3, w4, w5, w6, w7]
        have w8 : wrap64 (Int.tdiv (X : Int) 64) = ((X / 64 : Nat) : Int) := by
          rw [Int.tdiv_eq_ediv_of_nonneg (by omega), w64 (by omega) (by omega)]; simp
        rw [w8, xor64 _ _ (by omega) (by omega)]

theorem or_small (a b : Nat) (ha : a < 65536) (hb : b < 65536) : a ||| b < 65536 := by
  have := Nat.or_lt_two_pow (n := 16) (x := a) (y := b) (by omega) (by omega)
  omega
theorem l20Table_loop {b : List Int} (hb : Bytes b) (p thin : Int) (hp : 1 ≤ p ∧ p ≤ 4) (ht : 0 ≤ thin ∧ thin ≤ 2) (d : Nat) : ∀ (t : Nat) (i pos : Int), 0 ≤ i → pw p - i = d → t < tw p → 0 ≤ pos → pos ≤ 1000 - d →
    ∃ q t', ((q = p ∨ q = p + 4) ∧ -70000 ≤ t' ∧ t' < tw p) ∧ ∃ e, 0 ≤ e ∧ e ≤ 1002 ∧ ∀ k, d + 1 < k → spec_l20Table.l0 k p (t : Int) thin i b pos = some (q, t', e) := by
  have hpw := pw_of hp.1 hp.2
  have htw := tw_of hp.1 hp.2
  induction d with
  | zero =>
    intro t i pos hi hd htt hpos hpos2
    obtain ⟨r1, h1, p1⟩ := pick_ok hb pos 40 (by omega) (by omega)
    obtain ⟨r2, h2, p2⟩ := pick_ok hb (pos + 1) 40 (by omega) (by omega)
    have d1 : Int.tdiv r1 39 = r1 / 39 := Int.tdiv_eq_ediv_of_nonneg h1.1
    have d2 : Int.tdiv r2 39 = r2 / 39 := Int.tdiv_eq_ediv_of_nonneg h2.1
    refine ⟨p + r1 / 39 * 4, t - r2 / 39 * 70000, by omega, pos + 1 + 1, by omega, by omega, fun k hk => ?_⟩
    obtain ⟨k, rfl⟩ : ∃ m, k = m + 1 := ⟨k - 1, by omega⟩
    rw [spec_l20Table.l0]
    rw [if_pos (by omega), shl_pw hp.1 hp.2, if_neg (by omega)]
    cases k with
    | zero => omega
    | succ k =>
    rw [p1]; simp only [Option.bind_some]
    rw [p2]; simp only [Option.bind_some]
    rw [d1, d2, w64 (x := r1 / 39) (by omega) (by omega), w64 (x := r2 / 39) (by omega) (by omega), w64 (x := r1 / 39 * 4) (by omega) (by omega), w64 (x := r2 / 39 * 70000) (by omega) (by omega), w64 (by omega) (by omega), w64 (by omega) (by omega)]
  | succ d ih =>
    intro t i pos hi hd htt hpos hpos2
    obtain ⟨r1, h1, p1⟩ := pick_ok hb pos (thin + 2) (by omega) (by omega)
    obtain ⟨n, rfl⟩ := Int.eq_ofNat_of_zero_le hi
    have hn : n ≤ 15 := by omega
    have hb2 : 2 ^ n < 65536 := Nat.lt_of_le_of_lt (Nat.pow_le_pow_right (by decide) hn) (by decide)
    have hs : shl .i64 1 ((n : Nat) : Int) = ((2 ^ n : Nat) : Int) := by
      have := shl_nat 1 n (by omega) (by omega); simpa using this
    have hor : Go.bits .or .i64 (t : Int) ((2 ^ n : Nat) : Int) = ((t ||| 2 ^ n : Nat) : Int) := or64 _ _ (by omega) (by omega)
    have hlt : ((t ||| 2 ^ n : Nat) : Int) < tw p := by
      have e := tw_pw hp.1 hp.2
      have e2 : (2 : Int) ^ (pw p).toNat = ((2 ^ (pw p).toNat : Nat) : Int) := by simp
      rw [e, e2] at htt ⊢
      have := Nat.or_lt_two_pow (n := (pw p).toNat) (x := t) (y := 2 ^ n) (by omega) (Nat.pow_lt_pow_right (by decide) (by omega))
      omega
    by_cases hr : r1 = 0
    · obtain ⟨q, t', hq, e, he0, he1, hk⟩ := ih (t ||| 2 ^ n) (n + 1) (pos + 1) (by omega) (by omega) hlt (by omega) (by omega)
      refine ⟨q, t', hq, e, he0, he1, fun k hkd => ?_⟩
      obtain ⟨k, rfl⟩ : ∃ m, k = m + 1 := ⟨k - 1, by omega⟩
      obtain ⟨k, rfl⟩ : ∃ m, k = m + 1 := ⟨k - 1, by omega⟩
      rw [spec_l20Table.l0]
      rw [if_pos (by omega), shl_pw hp.1 hp.2, if_pos (by omega), w64 (x := thin + 2) (by omega) (by omega), p1]; simp only [Option.bind_some]
      rw [if_pos hr, if_pos (by omega), hs, hor, w64 (by omega) (by omega)]
      exact hk _ (by omega)
    · obtain ⟨q, t', hq, e, he0, he1, hk⟩ := ih t (n + 1) (pos + 1) (by omega) (by omega) htt (by omega) (by omega)
      refine ⟨q, t', hq, e, he0, he1, fun k hkd => ?_⟩
      obtain ⟨k, rfl⟩ : ∃ m, k = m + 1 := ⟨k - 1, by omega⟩
      obtain ⟨k, rfl⟩ : ∃ m, k = m + 1 := ⟨k - 1, by omega⟩
      rw [spec_l20Table.l0]
      rw [if_pos (by omega), shl_pw hp.1 hp.2, if_pos (by omega), w64 (x := thin + 2) (by omega) (by omega), p1]; simp only [Option.bind_some]
      rw [if_neg hr, w64 (by omega) (by omega)]
      exact hk _ (by omega)
theorem l20Table_ok {b : List Int} (hb : Bytes b) (pos : Int) (h0 : 0 ≤ pos) (h1 : pos ≤ 900) : ∃ p t, (1 ≤ p ∧ p ≤ 8 ∧ -70000 ≤ t ∧ t ≤ 65536) ∧ ∃ e, (0 ≤ e ∧ e ≤ 1002) ∧ ∀ k, 17 < k → spec_l20Table.f k b pos = some (p, t, e) := by
  obtain ⟨r1, h1', p1⟩ := pick_ok hb pos 4 (by omega) (by omega)
  obtain ⟨r2, h2, p2⟩ := pick_ok hb (pos + 1) 3 (by omega) (by omega)
  have hpw := pw_of (p := 1 + r1) (by omega) (by omega)
  have htw := tw_of (p := 1 + r1) (by omega) (by omega)
  obtain ⟨q, t', hq, e, he0, he1, hk⟩ := l20Table_loop hb (1 + r1) r2 (by omega) (by omega) (pw (1 + r1)).toNat 0 0 (pos + 1 + 1) (by omega) (by omega) (by omega) (by omega) (by omega)
  refine ⟨q, t', by omega, e, by omega, fun k hkd => ?_⟩
  obtain ⟨k, rfl⟩ : ∃ m, k = m + 1 := ⟨k - 1, by omega⟩
  unfold spec_l20Table.f
  rw [p1]; simp only [Option.bind_some]
  rw [p2]; simp only [Option.bind_some]
  rw [w64 (by omega) (by omega)]
  exact hk _ (by omega)

theorem drawOppT_ok (l : List Int) (h : ∀ x ∈ l, (Lit.int .u8 x).wf = true) : ∃ p t, (1 ≤ p ∧ p ≤ 8 ∧ -70000 ≤ t ∧ t ≤ 65536) ∧ ∀ k, 17 < k → spec_DrawOppositeTable.f k l = some (p, t) := by
  obtain ⟨b, hb, ho⟩ := open_ok l h
  obtain ⟨p, t, hpt, e, he, hk⟩ := l20Table_ok hb 0 (by omega) (by omega)
  refine ⟨p, t, by omega, fun k hkd => ?_⟩
  unfold spec_DrawOppositeTable.f
  rw [ho]; simp only [Option.bind_some]
  rw [hk k hkd]; simp only [Option.bind_some]

theorem in_eq (a b c : Int) : spec_l1In.f a b c = some (decide (b ≤ a ∧ a ≤ c)) := by
  unfold spec_l1In.f
  by_cases h : a ≥ b
  · rw [if_pos h]; congr 1; rw [decide_eq_decide]; omega
  · rw [if_neg h]; congr 1; symm; rw [decide_eq_false_iff_not]; omega

theorem people_eq (p : Int) : impl_peopleOk.f p = some (decide (1 ≤ p ∧ p ≤ 4)) := by
  unfold impl_peopleOk.f
  by_cases h : p ≥ 1
  · rw [if_pos h]; congr 1; rw [decide_eq_decide]; omega
  · rw [if_neg h]; congr 1; symm; rw [decide_eq_false_iff_not]; omega

def TOk (p t : Int) : Prop := 1 ≤ p ∧ p ≤ 4 ∧ 0 ≤ t ∧ t < tw p
instance (p w : Int) : Decidable (TOk p w) := by unfold TOk; infer_instance
theorem itable (p t : Int) : impl_TableOk.f p t = some (decide (TOk p t)) := by
  unfold impl_TableOk.f
  rw [people_eq, Option.bind_some]
  by_cases h : 1 ≤ p ∧ p ≤ 4
  · rw [if_pos (by simpa using h)]
    by_cases h2 : t ≥ 0
    · rw [if_pos h2, if_pos (by omega), shlu_pw h.1 h.2, shl_tw h.1 h.2]; congr 1; rw [decide_eq_decide]; unfold TOk; omega
    · rw [if_neg h2]; congr 1; symm; rw [decide_eq_false_iff_not]; unfold TOk; omega
  · rw [if_neg (by simpa using h)]; congr 1; symm; rw [decide_eq_false_iff_not]; unfold TOk; omega

theorem stable (p t : Int) : spec_TableOk.f p t = some (decide (TOk p t)) := by
  unfold spec_TableOk.f
  rw [in_eq, Option.bind_some]
  by_cases h : 1 ≤ p ∧ p ≤ 4
  · have hb := tw_of h.1 h.2
    rw [if_pos (by simpa using h), if_pos (by omega), shlu_pw h.1 h.2, shl_tw h.1 h.2, w64 (by omega) (by omega), in_eq, Option.bind_some]
    congr 1; rw [decide_eq_decide]; unfold TOk; omega
  · rw [if_neg (by simpa using h)]; congr 1; symm; rw [decide_eq_false_iff_not]; unfold TOk; omega

/-- The table of what holds, out of natural numbers. -/
def tbN (H : Nat → Bool) : Nat → Nat
  | 0 => 0
  | n + 1 => if H n = true then tbN H n ||| 2 ^ n else tbN H n
theorem tbN_succ (H : Nat → Bool) (n : Nat) : tbN H (n + 1) = if H n = true then tbN H n ||| 2 ^ n else tbN H n := rfl
theorem tbN_bit (H : Nat → Bool) (n i : Nat) : (tbN H n).testBit i = (decide (i < n) && H i) := by
  induction n with
  | zero => simp [tbN]
  | succ n ih =>
    unfold tbN
    by_cases h : H n = true
    · rw [if_pos h, Nat.testBit_or, ih, Nat.testBit_two_pow]
      by_cases e : n = i
      · subst e; simp [h]
      · have : decide (i < n + 1) = decide (i < n) := by rw [decide_eq_decide]; omega
        rw [this]; simp [e]
    · rw [if_neg h, ih]
      by_cases e : n = i
      · subst e; simp [h]
      · have : decide (i < n + 1) = decide (i < n) := by rw [decide_eq_decide]; omega
        rw [this]
theorem tbN_lt (H : Nat → Bool) (n : Nat) : tbN H n < 2 ^ n := by
  apply Nat.lt_pow_two_of_testBit
  intro i hi
  rw [tbN_bit]
  have : ¬ i < n := by omega
  simp [this]
theorem tbN_congr (H H' : Nat → Bool) (n : Nat) (h : ∀ i, i < n → H i = H' i) : tbN H n = tbN H' n := by
  apply Nat.eq_of_testBit_eq
  intro i
  rw [tbN_bit, tbN_bit]
  by_cases hi : i < n
  · rw [h i hi]
  · simp [hi]
theorem tb_loop (h : Int → Option Bool) (H : Nat → Bool) (n : Nat) (hn : n ≤ 16) (hh : ∀ i : Nat, i < n → h (i : Int) = some (H i)) (d : Nat) : ∀ i : Nat, i + d = n → ∀ k, d < k →
    tb.l0 h k (tbN H i : Int) (n : Int) ((i : Nat) : Int) = some (tbN H n : Int) := by
  induction d with
  | zero =>
    intro i hi k hk
    obtain ⟨k, rfl⟩ : ∃ m, k = m + 1 := ⟨k - 1, by omega⟩
    rw [tb.l0, if_neg (by omega), show i = n by omega]
  | succ d ih =>
    intro i hi k hk
    obtain ⟨k, rfl⟩ : ∃ m, k = m + 1 := ⟨k - 1, by omega⟩
    have := ih (i + 1) (by omega) k (by omega)
    rw [show ((i + 1 : Nat) : Int) = (i : Int) + 1 by omega] at this
    have hb := tbN_lt H i
    have hb2 : 2 ^ i ≤ 2 ^ 16 := Nat.pow_le_pow_right (by decide) (by omega)
    have e1 : shl .i64 1 ((i : Nat) : Int) = ((2 ^ i : Nat) : Int) := by have := shl_nat 1 i (by omega) (by omega); simpa using this
    rw [tb.l0, if_pos (by omega), if_pos (by omega), hh i (by omega), Option.bind_some, w64 (by omega) (by omega)]
    rw [tbN_succ] at this
    by_cases hH : H i = true
    · rw [if_pos hH, e1, or64 _ _ (by omega) (by omega)]
      rw [if_pos hH] at this
      exact this
    · rw [if_neg hH]
      rw [if_neg hH] at this
      exact this
theorem tb_eq (h : Int → Option Bool) (H : Nat → Bool) (p : Int) (hp : 1 ≤ p ∧ p ≤ 4) (hh : ∀ i : Nat, i < (pw p).toNat → h (i : Int) = some (H i)) : tb.f h p = some (tbN H (pw p).toNat : Int) := by
  unfold tb.f
  have hpw := pw_of hp.1 hp.2
  rw [if_pos (by omega), shl_pw hp.1 hp.2]
  have := tb_loop h H (pw p).toNat (by omega) hh (pw p).toNat 0 (by omega) 17 (by omega)
  rw [show (((pw p).toNat : Nat) : Int) = pw p by omega] at this
  exact this

/-- The worlds of a table, in ascending order. -/
def winN (n t : Nat) : List Int := ((List.range n).filter (fun w => t / 2 ^ w % 2 = 1)).map (fun w => ((w : Nat) : Int))
def win (p t : Int) : List Int := if TOk p t then winN (pw p).toNat t.toNat else []
theorem winN_len (n t : Nat) : (winN n t).length ≤ n := by
  unfold winN
  rw [List.length_map]
  exact Nat.le_trans (List.length_filter_le _ _) (by simp)
theorem win_len (p t : Int) : (win p t).length ≤ 16 := by
  unfold win
  by_cases h : TOk p t
  · rw [if_pos h]
    unfold TOk at h
    have hb := pw_of h.1 h.2.1
    have := winN_len (pw p).toNat t.toNat
    omega
  · rw [if_neg h]; simp
theorem winN_succ (n t : Nat) : winN (n + 1) t = winN n t ++ (if t / 2 ^ n % 2 = 1 then [((n : Nat) : Int)] else []) := by
  unfold winN
  rw [List.range_succ, List.filter_append, List.map_append]
  congr 1
  by_cases h : t / 2 ^ n % 2 = 1 <;> simp [h]

def oppN (p : Int) (t : Nat) : Nat := tbN (fun w => t.testBit ((pw p).toNat - 1 - w)) (pw p).toNat
def oppT (p t : Int) : Int := if TOk p t then (oppN p t.toNat : Int) else -1
theorem opp1_eq (p t : Int) (hp : 1 ≤ p ∧ p ≤ 4) (ht : 0 ≤ t ∧ t < 65536) (i : Nat) (hi : i < (pw p).toNat) : opp1.f t p (i : Int) = some (t.toNat.testBit ((pw p).toNat - 1 - i)) := by
  have hpw := pw_of hp.1 hp.2
  obtain ⟨n, rfl⟩ := Int.eq_ofNat_of_zero_le ht.1
  have e : wrap64 (wrap64 (pw p - 1) - (i : Int)) = (((pw p).toNat - 1 - i : Nat) : Int) := by
    rw [w64 (x := pw p - 1) (by omega) (by omega), w64 (by omega) (by omega)]; omega
  unfold opp1.f
  have hd : n / 2 ^ ((pw p).toNat - 1 - i) ≤ n := Nat.div_le_self _ _
  have := and64 (n / 2 ^ ((pw p).toNat - 1 - i)) 1 (by omega) (by omega)
  rw [Nat.and_one_is_mod] at this
  rw [if_pos (by omega), shl_pw hp.1 hp.2, e, if_pos (by omega), shr_nat n _ (by omega)]
  rw [show (1 : Int) = ((1 : Nat) : Int) from rfl, this, Int.toNat_natCast, Nat.testBit_eq_decide_div_mod_eq]
  congr 1
  rw [Bool.eq_iff_iff, beq_iff_eq, decide_eq_true_iff]
  omega
theorem iopptab (p t : Int) : impl_OppositeTable.f p t = some (oppT p t) := by
  unfold impl_OppositeTable.f oppT
  rw [itable, Option.bind_some]
  by_cases h : TOk p t
  · have h' := h
    unfold TOk at h'
    have hb := tw_of h'.1 h'.2.1
    rw [if_pos (by simpa using h), if_pos h]
    exact tb_eq _ _ p ⟨h'.1, h'.2.1⟩ (fun i hi => opp1_eq p t ⟨h'.1, h'.2.1⟩ (by omega) i hi)
  · rw [if_neg (by simpa using h), if_neg h]

theorem iwin_loop (n t : Nat) (hn : n ≤ 16) (ht : t < 65536) (d : Nat) : ∀ i : Nat, i + d = n → ∀ k, d < k →
    impl_WorldsIn.l0 k (t : Int) (winN i t) (n : Int) ((i : Nat) : Int) = some (winN n t) := by
  induction d with
  | zero =>
    intro i hi k hk
    obtain ⟨k, rfl⟩ : ∃ m, k = m + 1 := ⟨k - 1, by omega⟩
    have : i = n := by omega
    subst this
    rw [impl_WorldsIn.l0, if_neg (by omega)]
  | succ d ih =>
    intro i hi k hk
    obtain ⟨k, rfl⟩ : ∃ m, k = m + 1 := ⟨k - 1, by omega⟩
    have hb : t / 2 ^ i ≤ t := Nat.div_le_self _ _
    have e : Go.bits .and .i64 (shr .i64 (t : Int) (i : Int)) 1 = ((t / 2 ^ i % 2 : Nat) : Int) := by
      rw [shr_nat t i (by omega)]
      have := and64 (t / 2 ^ i) 1 (by omega) (by omega)
      rw [Nat.and_one_is_mod] at this
      exact this
    have := ih (i + 1) (by omega) k (by omega)
    rw [show ((i + 1 : Nat) : Int) = (i : Int) + 1 by omega, winN_succ] at this
    have hl := winN_len i t
    rw [impl_WorldsIn.l0, if_pos (by omega), if_pos (by omega), e]
    by_cases h : t / 2 ^ i % 2 = 1
    · rw [if_pos (by omega), if_pos (by omega), w64 (by omega) (by omega)]
      rw [if_pos h] at this
      exact this
    · rw [if_neg (by omega), w64 (by omega) (by omega)]
      rw [if_neg h, List.append_nil] at this
      exact this
theorem iwin (p t : Int) (k : Nat) (hk : 16 < k) : impl_WorldsIn.f k p t = some (win p t) := by
  unfold impl_WorldsIn.f win
  rw [itable, Option.bind_some]
  by_cases h : TOk p t
  · have h' := h
    unfold TOk at h'
    have hb := pw_of h'.1 h'.2.1
    have hb2 := tw_of h'.1 h'.2.1
    rw [if_pos (by simpa using h), if_pos (by omega), shl_pw h'.1 h'.2.1, if_pos h]
    have := iwin_loop (pw p).toNat t.toNat (by omega) (by omega) (pw p).toNat 0 (by omega) k (by omega)
    rw [show ((t.toNat : Nat) : Int) = t by omega, show (((pw p).toNat : Nat) : Int) = pw p by omega] at this
    exact this
  · rw [if_neg (by simpa using h), if_neg h]

theorem rdh (l : List Int) (i : Nat) (h : i < l.length) : rd l ((i : Nat) : Int) = l[i] := by
  unfold rd
  rw [Int.toNat_natCast, List.getD_eq_getElem?_getD, List.getElem?_eq_getElem h]; rfl
theorem hasint_loop (l : List Int) (x : Int) (hn : l.length ≤ 1048576) (d : Nat) : ∀ (i : Nat), i + d = l.length → ∀ k, d < k → laws_hasInt.l0 k l x ((i : Nat) : Int) = some (decide (x ∈ l.drop i)) := by
  induction d with
  | zero =>
    intro i hi k hk
    obtain ⟨k, rfl⟩ : ∃ m, k = m + 1 := ⟨k - 1, by omega⟩
    rw [laws_hasInt.l0, if_neg (by omega), List.drop_of_length_le (by omega)]; simp
  | succ d ih =>
    intro i hi k hk
    obtain ⟨k, rfl⟩ : ∃ m, k = m + 1 := ⟨k - 1, by omega⟩
    rw [laws_hasInt.l0, if_pos (by omega), if_pos (by omega), rdh l i (by omega), List.drop_eq_getElem_cons (by omega)]
    by_cases h : l[i]'(by omega) = x
    · rw [if_pos h]; congr 1; symm; rw [decide_eq_true_iff, h]; exact List.mem_cons_self
    · have := ih (i + 1) (by omega) k (by omega)
      rw [show ((i + 1 : Nat) : Int) = (i : Int) + 1 by omega] at this
      rw [if_neg h, w64 (by omega) (by omega), this]
      congr 1
      rw [decide_eq_decide, List.mem_cons]
      exact ⟨Or.inr, fun h' => h'.elim (fun e => absurd e.symm h) id⟩
theorem hasint_eq (l : List Int) (x : Int) (hn : l.length ≤ 1048576) (k : Nat) (hk : l.length < k) : laws_hasInt.f k l x = some (decide (x ∈ l)) := by
  unfold laws_hasInt.f
  have := hasint_loop l x hn l.length 0 (by omega) k hk
  rw [List.drop_zero] at this
  exact this

def WOk (p w : Int) : Prop := 1 ≤ p ∧ p ≤ 4 ∧ 0 ≤ w ∧ w < pw p
instance (p w : Int) : Decidable (WOk p w) := by unfold WOk; infer_instance
theorem iworld (p w : Int) : impl_WorldOk.f p w = some (decide (WOk p w)) := by
  unfold impl_WorldOk.f
  rw [people_eq, Option.bind_some]
  by_cases h : 1 ≤ p ∧ p ≤ 4
  · rw [if_pos (by simpa using h)]
    by_cases h2 : w ≥ 0
    · rw [if_pos h2, if_pos (by omega), shl_pw h.1 h.2]; congr 1; rw [decide_eq_decide]; unfold WOk; omega
    · rw [if_neg h2]; congr 1; symm; rw [decide_eq_false_iff_not]; unfold WOk; omega
  · rw [if_neg (by simpa using h)]; congr 1; symm; rw [decide_eq_false_iff_not]; unfold WOk; omega

/-- The table of worlds: each world's bit. -/
def towN (l : List Int) : Nat := l.foldl (fun t w => t ||| 2 ^ w.toNat) 0
def tow (p : Int) (l : List Int) : Int := if 1 ≤ p ∧ p ≤ 4 ∧ ∀ w ∈ l, WOk p w then (towN l : Int) else -1
theorem lt16 (a b : Nat) (ha : a < 65536) (hb : b ≤ 15) : a ||| 2 ^ b < 65536 := by
  have h2 : 2 ^ b < 2 ^ 16 := Nat.pow_lt_pow_right (by decide) (by omega)
  have := Nat.or_lt_two_pow (n := 16) (x := a) (y := 2 ^ b) (by omega) h2
  omega
theorem rdw (l : List Int) (i : Nat) (h : i < l.length) : rd l ((i : Nat) : Int) = l[i] := by
  unfold rd
  rw [Int.toNat_natCast, List.getD_eq_getElem?_getD, List.getElem?_eq_getElem h]; rfl
theorem tow_cons (w : Int) (l : List Int) (t : Nat) : l.foldl (fun t w => t ||| 2 ^ w.toNat) (t ||| 2 ^ w.toNat) = (w :: l).foldl (fun t w => t ||| 2 ^ w.toNat) t := rfl

theorem itow_loop (p : Int) (hp : 1 ≤ p ∧ p ≤ 4) (l : List Int) (hn : l.length ≤ 1048576) (d : Nat) : ∀ (i t : Nat), i + d = l.length → t < 65536 → ∀ k, d < k →
    impl_TableOfWorlds.l0 k p (t : Int) l (l.length : Int) ((i : Nat) : Int) = some (if ∀ w ∈ l.drop i, WOk p w then (((l.drop i).foldl (fun t w => t ||| 2 ^ w.toNat) t : Nat) : Int) else -1) := by
  have hb := pw_of hp.1 hp.2
  induction d with
  | zero =>
    intro i t hi ht k hk
    obtain ⟨k, rfl⟩ : ∃ m, k = m + 1 := ⟨k - 1, by omega⟩
    rw [impl_TableOfWorlds.l0, if_neg (by omega), List.drop_of_length_le (by omega), if_pos (by simp)]; rfl
  | succ d ih =>
    intro i t hi ht k hk
    obtain ⟨k, rfl⟩ : ∃ m, k = m + 1 := ⟨k - 1, by omega⟩
    have hlt : i < l.length := by omega
    rw [impl_TableOfWorlds.l0, if_pos (by omega), if_pos (by omega), if_pos (by omega), rdw l i hlt, iworld, Option.bind_some, List.drop_eq_getElem_cons hlt]
    by_cases h : WOk p l[i]
    · have h' := h
      unfold WOk at h'
      obtain ⟨n, hnw⟩ := Int.eq_ofNat_of_zero_le h'.2.2.1
      have e1 : shl .i64 1 ((n : Nat) : Int) = ((2 ^ n : Nat) : Int) := by have := shl_nat 1 n (by omega) (by omega); simpa using this
      have hlt2 := lt16 t n ht (by omega)
      have h2 : 2 ^ n < 2 ^ 16 := Nat.pow_lt_pow_right (by decide) (by omega)
      rw [if_pos (by simpa using h), if_pos (by omega), w64 (by omega) (by omega), hnw, e1, or64 _ _ (by omega) (by omega)]
      have := ih (i + 1) (t ||| 2 ^ n) (by omega) hlt2 k (by omega)
      rw [show ((i + 1 : Nat) : Int) = (i : Int) + 1 by omega] at this
      rw [this, ← hnw]
      congr 1
      simp only [List.mem_cons, forall_eq_or_imp, List.foldl_cons, h, true_and]
      rw [hnw, Int.toNat_natCast]
    · rw [if_neg (by simpa using h), if_neg (fun hh => h (hh _ (List.mem_cons_self ..)))]
theorem itow (p : Int) (l : List Int) (hn : l.length ≤ 1048576) (k : Nat) (hk : l.length < k) : impl_TableOfWorlds.f k p l = some (tow p l) := by
  unfold impl_TableOfWorlds.f
  rw [people_eq, Option.bind_some]
  by_cases hp : 1 ≤ p ∧ p ≤ 4
  · rw [if_pos (by simpa using hp)]
    have := itow_loop p hp l hn l.length 0 0 (by omega) (by omega) k hk
    rw [List.drop_zero] at this
    rw [show (0 : Int) = ((0 : Nat) : Int) from rfl, this]
    unfold tow towN
    simp only [hp, true_and]
  · rw [if_neg (by simpa using hp)]
    unfold tow
    rw [if_neg (by intro h; exact hp ⟨h.1, h.2.1⟩)]

theorem bit_iff (t w : Nat) : t.testBit w = decide (t / 2 ^ w % 2 = 1) := Nat.testBit_eq_decide_div_mod_eq
theorem foldl_bit (l : List Int) (t w : Nat) : (l.foldl (fun t w => t ||| 2 ^ w.toNat) t).testBit w = (t.testBit w || decide (∃ x ∈ l, x.toNat = w)) := by
  induction l generalizing t with
  | nil => simp
  | cons a l ih =>
    rw [List.foldl_cons, ih, Nat.testBit_or, Nat.testBit_two_pow]
    by_cases h : a.toNat = w
    · simp [h]
    · simp [h]
theorem tow_bit (l : List Int) (w : Nat) : (towN l).testBit w = decide (∃ x ∈ l, x.toNat = w) := by
  unfold towN
  rw [foldl_bit]; simp
theorem towN_lt (l : List Int) (h : ∀ x ∈ l, x < 16) : towN l < 65536 := by
  have : towN l < 2 ^ 16 := by
    apply Nat.lt_pow_two_of_testBit
    intro i hi
    rw [tow_bit]
    simp only [decide_eq_false_iff_not, not_exists, not_and]
    intro x hx e
    have := h x hx
    omega
  omega
theorem mem_winN (n t : Nat) (x : Int) : x ∈ winN n t ↔ 0 ≤ x ∧ x < n ∧ t.testBit x.toNat = true := by
  unfold winN
  rw [List.mem_map]
  constructor
  · rintro ⟨w, hw, rfl⟩
    rw [List.mem_filter, List.mem_range] at hw
    refine ⟨by omega, by omega, ?_⟩
    rw [Int.toNat_natCast, bit_iff]
    exact hw.2
  · rintro ⟨h0, h1, h2⟩
    refine ⟨x.toNat, ?_, by omega⟩
    rw [List.mem_filter, List.mem_range]
    rw [bit_iff] at h2
    exact ⟨by omega, h2⟩
theorem tow_win (n t : Nat) (h : t < 2 ^ n) : towN (winN n t) = t := by
  apply Nat.eq_of_testBit_eq
  intro i
  rw [tow_bit]
  by_cases hb : t.testBit i = true
  · rw [hb, decide_eq_true_iff]
    refine ⟨(i : Int), (mem_winN n t _).2 ⟨by omega, ?_, by rw [Int.toNat_natCast]; exact hb⟩, by omega⟩
    by_cases hi : i < n
    · omega
    · rw [Nat.testBit_lt_two_pow (Nat.lt_of_lt_of_le h (Nat.pow_le_pow_right (by decide) (by omega)))] at hb
      cases hb
  · rw [Bool.not_eq_true] at hb
    rw [hb, decide_eq_false_iff_not]
    rintro ⟨x, hx, rfl⟩
    rw [(mem_winN n t x).1 hx |>.2.2] at hb
    cases hb
theorem towN_congr (a b : List Int) (h : ∀ w : Nat, (∃ x ∈ a, x.toNat = w) ↔ (∃ x ∈ b, x.toNat = w)) : towN a = towN b := by
  apply Nat.eq_of_testBit_eq
  intro i
  rw [tow_bit, tow_bit, decide_eq_decide]
  exact h i
/-- 2 to the number of worlds, of natural numbers. -/
theorem tw_nat {p : Int} (h0 : 1 ≤ p) (h1 : p ≤ 4) : tw p = ((2 ^ (pw p).toNat : Nat) : Int) := by
  rw [tw_pw h0 h1]; simp
theorem tow_TOk (p : Int) (hp : 1 ≤ p ∧ p ≤ 4) (l : List Int) (h : ∀ w ∈ l, WOk p w) : TOk p (towN l : Int) := by
  have hb := pw_of hp.1 hp.2
  refine ⟨hp.1, hp.2, by omega, ?_⟩
  rw [tw_nat hp.1 hp.2]
  have : towN l < 2 ^ (pw p).toNat := by
    apply Nat.lt_pow_two_of_testBit
    intro i hi
    rw [tow_bit]
    simp only [decide_eq_false_iff_not, not_exists, not_and]
    intro x hx e
    have := h x hx
    unfold WOk at this
    omega
  omega

/-- How many numbers below n have f. -/
def cnt (f : Nat → Bool) : Nat → Nat
  | 0 => 0
  | n + 1 => cnt f n + (if f n = true then 1 else 0)
theorem cnt_succ (f : Nat → Bool) (n : Nat) : cnt f (n + 1) = cnt f n + (if f n = true then 1 else 0) := rfl
theorem cnt_head (f : Nat → Bool) (n : Nat) : cnt f (n + 1) = (if f 0 = true then 1 else 0) + cnt (fun i => f (i + 1)) n := by
  induction n with
  | zero => simp [cnt]
  | succ n ih => rw [cnt_succ f (n + 1), ih, cnt_succ (fun i => f (i + 1)) n]; omega
theorem cnt_congr (f g : Nat → Bool) (n : Nat) (h : ∀ i, i < n → f i = g i) : cnt f n = cnt g n := by
  induction n with
  | zero => rfl
  | succ n ih => rw [cnt_succ, cnt_succ, ih (fun i hi => h i (by omega)), h n (by omega)]
theorem cnt_rev (f : Nat → Bool) (n : Nat) : cnt (fun i => f (n - 1 - i)) n = cnt f n := by
  induction n with
  | zero => rfl
  | succ n ih =>
    rw [cnt_head, cnt_succ f n, ← ih]
    have e : cnt (fun i => f (n + 1 - 1 - (i + 1))) n = cnt (fun i => f (n - 1 - i)) n := cnt_congr _ _ n (fun i hi => by rw [show n + 1 - 1 - (i + 1) = n - 1 - i by omega])
    rw [e]
    simp
    omega
theorem cnt_even (m : Nat) : ∀ f : Nat → Bool, (∀ i, i < 2 * m → f i = f (2 * m - 1 - i)) → cnt f (2 * m) % 2 = 0 := by
  induction m with
  | zero => intro f _; rfl
  | succ m ih =>
    intro f h
    have h0 := h 0 (by omega)
    rw [show 2 * (m + 1) = (2 * m + 1) + 1 by omega, cnt_succ, cnt_head]
    have hi := ih (fun i => f (i + 1)) (fun i hi => by
      have := h (i + 1) (by omega)
      rw [show 2 * (m + 1) - 1 - (i + 1) = 2 * m - 1 - i + 1 by omega] at this
      exact this)
    rw [show 2 * (m + 1) - 1 - 0 = 2 * m + 1 by omega] at h0
    rw [← h0]
    split <;> omega
theorem win_cnt (n t : Nat) : (winN n t).length = cnt (fun i => t.testBit i) n := by
  induction n with
  | zero => rfl
  | succ n ih =>
    rw [winN_succ, List.length_append, ih, cnt_succ, bit_iff]
    congr 1
    by_cases h : t / 2 ^ n % 2 = 1 <;> simp [h]
theorem win_inter (n t o : Nat) : (winN n t).filter (fun x => decide (x ∈ winN n o)) = winN n (t &&& o) := by
  unfold winN
  rw [List.filter_map, List.filter_filter]
  congr 1
  apply List.filter_congr
  intro w hw
  rw [List.mem_range] at hw
  have hm : ((w : Nat) : Int) ∈ ((List.range n).filter (fun w => decide (o / 2 ^ w % 2 = 1))).map (fun w => ((w : Nat) : Int)) ↔ o.testBit w = true := by
    have := mem_winN n o (w : Int)
    unfold winN at this
    rw [this, Int.toNat_natCast]
    constructor
    · exact fun h => h.2.2
    · exact fun h => ⟨by omega, by omega, h⟩
  have ht : t.testBit w = true ↔ t / 2 ^ w % 2 = 1 := by rw [bit_iff, decide_eq_true_iff]
  rw [Bool.eq_iff_iff, Bool.and_eq_true, decide_eq_true_iff, ← bit_iff, Nat.testBit_and, Bool.and_eq_true]
  show (decide _ = true ∧ _) ↔ _
  rw [decide_eq_true_iff]
  constructor
  · rintro ⟨a, b⟩; exact ⟨ht.2 b, hm.1 a⟩
  · rintro ⟨a, b⟩; exact ⟨hm.2 b, ht.1 a⟩

theorem oppN_lt {p : Int} (hp : 1 ≤ p ∧ p ≤ 4) (t : Nat) : ((oppN p t : Nat) : Int) < tw p := by
  have := tbN_lt (fun w => t.testBit ((pw p).toNat - 1 - w)) (pw p).toNat
  rw [tw_nat hp.1 hp.2]
  unfold oppN
  omega
theorem oppN_bit (p : Int) (t i : Nat) : (oppN p t).testBit i = (decide (i < (pw p).toNat) && t.testBit ((pw p).toNat - 1 - i)) := by
  unfold oppN
  rw [tbN_bit]
theorem oppN_opp (p : Int) (t : Nat) (ht : t < 2 ^ (pw p).toNat) : oppN p (oppN p t) = t := by
  apply Nat.eq_of_testBit_eq
  intro i
  rw [oppN_bit, oppN_bit]
  by_cases hi : i < (pw p).toNat
  · rw [decide_eq_true hi, decide_eq_true (by omega : (pw p).toNat - 1 - i < (pw p).toNat), show (pw p).toNat - 1 - ((pw p).toNat - 1 - i) = i by omega]; simp
  · have hlt : t < 2 ^ i := Nat.lt_of_lt_of_le ht (Nat.pow_le_pow_right (by decide) (by omega))
    rw [decide_eq_false hi, Nat.testBit_lt_two_pow hlt]; rfl
theorem opp_len (p : Int) (t : Nat) : (winN (pw p).toNat (oppN p t)).length = (winN (pw p).toNat t).length := by
  rw [win_cnt, win_cnt, ← cnt_rev (fun i => t.testBit i)]
  apply cnt_congr
  intro i hi
  rw [oppN_bit, decide_eq_true hi]; simp
theorem pw_even {p : Int} (hp : 1 ≤ p ∧ p ≤ 4) : ∃ m, (pw p).toNat = 2 * m := by
  rcases p4 hp.1 hp.2 with rfl | rfl | rfl | rfl
  · exact ⟨1, by decide⟩
  · exact ⟨2, by decide⟩
  · exact ⟨4, by decide⟩
  · exact ⟨8, by decide⟩

theorem alive_eq : laws_alive.f = some true := by
  unfold laws_alive.f
  rw [iworld, Option.bind_some, if_pos (by decide), iworld, Option.bind_some]
  decide

/-! ### the law -/
theorem rdz (l : List Int) (i : Nat) (h : i < l.length) : rd l ((i : Nat) : Int) = l[i] := by
  unfold rd
  rw [Int.toNat_natCast, List.getD_eq_getElem?_getD, List.getElem?_eq_getElem h]; rfl
theorem bt_l0 (p : Int) (t n : Int) (a b : List Int) (ha : a.length ≤ 16) (hb : b.length ≤ 16) (h1 : tow p (a ++ b) = Go.bits .or .i64 t n) (h2 : tow p (a.filter (fun x => decide (x ∈ b))) = Go.bits .and .i64 t n) (h3 : ((a.filter (fun x => decide (x ∈ b))).length : Int) % 2 = 0) (d : Nat) : ∀ (i : Nat) (c : List Int), i + d = a.length → c = (a.take i).filter (fun x => decide (x ∈ b)) → ∀ k, d + 60 < k →
    laws_FnBothTables.l0 k p t n a b c ((i : Nat) : Int) = some true := by
  induction d with
  | zero =>
    intro i c hi hc k hk
    obtain ⟨k, rfl⟩ : ∃ m, k = m + 1 := ⟨k - 1, by omega⟩
    have e : c = a.filter (fun x => decide (x ∈ b)) := by rw [hc, List.take_of_length_le (by omega)]
    have hcl : c.length ≤ 16 := by rw [e]; exact Nat.le_trans (List.length_filter_le _ _) ha
    rw [laws_FnBothTables.l0, if_neg (by omega), alive_eq, Option.bind_some, if_pos rfl, Option.bind_some, if_pos (by simp; omega), Option.bind_some, if_pos (by simp; omega), List.nil_append, itow p (a ++ b) (by rw [List.length_append]; omega) k (by rw [List.length_append]; omega), Option.bind_some, if_pos h1, itow p c (by omega) k (by omega), Option.bind_some, e, if_pos h2]
    congr 1; rw [beq_iff_eq]; exact h3
  | succ d ih =>
    intro i c hi hc k hk
    obtain ⟨k, rfl⟩ : ∃ m, k = m + 1 := ⟨k - 1, by omega⟩
    have hcl : c.length ≤ 16 := by rw [hc]; exact Nat.le_trans (List.length_filter_le _ _) (by rw [List.length_take]; omega)
    rw [laws_FnBothTables.l0, if_pos (by omega), if_pos (by omega), rdz a i (by omega), hasint_eq b _ (by omega) k (by omega), Option.bind_some, w64 (by omega) (by omega)]
    by_cases hm : a[i]'(by omega) ∈ b
    · rw [if_pos (by simpa using hm), if_pos (by omega)]
      have := ih (i + 1) (c ++ [a[i]'(by omega)]) (by omega) (by rw [List.take_succ_eq_append_getElem (by omega), List.filter_append, hc]; congr 1; simp [hm]) k (by omega)
      rw [show ((i + 1 : Nat) : Int) = (i : Int) + 1 by omega] at this
      exact this
    · rw [if_neg (by simpa using hm)]
      have := ih (i + 1) c (by omega) (by rw [List.take_succ_eq_append_getElem (by omega), List.filter_append, hc]; simp [hm]) k (by omega)
      rw [show ((i + 1 : Nat) : Int) = (i : Int) + 1 by omega] at this
      exact this
theorem FnBothTables : laws_FnBothTables.Pure := by
  intro l _ _ h
  obtain ⟨p, t, hb, hk⟩ := drawOppT_ok l h
  refine ⟨100, ?_⟩
  unfold laws_FnBothTables.f
  by_cases hl : (l.length : Int) > 1048576
  · rw [if_pos hl]
  · rw [if_neg hl, hk 100 (by omega)]; simp only [Option.bind_some]
    rw [iopptab, Option.bind_some, stable, Option.bind_some]
    by_cases hT : TOk p t
    · have hT' := hT
      unfold TOk at hT'
      have hp : 1 ≤ p ∧ p ≤ 4 := ⟨hT'.1, hT'.2.1⟩
      have hpw := pw_of hp.1 hp.2
      have htw := tw_of hp.1 hp.2
      have e : oppT p t = (oppN p t.toNat : Int) := by unfold oppT; rw [if_pos hT]
      have hlt := oppN_lt hp t.toNat
      have ht2 : t.toNat < 2 ^ (pw p).toNat := by have := tw_nat hp.1 hp.2; omega
      have ho2 : oppN p t.toNat < 2 ^ (pw p).toNat := by have := tw_nat hp.1 hp.2; omega
      have hO : TOk p (oppN p t.toNat : Int) := ⟨hp.1, hp.2, by omega, hlt⟩
      have w1 : win p t = winN (pw p).toNat t.toNat := by unfold win; rw [if_pos hT]
      have w2 : win p (oppN p t.toNat : Int) = winN (pw p).toNat (oppN p t.toNat) := by unfold win; rw [if_pos hO, Int.toNat_natCast]
      have l1 := winN_len (pw p).toNat t.toNat
      have l2 := winN_len (pw p).toNat (oppN p t.toNat)
      have mem : ∀ q w, w ∈ winN (pw p).toNat q → WOk p w := by
        intro q w hw
        rw [mem_winN] at hw
        unfold WOk
        omega
      rw [if_pos (by simpa using hT), e, iwin p t 100 (by omega), Option.bind_some, iwin p _ 100 (by omega), Option.bind_some, w1, w2]
      obtain ⟨m, rfl⟩ : ∃ m : Nat, t = (m : Int) := ⟨t.toNat, by omega⟩
      rw [Int.toNat_natCast] at *
      have hand : (m &&& oppN p m) < 2 ^ (pw p).toNat := Nat.and_lt_two_pow _ ho2
      refine bt_l0 p _ _ _ _ (by omega) (by omega) ?_ ?_ ?_ (winN (pw p).toNat m).length 0 [] (by omega) rfl 100 (by omega)
      · unfold tow
        rw [if_pos ⟨hp.1, hp.2, fun w hw => (List.mem_append.1 hw).elim (mem _ w) (mem _ w)⟩, or64 _ _ (by omega) (by omega)]
        congr 1
        apply Nat.eq_of_testBit_eq
        intro i
        have e1 : m.testBit i = decide (∃ x ∈ winN (pw p).toNat m, x.toNat = i) := by rw [← tow_bit, tow_win _ _ ht2]
        have e2 : (oppN p m).testBit i = decide (∃ x ∈ winN (pw p).toNat (oppN p m), x.toNat = i) := by rw [← tow_bit, tow_win _ _ ho2]
        rw [tow_bit, Nat.testBit_or, e1, e2, Bool.eq_iff_iff, Bool.or_eq_true, decide_eq_true_iff, decide_eq_true_iff, decide_eq_true_iff]
        constructor
        · rintro ⟨x, hx, e⟩
          rcases List.mem_append.1 hx with hx | hx
          · exact .inl ⟨x, hx, e⟩
          · exact .inr ⟨x, hx, e⟩
        · rintro (⟨x, hx, e⟩ | ⟨x, hx, e⟩)
          · exact ⟨x, List.mem_append.2 (.inl hx), e⟩
          · exact ⟨x, List.mem_append.2 (.inr hx), e⟩
      · rw [win_inter, and64 _ _ (by omega) (by omega)]
        unfold tow
        rw [if_pos ⟨hp.1, hp.2, mem _⟩, tow_win _ _ hand]
      · rw [win_inter, win_cnt]
        obtain ⟨q, hq⟩ := pw_even hp
        have := cnt_even q (fun i => (m &&& oppN p m).testBit i) (fun i hi => by
          rw [Nat.testBit_and, Nat.testBit_and, oppN_bit, oppN_bit, hq, decide_eq_true hi, decide_eq_true (by omega : 2 * q - 1 - i < 2 * q), show 2 * q - 1 - (2 * q - 1 - i) = i by omega]
          simp [Bool.and_comm])
        rw [hq]
        omega
    · have e : oppT p t = -1 := by unfold oppT; rw [if_neg hT]
      rw [if_neg (by simpa using hT), e, if_pos rfl, alive_eq]; rfl

end Go.Proofs.Ytpnjanaggkmbaaa.Pure
