/- Proved: FnTellersIn returns true for every code of bytes. No condition. -/
import Derived.Test.YtpnjanaggkmbaaaPFnTellersInx2
import Derived.Laws.BitsLemmas
import Derived.Laws.BitsAllLaws
namespace Go.Proofs.Ytpnjanaggkmbaaa.Pure
open Go.RowKit Go.Proofs.Ytpnjanaggkmbaaa.PFnTellersIn Go.Proofs.YtpnjanaggkmbaaaW.PrintWords Go.Proofs.YtpnjanaggkmbaaaW.PrintLast Go.Proofs.YtpnjanaggkmbaaaW.PrintMore
set_option linter.unusedVariables false
set_option linter.unusedSimpArgs false

/-! ### base: whole numbers -/
theorem w64 {x : Int} (h0 : -9223372036854775808 ≤ x) (h1 : x ≤ 9223372036854775807) : wrap64 x = x := by
  unfold wrap64; omega
theorem wf64 {x : Int} (h : (Lit.int .i64 x).wf = true) : -9223372036854775808 ≤ x ∧ x ≤ 9223372036854775807 := by
  simp only [Lit.wf, IntKind.min, IntKind.max, IntKind.signed, IntKind.bits, Bool.and_eq_true, decide_eq_true_eq, if_true] at h
  omega
theorem wf8 {x : Int} (h : (Lit.int .u8 x).wf = true) : 0 ≤ x ∧ x ≤ 255 := by
  simp only [Lit.wf, IntKind.min, IntKind.max, IntKind.signed, IntKind.bits, Bool.and_eq_true, decide_eq_true_eq] at h
  simpa using h
theorem ofInt_i64 (a : Nat) (ha : a < 18446744073709551616) : (BitVec.ofInt 64 (a : Int)).toNat = a := by
  rw [BitVec.ofInt_natCast, BitVec.toNat_ofNat]; exact Nat.mod_eq_of_lt (by omega)
theorem wrapi (x : Nat) (h : x < 9223372036854775808) : IntKind.i64.wrap (x : Int) = x := by
  rw [IntKind.wrap_i64]; omega
theorem or64 (a b : Nat) (ha : a < 4611686018427387904) (hb : b < 4611686018427387904) : Go.bits .or .i64 (a : Int) (b : Int) = ((a ||| b : Nat) : Int) := by
  have hx : a ||| b < 2 ^ 62 := Nat.or_lt_two_pow (by omega) (by omega)
  show IntKind.i64.wrap ((BitVec.ofInt 64 (a : Int) ||| BitVec.ofInt 64 (b : Int)).toNat : Int) = _
  rw [BitVec.toNat_or, ofInt_i64 a (by omega), ofInt_i64 b (by omega), wrapi _ (by omega)]
theorem and64 (a b : Nat) (ha : a < 4611686018427387904) (hb : b < 4611686018427387904) : Go.bits .and .i64 (a : Int) (b : Int) = ((a &&& b : Nat) : Int) := by
  have hx : a &&& b < 2 ^ 62 := Nat.and_lt_two_pow _ (by omega)
  show IntKind.i64.wrap ((BitVec.ofInt 64 (a : Int) &&& BitVec.ofInt 64 (b : Int)).toNat : Int) = _
  rw [BitVec.toNat_and, ofInt_i64 a (by omega), ofInt_i64 b (by omega), wrapi _ (by omega)]
theorem xor64 (a b : Nat) (ha : a < 4611686018427387904) (hb : b < 4611686018427387904) : Go.bits .xor .i64 (a : Int) (b : Int) = ((a ^^^ b : Nat) : Int) := by
  have hx : a ^^^ b < 2 ^ 62 := Nat.xor_lt_two_pow (by omega) (by omega)
  show IntKind.i64.wrap ((BitVec.ofInt 64 (a : Int) ^^^ BitVec.ofInt 64 (b : Int)).toNat : Int) = _
  rw [BitVec.toNat_xor, ofInt_i64 a (by omega), ofInt_i64 b (by omega), wrapi _ (by omega)]
theorem andnot64 (a b : Nat) (ha : a < 4611686018427387904) (hb : b < 4611686018427387904) : Go.bits .andNot .i64 (a : Int) (b : Int) = ((a &&& (18446744073709551615 - b) : Nat) : Int) := by
  have hx : a &&& (18446744073709551615 - b) < 2 ^ 62 := Nat.lt_of_le_of_lt Nat.and_le_left (by omega)
  show IntKind.i64.wrap ((BitVec.ofInt 64 (a : Int) &&& ~~~BitVec.ofInt 64 (b : Int)).toNat : Int) = _
  rw [BitVec.toNat_and, BitVec.toNat_not, ofInt_i64 a (by omega), ofInt_i64 b (by omega)]
  have e : 2 ^ 64 - 1 - b = 18446744073709551615 - b := by omega
  rw [e, wrapi _ (by omega)]
/-- So many worlds; so many tables. -/
def pw (p : Int) : Int := 2 ^ p.toNat
def tw (p : Int) : Int := 2 ^ (2 ^ p.toNat)
theorem p4 {p : Int} (h0 : 1 ≤ p) (h1 : p ≤ 4) : p = 1 ∨ p = 2 ∨ p = 3 ∨ p = 4 := by omega
theorem pw_of {p : Int} (h0 : 1 ≤ p) (h1 : p ≤ 4) : 2 ≤ pw p ∧ pw p ≤ 16 := by
  rcases p4 h0 h1 with rfl | rfl | rfl | rfl <;> decide
theorem tw_of {p : Int} (h0 : 1 ≤ p) (h1 : p ≤ 4) : 4 ≤ tw p ∧ tw p ≤ 65536 := by
  rcases p4 h0 h1 with rfl | rfl | rfl | rfl <;> decide
theorem tw_pw {p : Int} (h0 : 1 ≤ p) (h1 : p ≤ 4) : tw p = 2 ^ (pw p).toNat := by
  rcases p4 h0 h1 with rfl | rfl | rfl | rfl <;> decide
theorem shl_pw {p : Int} (h0 : 1 ≤ p) (h1 : p ≤ 4) : shl .i64 1 p = pw p := by
  rcases p4 h0 h1 with rfl | rfl | rfl | rfl <;> decide
theorem shlu_pw {p : Int} (h0 : 1 ≤ p) (h1 : p ≤ 4) : shl .u64 1 p = pw p := by
  rcases p4 h0 h1 with rfl | rfl | rfl | rfl <;> decide
theorem shl_tw {p : Int} (h0 : 1 ≤ p) (h1 : p ≤ 4) : shl .i64 1 (pw p) = tw p := by
  rcases p4 h0 h1 with rfl | rfl | rfl | rfl <;> decide
/-- A shift of a small number by a small count. -/
theorem shl_nat (x n : Nat) (hn : n ≤ 16) (hx : x ≤ 65536) : shl .i64 (x : Int) (n : Int) = ((x * 2 ^ n : Nat) : Int) := by
  unfold shl
  have e : min ((n : Int).toNat) (IntKind.i64.bits) = n := by simp [IntKind.bits]; omega
  rw [e]
  have hp : 2 ^ n ≤ 2 ^ 16 := Nat.pow_le_pow_right (by decide) hn
  have hm : x * 2 ^ n ≤ 65536 * 2 ^ 16 := Nat.mul_le_mul hx hp
  have e2 : (x : Int) * 2 ^ n = ((x * 2 ^ n : Nat) : Int) := by simp
  rw [e2, wrapi _ (by omega)]
theorem shr_nat (x n : Nat) (hn : n ≤ 16) : shr .i64 (x : Int) (n : Int) = ((x / 2 ^ n : Nat) : Int) := by
  unfold shr
  have e : min ((n : Int).toNat) (IntKind.i64.bits) = n := by simp [IntKind.bits]; omega
  rw [e]
  simp

/-- The bytes that are drawn from. -/
def Bytes (l : List Int) : Prop := l.length ≤ 2000 ∧ ∀ x ∈ l, 0 ≤ x ∧ x ≤ 255
theorem open_ok (l : List Int) (h : ∀ x ∈ l, (Lit.int .u8 x).wf = true) : ∃ b, Bytes b ∧ spec_l20Open.f l = some (b, 0) := by
  unfold spec_l20Open.f
  by_cases hl : (l.length : Int) > 2000
  · refine ⟨l.take 2000, ⟨by simp; omega, fun x hx => wf8 (h x (List.mem_of_mem_take hx))⟩, ?_⟩
    rw [if_pos hl, if_pos (by omega)]
  · exact ⟨l, ⟨by omega, fun x hx => wf8 (h x hx)⟩, by rw [if_neg hl]⟩

theorem rd_byte {b : List Int} (h : Bytes b) (i : Int) : 0 ≤ rd b i ∧ rd b i ≤ 255 := by
  unfold rd
  rw [List.getD_eq_getElem?_getD]
  by_cases hi : i.toNat < b.length
  · rw [List.getElem?_eq_getElem hi, Option.getD_some]; exact h.2 _ (List.getElem_mem hi)
  · rw [List.getElem?_eq_none (by omega)]; decide
theorem pick_ok {b : List Int} (hb : Bytes b) (pos n : Int) (h0 : 0 ≤ pos) (h1 : pos ≤ 1000000000) :
    ∃ r, (0 ≤ r ∧ (1 ≤ n → r < n) ∧ (n < 1 → r = 0)) ∧ ∀ k, spec_l20Rd_pick.f (k + 1) b pos n = some (r, pos + 1) := by
  have hl := hb.1
  have e1 : wrap64 (pos + 1) = pos + 1 := w64 (by omega) (by omega)
  have e2 : wrap64 (pos + 1 - 1) = pos := by rw [w64 (by omega) (by omega)]; omega
  by_cases hn : n < 1
  · refine ⟨0, ⟨by omega, by omega, fun _ => rfl⟩, fun k => ?_⟩
    unfold spec_l20Rd_pick.f
    rw [if_pos hn, e1]; rw [spec_l20Rd_pick.j0]; rw [if_pos rfl]
  · by_cases hz : b.length = 0
    · refine ⟨0, ⟨by omega, by omega, fun _ => rfl⟩, fun k => ?_⟩
      unfold spec_l20Rd_pick.f
      rw [if_neg hn, e1]; rw [spec_l20Rd_pick.j0]; rw [if_pos (by simp; exact List.eq_nil_of_length_eq_zero hz)]
    · by_cases hp : pos < (b.length : Int)
      · have hr := rd_byte hb pos
        refine ⟨Int.tmod (rd b pos) n, ⟨Int.tmod_nonneg _ hr.1, fun _ => Int.tmod_lt_of_pos _ (by omega), by omega⟩, fun k => ?_⟩
        unfold spec_l20Rd_pick.f
        rw [if_neg hn, e1]; rw [spec_l20Rd_pick.j0]
        rw [if_neg (by simp; exact List.ne_nil_of_length_pos (by omega)), e2, if_pos hp, if_pos h0, if_neg (by omega), w64 (x := rd b pos) (by omega) (by omega)]
      · have hr1 := rd_byte hb (Int.tmod pos (b.length : Int))
        have em : wrap64 (wrap64 (pos * 7) + 3) = pos * 7 + 3 := by rw [w64 (x := pos * 7) (by omega) (by omega), w64 (by omega) (by omega)]
        have hr2 := rd_byte hb (Int.tmod (pos * 7 + 3) (b.length : Int))
        have hd : 0 ≤ Int.tdiv pos (b.length : Int) ∧ Int.tdiv pos (b.length : Int) ≤ pos := ⟨Int.tdiv_nonneg h0 (by omega), by rw [Int.tdiv_eq_ediv_of_nonneg h0]; exact Int.ediv_le_self _ h0⟩
        generalize hA : rd b (Int.tmod pos (b.length : Int)) = A at hr1
        generalize hB : rd b (Int.tmod (pos * 7 + 3) (b.length : Int)) = B at hr2
        generalize hD : Int.tdiv pos (b.length : Int) = D at hd
        obtain ⟨X, hX⟩ : ∃ X : Nat, A * 131 + B * 1117 + pos * 29 + D * 53 = (X : Int) := Int.eq_ofNat_of_zero_le (by omega)
        have hXb : (X : Int) < 4611686018427387904 := by omega
        refine ⟨Int.tmod ((X ^^^ (X / 64) : Nat) : Int) n, ⟨Int.tmod_nonneg _ (by omega), fun _ => Int.tmod_lt_of_pos _ (by omega), by omega⟩, fun k => ?_⟩
        unfold spec_l20Rd_pick.f
        rw [if_neg hn, e1]; rw [spec_l20Rd_pick.j0]
        rw [if_neg (by simp; exact List.ne_nil_of_length_pos (by omega)), e2, if_neg hp, if_neg (by omega), if_pos (Int.tmod_nonneg _ h0), if_pos (Int.tmod_lt_of_pos _ (by omega)), em, if_pos (Int.tmod_nonneg _ (by omega)), if_pos (Int.tmod_lt_of_pos _ (by omega)), if_neg (by omega), hA, hB, hD]
        have w1 : wrap64 (wrap64 A * 131) = A * 131 := by rw [w64 (x := A) (by omega) (by omega), w64 (by omega) (by omega)]
        have w2 : wrap64 (wrap64 B * 1117) = B * 1117 := by rw [w64 (x := B) (by omega) (by omega), w64 (by omega) (by omega)]
        have w3 : wrap64 (pos * 29) = pos * 29 := w64 (by omega) (by omega)
        have w4 : wrap64 (wrap64 D * 53) = D * 53 := by rw [w64 (x := D) (by omega) (by omega), w64 (by omega) (by omega)]
        have w5 : wrap64 (A * 131 + B * 1117) = A * 131 + B * 1117 := w64 (by omega) (by omega)
        have w6 : wrap64 (A * 131 + B * 1117 + pos * 29) = A * 131 + B * 1117 + pos * 29 := w64 (by omega) (by omega)
        have w7 : wrap64 (A * 131 + B * 1117 + pos * 29 + D * 53) = (X : Int) := by rw [w64 (by omega) (by omega)]; exact hX
        rw [w1, w2, w3, w4, w5, w6, w7]
        have w8 : wrap64 (Int.tdiv (X : Int) 64) = ((X / 64 : Nat) : Int) := by
          rw [Int.tdiv_eq_ediv_of_nonneg (by omega), w64 (by omega) (by omega)]; simp
        rw [w8, xor64 _ _ (by omega) (by omega)]

theorem l20World_ok {b : List Int} (hb : Bytes b) (pos : Int) (h0 : 0 ≤ pos) (h1 : pos ≤ 900) : ∃ p w, (1 ≤ p ∧ p ≤ 8 ∧ 0 ≤ w ∧ w ≤ 100) ∧ ∀ k, 0 < k → spec_l20World.f k b pos = some (p, w, pos + 4) := by
  obtain ⟨r1, h1', p1⟩ := pick_ok hb pos 4 (by omega) (by omega)
  obtain ⟨r2, h2, p2⟩ := pick_ok hb (pos + 1) 40 (by omega) (by omega)
  have hpw := pw_of (p := 1 + r1) (by omega) (by omega)
  obtain ⟨r3, h3, p3⟩ := pick_ok hb (pos + 1 + 1) (pw (1 + r1)) (by omega) (by omega)
  obtain ⟨r4, h4, p4_⟩ := pick_ok hb (pos + 1 + 1 + 1) 40 (by omega) (by omega)
  have d2 : Int.tdiv r2 39 = r2 / 39 := Int.tdiv_eq_ediv_of_nonneg h2.1
  have d4 : Int.tdiv r4 39 = r4 / 39 := Int.tdiv_eq_ediv_of_nonneg h4.1
  refine ⟨1 + r1 + r2 / 39 * 4, r3 + r4 / 39 * 16, by omega, fun k hkd => ?_⟩
  obtain ⟨k, rfl⟩ : ∃ m, k = m + 1 := ⟨k - 1, by omega⟩
  unfold spec_l20World.f
  rw [p1]; simp only [Option.bind_some]
  rw [p2]; simp only [Option.bind_some]
  rw [w64 (x := 1 + r1) (by omega) (by omega), if_pos (by omega), shl_pw (by omega) (by omega), p3]; simp only [Option.bind_some]
  rw [p4_]; simp only [Option.bind_some]
  rw [d2, d4, w64 (x := r2 / 39) (by omega) (by omega), w64 (x := r4 / 39) (by omega) (by omega), w64 (x := r2 / 39 * 4) (by omega) (by omega), w64 (x := r4 / 39 * 16) (by omega) (by omega), w64 (by omega) (by omega), w64 (by omega) (by omega)]
  rw [show pos + 1 + 1 + 1 + 1 = pos + 4 by omega]

theorem drawTellers_ok (l : List Int) (h : ∀ x ∈ l, (Lit.int .u8 x).wf = true) : ∃ p t, (1 ≤ p ∧ p ≤ 8 ∧ 0 ≤ t ∧ t ≤ 100) ∧ ∀ k, 0 < k → spec_DrawTellersIn.f k l = some (p, t) := by
  obtain ⟨b, hb, ho⟩ := open_ok l h
  obtain ⟨p, t, hpt, hk⟩ := l20World_ok hb 0 (by omega) (by omega)
  refine ⟨p, t, by omega, fun k hkd => ?_⟩
  unfold spec_DrawTellersIn.f
  rw [ho]; simp only [Option.bind_some]
  rw [hk k hkd]; simp only [Option.bind_some]

/-- How many of 0..15's four lowest bits are set. -/
def ones (w : Int) : Int := w % 2 + w / 2 % 2 + w / 4 % 2 + w / 8 % 2
theorem heads_loop (k : Nat) : ∀ (w s : Int), 0 ≤ w → w < 2 ^ k → 0 ≤ s → s + k ≤ 100 → k ≤ 4 → ∀ m, k < m → spec_l1Heads.l0 m w s = some (s + ones w) := by
  induction k with
  | zero =>
    intro w s h0 h1 _ _ _ m hm
    obtain ⟨m, rfl⟩ : ∃ n, m = n + 1 := ⟨m - 1, by omega⟩
    have : w = 0 := by omega
    subst this
    rw [spec_l1Heads.l0, if_neg (by omega)]
    simp [ones]
  | succ k ih =>
    intro w s h0 h1 hs hs2 hk m hm
    obtain ⟨m, rfl⟩ : ∃ n, m = n + 1 := ⟨m - 1, by omega⟩
    have hw : w < 16 := Int.lt_of_lt_of_le h1 (by
      have : (2 : Int) ^ (k + 1) ≤ 2 ^ 4 := by exact_mod_cast Nat.pow_le_pow_right (by decide) (by omega)
      omega)
    rw [spec_l1Heads.l0]
    by_cases hw0 : w > 0
    · have e1 : Int.tdiv w 2 = w / 2 := Int.tdiv_eq_ediv_of_nonneg h0
      have e2 : Int.tmod w 2 = w % 2 := Int.tmod_eq_emod_of_nonneg h0
      rw [if_pos hw0, e1, e2, w64 (by omega) (by omega), w64 (by omega) (by omega), ih (w / 2) (s + w % 2) (by omega) (by rw [Int.pow_succ] at h1; omega) (by omega) (by omega) (by omega) m (by omega)]
      congr 1
      unfold ones
      omega
    · rw [if_neg hw0]
      have : w = 0 := by omega
      subst this
      simp [ones]
theorem heads_eq (w : Int) (h0 : 0 ≤ w) (h1 : w < 16) (k : Nat) (hk : 4 < k) : spec_l1Heads.f k w = some (ones w) := by
  unfold spec_l1Heads.f
  rw [heads_loop 4 w 0 h0 (by omega) (by omega) (by omega) (by omega) k hk, Int.zero_add]

theorem in_eq (a b c : Int) : spec_l1In.f a b c = some (decide (b ≤ a ∧ a ≤ c)) := by
  unfold spec_l1In.f
  by_cases h : a ≥ b
  · rw [if_pos h]; congr 1; rw [decide_eq_decide]; omega
  · rw [if_neg h]; congr 1; symm; rw [decide_eq_false_iff_not]; omega

theorem people_eq (p : Int) : impl_peopleOk.f p = some (decide (1 ≤ p ∧ p ≤ 4)) := by
  unfold impl_peopleOk.f
  by_cases h : p ≥ 1
  · rw [if_pos h]; congr 1; rw [decide_eq_decide]; omega
  · rw [if_neg h]; congr 1; symm; rw [decide_eq_false_iff_not]; omega

def WOk (p w : Int) : Prop := 1 ≤ p ∧ p ≤ 4 ∧ 0 ≤ w ∧ w < pw p
instance (p w : Int) : Decidable (WOk p w) := by unfold WOk; infer_instance
theorem iworld (p w : Int) : impl_WorldOk.f p w = some (decide (WOk p w)) := by
  unfold impl_WorldOk.f
  rw [people_eq, Option.bind_some]
  by_cases h : 1 ≤ p ∧ p ≤ 4
  · rw [if_pos (by simpa using h)]
    by_cases h2 : w ≥ 0
    · rw [if_pos h2, if_pos (by omega), shl_pw h.1 h.2]; congr 1; rw [decide_eq_decide]; unfold WOk; omega
    · rw [if_neg h2]; congr 1; symm; rw [decide_eq_false_iff_not]; unfold WOk; omega
  · rw [if_neg (by simpa using h)]; congr 1; symm; rw [decide_eq_false_iff_not]; unfold WOk; omega

theorem sworld (p w : Int) : spec_WorldOk.f p w = some (decide (WOk p w)) := by
  unfold spec_WorldOk.f
  rw [in_eq, Option.bind_some]
  by_cases h : 1 ≤ p ∧ p ≤ 4
  · have hb := pw_of h.1 h.2
    rw [if_pos (by simpa using h), if_pos (by omega), shl_pw h.1 h.2, w64 (by omega) (by omega), in_eq, Option.bind_some]
    congr 1; rw [decide_eq_decide]; unfold WOk; omega
  · rw [if_neg (by simpa using h)]; congr 1; symm; rw [decide_eq_false_iff_not]; unfold WOk; omega

theorem stellers (p w : Int) (k : Nat) (hk : 4 < k) : spec_TellersIn.f k p w = some (if WOk p w then ones w else -1) := by
  unfold spec_TellersIn.f
  rw [sworld, Option.bind_some]
  by_cases h : WOk p w
  · have h' := h
    unfold WOk at h'
    have hb := pw_of h'.1 h'.2.1
    rw [if_pos (by simpa using h), if_pos h, heads_eq w (by omega) (by omega) k hk, Option.bind_some]
  · rw [if_neg (by simpa using h), if_neg h]

def ones' (w : Int) : Int := w % 2 + w / 2 % 2 + w / 4 % 2 + w / 8 % 2
theorem count_eq (w : Int) (h0 : 0 ≤ w) (h1 : w < 16) : bits_OnesCount.f (IntKind.u64.wrap w) = some (ones' w) := by
  obtain ⟨n, rfl⟩ := Int.eq_ofNat_of_zero_le h0
  have hn : n < 16 := by omega
  have key : ∀ m : Fin 16, bits_OnesCount.f (IntKind.u64.wrap ((m.val : Nat) : Int)) = some (ones' ((m.val : Nat) : Int)) := by decide +kernel
  exact key ⟨n, hn⟩

theorem itellers (p w : Int) : impl_TellersIn.f p w = some (if WOk p w then ones w else -1) := by
  unfold impl_TellersIn.f
  rw [iworld, Option.bind_some]
  by_cases h : WOk p w
  · have h' := h
    unfold WOk at h'
    have hb := pw_of h'.1 h'.2.1
    rw [if_pos (by simpa using h), if_pos h, count_eq w (by omega) (by omega), Option.bind_some]; rfl
  · rw [if_neg (by simpa using h), if_neg h]

theorem iopp (p w : Int) : impl_OppositeWorld.f p w = some (if WOk p w then pw p - 1 - w else -1) := by
  unfold impl_OppositeWorld.f
  rw [iworld, Option.bind_some]
  by_cases h : WOk p w
  · have h' := h
    unfold WOk at h'
    have hb := pw_of h'.1 h'.2.1
    rw [if_pos (by simpa using h), if_pos (by omega), shl_pw h'.1 h'.2.1, if_pos h, w64 (x := pw p - 1) (by omega) (by omega), w64 (by omega) (by omega)]
  · rw [if_neg (by simpa using h), if_neg h]

theorem alive_eq : laws_alive.f = some true := by
  unfold laws_alive.f
  rw [iworld, Option.bind_some, if_pos (by decide), iworld, Option.bind_some]
  decide

/-! ### the law -/
theorem ones_opp (p w : Int) (h : WOk p w) : ones w + ones (pw p - 1 - w) = p := by
  unfold WOk at h
  rcases p4 h.1 h.2.1 with rfl | rfl | rfl | rfl
  · have e : pw 1 = 2 := by decide
    rw [e] at h ⊢; unfold ones; omega
  · have e : pw 2 = 4 := by decide
    rw [e] at h ⊢; unfold ones; omega
  · have e : pw 3 = 8 := by decide
    rw [e] at h ⊢; unfold ones; omega
  · have e : pw 4 = 16 := by decide
    rw [e] at h ⊢; unfold ones; omega
theorem FnTellersIn : laws_FnTellersIn.Pure := by
  intro l _ _ h
  obtain ⟨p, w, hb, hk⟩ := drawTellers_ok l h
  refine ⟨10, ?_⟩
  unfold laws_FnTellersIn.f
  by_cases hl : (l.length : Int) > 1048576
  · rw [if_pos hl]
  · rw [if_neg hl, hk 10 (by omega)]; simp only [Option.bind_some]
    rw [itellers, Option.bind_some, stellers p w 10 (by omega), Option.bind_some, if_pos rfl]
    by_cases ho : WOk p w
    · have hop := ones_opp p w ho
      have ho' := ho
      unfold WOk at ho'
      have hq : WOk p (pw p - 1 - w) := by unfold WOk; omega
      have h0 : 0 ≤ ones w := by unfold ones; omega
      rw [if_pos ho, if_neg (by omega), iopp, Option.bind_some, if_pos ho, itellers, Option.bind_some, if_pos hq, hop, w64 (by omega) (by omega)]
      simp
    · rw [if_neg ho, if_pos (by omega), if_pos rfl, alive_eq]; rfl

end Go.Proofs.Ytpnjanaggkmbaaa.Pure
