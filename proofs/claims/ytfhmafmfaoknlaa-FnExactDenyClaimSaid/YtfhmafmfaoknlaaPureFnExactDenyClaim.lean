/- Proved: FnExactDenyClaim returns true for every number of people and every claim. No condition. -/
import Derived.Test.YtfhmafmfaoknlaaPFnExactDenyClaimx8
import Derived.Laws.BitsLemmas
import Derived.Laws.BitsAllLaws
namespace Go.Proofs.Ytfhmafmfaoknlaa.Pure
open Go.RowKit Go.Proofs.Ytfhmafmfaoknlaa.PFnExactDenyClaim Go.Proofs.YtfhmafmfaoknlaaW.PrintWords Go.Proofs.YtfhmafmfaoknlaaW.PrintLast Go.Proofs.YtfhmafmfaoknlaaW.PrintMore
set_option linter.unusedVariables false
set_option linter.unusedSimpArgs false

/-! ### base: whole numbers -/
theorem w64 {x : Int} (h0 : -9223372036854775808 ≤ x) (h1 : x ≤ 9223372036854775807) : wrap64 x = x := by
  unfold wrap64; omega
theorem wf64 {x : Int} (h : (Lit.int .i64 x).wf = true) : -9223372036854775808 ≤ x ∧ x ≤ 9223372036854775807 := by
  simp only [Lit.wf, IntKind.min, IntKind.max, IntKind.signed, IntKind.bits, Bool.and_eq_true, decide_eq_true_eq, if_true] at h
  omega
theorem wf8 {x : Int} (h : (Lit.int .u8 x).wf = true) : 0 ≤ x ∧ x ≤ 255 := by
  simp only [Lit.wf, IntKind.min, IntKind.max, IntKind.signed, IntKind.bits, Bool.and_eq_true, decide_eq_true_eq] at h
  simpa using h
theorem ofInt_i64 (a : Nat) (ha : a < 18446744073709551616) : (BitVec.ofInt 64 (a : Int)).toNat = a := by
  rw [BitVec.ofInt_natCast, BitVec.toNat_ofNat]; exact Nat.mod_eq_of_lt (by omega)
theorem wrapi (x : Nat) (h : x < 9223372036854775808) : IntKind.i64.wrap (x : Int) = x := by
  rw [IntKind.wrap_i64]; omega
theorem or64 (a b : Nat) (ha : a < 4611686018427387904) (hb : b < 4611686018427387904) : Go.bits .or .i64 (a : Int) (b : Int) = ((a ||| b : Nat) : Int) := by
  have hx : a ||| b < 2 ^ 62 := Nat.or_lt_two_pow (by omega) (by omega)
  show IntKind.i64.wrap ((BitVec.ofInt 64 (a : Int) ||| BitVec.ofInt 64 (b : Int)).toNat : Int) = _
  rw [BitVec.toNat_or, ofInt_i64 a (by omega), ofInt_i64 b (by omega), wrapi _ (by omega)]
theorem and64 (a b : Nat) (ha : a < 4611686018427387904) (hb : b < 4611686018427387904) : Go.bits .and .i64 (a : Int) (b : Int) = ((a &&& b : Nat) : Int) := by
  have hx : a &&& b < 2 ^ 62 := Nat.and_lt_two_pow _ (by omega)
  show IntKind.i64.wrap ((BitVec.ofInt 64 (a : Int) &&& BitVec.ofInt 64 (b : Int)).toNat : Int) = _
  rw [BitVec.toNat_and, ofInt_i64 a (by omega), ofInt_i64 b (by omega), wrapi _ (by omega)]
theorem xor64 (a b : Nat) (ha : a < 4611686018427387904) (hb : b < 4611686018427387904) : Go.bits .xor .i64 (a : Int) (b : Int) = ((a ^^^ b : Nat) : Int) := by
  have hx : a ^^^ b < 2 ^ 62 := Nat.xor_lt_two_pow (by omega) (by omega)
  show IntKind.i64.wrap ((BitVec.ofInt 64 (a : Int) ^^^ BitVec.ofInt 64 (b : Int)).toNat : Int) = _
  rw [BitVec.toNat_xor, ofInt_i64 a (by omega), ofInt_i64 b (by omega), wrapi _ (by omega)]
theorem andnot64 (a b : Nat) (ha : a < 4611686018427387904) (hb : b < 4611686018427387904) : Go.bits .andNot .i64 (a : Int) (b : Int) = ((a &&& (18446744073709551615 - b) : Nat) : Int) := by
  have hx : a &&& (18446744073709551615 - b) < 2 ^ 62 := Nat.lt_of_le_of_lt Nat.and_le_left (by omega)
  show IntKind.i64.wrap ((BitVec.ofInt 64 (a : Int) &&& ~~~BitVec.ofInt 64 (b : Int)).toNat : Int) = _
  rw [BitVec.toNat_and, BitVec.toNat_not, ofInt_i64 a (by omega), ofInt_i64 b (by omega)]
  have e : 2 ^ 64 - 1 - b = 18446744073709551615 - b := by omega
  rw [e, wrapi _ (by omega)]
/-- So many worlds; so many tables. -/
def pw (p : Int) : Int := 2 ^ p.toNat
def tw (p : Int) : Int := 2 ^ (2 ^ p.toNat)
theorem p4 {p : Int} (h0 : 1 ≤ p) (h1 : p ≤ 4) : p = 1 ∨ p = 2 ∨ p = 3 ∨ p = 4 := by omega
theorem pw_of {p : Int} (h0 : 1 ≤ p) (h1 : p ≤ 4) : 2 ≤ pw p ∧ pw p ≤ 16 := by
  rcases p4 h0 h1 with rfl | rfl | rfl | rfl <;> decide
theorem tw_of {p : Int} (h0 : 1 ≤ p) (h1 : p ≤ 4) : 4 ≤ tw p ∧ tw p ≤ 65536 := by
  rcases p4 h0 h1 with rfl | rfl | rfl | rfl <;> decide
theorem tw_pw {p : Int} (h0 : 1 ≤ p) (h1 : p ≤ 4) : tw p = 2 ^ (pw p).toNat := by
  rcases p4 h0 h1 with rfl | rfl | rfl | rfl <;> decide
theorem shl_pw {p : Int} (h0 : 1 ≤ p) (h1 : p ≤ 4) : shl .i64 1 p = pw p := by
  rcases p4 h0 h1 with rfl | rfl | rfl | rfl <;> decide
theorem shlu_pw {p : Int} (h0 : 1 ≤ p) (h1 : p ≤ 4) : shl .u64 1 p = pw p := by
  rcases p4 h0 h1 with rfl | rfl | rfl | rfl <;> decide
theorem shl_tw {p : Int} (h0 : 1 ≤ p) (h1 : p ≤ 4) : shl .i64 1 (pw p) = tw p := by
  rcases p4 h0 h1 with rfl | rfl | rfl | rfl <;> decide
/-- A shift of a small number by a small count. -/
theorem shl_nat (x n : Nat) (hn : n ≤ 16) (hx : x ≤ 65536) : shl .i64 (x : Int) (n : Int) = ((x * 2 ^ n : Nat) : Int) := by
  unfold shl
  have e : min ((n : Int).toNat) (IntKind.i64.bits) = n := by simp [IntKind.bits]; omega
  rw [e]
  have hp : 2 ^ n ≤ 2 ^ 16 := Nat.pow_le_pow_right (by decide) hn
  have hm : x * 2 ^ n ≤ 65536 * 2 ^ 16 := Nat.mul_le_mul hx hp
  have e2 : (x : Int) * 2 ^ n = ((x * 2 ^ n : Nat) : Int) := by simp
  rw [e2, wrapi _ (by omega)]
theorem shr_nat (x n : Nat) (hn : n ≤ 16) : shr .i64 (x : Int) (n : Int) = ((x / 2 ^ n : Nat) : Int) := by
  unfold shr
  have e : min ((n : Int).toNat) (IntKind.i64.bits) = n := by simp [IntKind.bits]; omega
  rw [e]
  simp

/-- Terms: how the number of parts goes on at a mark. -/
def tstep (p n : Int) (m : S62) : Option Int :=
  if m.f0 = 0 then (if 0 ≤ m.f1 ∧ m.f1 < p then some (n + 1) else none)
  else if m.f0 = 1 then (if 0 ≤ m.f1 ∧ m.f1 ≤ p + 1 then some (n + 1) else none)
  else if m.f0 = 2 then (if m.f1 = 0 ∧ 1 ≤ n then some n else none)
  else if 3 ≤ m.f0 ∧ m.f0 ≤ 5 then (if m.f1 = 0 ∧ 2 ≤ n then some (n - 1) else none)
  else none
def tfold (p : Int) : Int → List S62 → Option Int
  | n, [] => some n
  | n, m :: t => (tstep p n m).bind fun n' => tfold p n' t
theorem tfold_cons (p n : Int) (m : S62) (t : List S62) : tfold p n (m :: t) = (tstep p n m).bind fun n' => tfold p n' t := rfl
theorem tfold_none {p n : Int} {m : S62} (t : List S62) (h : tstep p n m = none) : tfold p n (m :: t) = none := by rw [tfold_cons, h]; rfl
theorem tfold_some {p n n' : Int} {m : S62} (t : List S62) (h : tstep p n m = some n') : tfold p n (m :: t) = tfold p n' t := by rw [tfold_cons, h]; rfl
def TermB (p : Int) (t : List S62) : Prop := 1 ≤ p ∧ p ≤ 4 ∧ t.length ≤ 15 ∧ tfold p 0 t = some 1
instance (p : Int) (t : List S62) : Decidable (TermB p t) := by unfold TermB; infer_instance
theorem TermB_pos {p : Int} {t : List S62} (h : TermB p t) : 1 ≤ t.length := by
  cases t with
  | nil => have := h.2.2.2; simp [tfold] at this
  | cons => simp
/-- What is known of marks that came in. -/
def MarkW (m : S62) : Prop := -9223372036854775808 ≤ m.f0 ∧ m.f0 ≤ 9223372036854775807 ∧ -9223372036854775808 ≤ m.f1 ∧ m.f1 ≤ 9223372036854775807
theorem rdm (l : List S62) (i : Nat) (h : i < l.length) : rd_T62 l ((i : Nat) : Int) = l[i] := by
  unfold rd_T62
  rw [Int.toNat_natCast, List.getD_eq_getElem?_getD, List.getElem?_eq_getElem h]; rfl
theorem rdm_mid (x r l : List S62) (m : S62) (hl : l = x ++ m :: r) (n : Int) (hn : n = (x.length : Int)) : rd_T62 l n = m := by
  subst hl
  subst hn
  rw [rdm _ _ (by simp), List.getElem_append_right (Nat.le_refl _)]
  simp

def ClaimB (p w : Int) (t : List S62) : Prop := 0 ≤ w ∧ w < p ∧ TermB p t ∧ t.length ≤ 13
instance (p w : Int) (t : List S62) : Decidable (ClaimB p w t) := by unfold ClaimB; infer_instance

theorem in_eq (a b c : Int) : spec_l1In.f a b c = some (decide (b ≤ a ∧ a ≤ c)) := by
  unfold spec_l1In.f
  by_cases h : a ≥ b
  · rw [if_pos h]; congr 1; rw [decide_eq_decide]; omega
  · rw [if_neg h]; congr 1; symm; rw [decide_eq_false_iff_not]; omega

theorem stermok_loop (p : Int) (hp : -9223372036854775808 ≤ p ∧ p ≤ 9223372036854775807) (l : List S62) (hn : l.length ≤ 1048576) (hw : ∀ m ∈ l, MarkW m) (d : Nat) : ∀ (i : Nat) (n : Int), i + d = l.length → 0 ≤ n → n ≤ i → ∀ k, 4 * d < k →
    spec_TermOk.l0 k p l n ((i : Nat) : Int) = some (decide (tfold p n (l.drop i) = some 1 ∧ 1 ≤ p ∧ p ≤ 4 ∧ l.length ≤ 15)) := by
  induction d with
  | zero =>
    intro i n hi h0 h1 k hk
    obtain ⟨k, rfl⟩ : ∃ m, k = m + 1 := ⟨k - 1, by omega⟩
    rw [spec_TermOk.l0, if_neg (by omega), in_eq, Option.bind_some, List.drop_of_length_le (by omega)]
    by_cases hpp : 1 ≤ p ∧ p ≤ 4
    · rw [if_pos (by simpa using hpp)]
      by_cases hn1 : n = 1
      · rw [if_pos hn1]; congr 1; rw [decide_eq_decide]; simp [tfold, hn1]; omega
      · rw [if_neg hn1]; congr 1; symm; rw [decide_eq_false_iff_not]; simp [tfold, hn1]
    · rw [if_neg (by simpa using hpp)]; congr 1; symm; rw [decide_eq_false_iff_not]; rintro ⟨_, a, b, _⟩; exact hpp ⟨a, b⟩
  | succ d ih =>
    intro i n hi h0 h1 k hk
    obtain ⟨k, rfl⟩ : ∃ m, k = m + 4 := ⟨k - 4, by omega⟩
    have hlt : i < l.length := by omega
    have hm := hw _ (List.getElem_mem hlt)
    unfold MarkW at hm
    have next : ∀ (n' : Int) (k' : Nat), tstep p n l[i] = some n' → 0 ≤ n' → n' ≤ i + 1 → 4 * d < k' →
        spec_TermOk.l0 k' p l n' (wrap64 ((i : Int) + 1)) = some (decide (tfold p n (l.drop i) = some 1 ∧ 1 ≤ p ∧ p ≤ 4 ∧ l.length ≤ 15)) := by
      intro n' k' hs h0' h1' hk'
      have := ih (i + 1) n' (by omega) h0' (by omega) k' hk'
      rw [w64 (by omega) (by omega), show (i : Int) + 1 = ((i + 1 : Nat) : Int) by omega, this, List.drop_eq_getElem_cons hlt, tfold_some _ hs]
    have stop : tstep p n l[i] = none → some false = some (decide (tfold p n (l.drop i) = some 1 ∧ 1 ≤ p ∧ p ≤ 4 ∧ l.length ≤ 15)) := by
      intro hs
      rw [List.drop_eq_getElem_cons hlt, tfold_none _ hs]; simp
    generalize hgm : l[i] = m at *
    have hrd : rd_T62 l ((i : Nat) : Int) = m := by rw [rdm l i hlt]; exact hgm
    -- the ways behind the first two tests
    have g3 : ∀ b, (b = true ↔ (m.f0 = 2 ∧ m.f1 = 0 ∧ n ≥ 1)) → ¬ (m.f0 = 0 ∧ m.f1 ≥ 0 ∧ m.f1 < p) → ¬ (m.f0 = 1 ∧ m.f1 ≥ 0 ∧ m.f1 ≤ p + 1) → spec_TermOk.j3 (k + 1) p l n ((i : Nat) : Int) b = some (decide (tfold p n (l.drop i) = some 1 ∧ 1 ≤ p ∧ p ≤ 4 ∧ l.length ≤ 15)) := by
      intro b hb n0 n1
      rw [spec_TermOk.j3]
      by_cases hbt : b = true
      · have := hb.1 hbt
        rw [if_pos hbt]
        exact next n k (by unfold tstep; rw [if_neg (by omega), if_neg (by omega), if_pos this.1, if_pos (by omega)]) (by omega) (by omega) (by omega)
      · have hb' : ¬ (m.f0 = 2 ∧ m.f1 = 0 ∧ n ≥ 1) := fun h => hbt (hb.2 h)
        rw [if_neg hbt, if_pos (by omega), if_pos (by omega), hrd, in_eq, Option.bind_some]
        by_cases h35 : 3 ≤ m.f0 ∧ m.f0 ≤ 5
        · rw [if_pos (by simpa using h35)]
          by_cases ha : m.f1 = 0
          · rw [if_pos ha]
            by_cases h2 : n ≥ 2
            · rw [if_pos h2, w64 (x := n - 1) (by omega) (by omega)]
              exact next (n - 1) k (by unfold tstep; rw [if_neg (by omega), if_neg (by omega), if_neg (by omega), if_pos h35, if_pos (by omega)]) (by omega) (by omega) (by omega)
            · rw [if_neg h2]
              exact stop (by unfold tstep; rw [if_neg (by omega), if_neg (by omega), if_neg (by omega), if_pos h35, if_neg (by omega)])
          · rw [if_neg ha]
            exact stop (by unfold tstep; rw [if_neg (by omega), if_neg (by omega), if_neg (by omega), if_pos h35, if_neg (by omega)])
        · rw [if_neg (by simpa using h35)]
          refine stop ?_
          unfold tstep
          by_cases e0 : m.f0 = 0
          · rw [if_pos e0, if_neg (by omega)]
          · rw [if_neg e0]
            by_cases e1 : m.f0 = 1
            · rw [if_pos e1, if_neg (by omega)]
            · rw [if_neg e1]
              by_cases e2 : m.f0 = 2
              · rw [if_pos e2, if_neg (by omega)]
              · rw [if_neg e2, if_neg h35]
    have g2 : ∀ b, (b = true ↔ (m.f0 = 1 ∧ m.f1 ≥ 0 ∧ m.f1 ≤ p + 1)) → ¬ (m.f0 = 0 ∧ m.f1 ≥ 0 ∧ m.f1 < p) → spec_TermOk.j2 (k + 2) p l n ((i : Nat) : Int) b = some (decide (tfold p n (l.drop i) = some 1 ∧ 1 ≤ p ∧ p ≤ 4 ∧ l.length ≤ 15)) := by
      intro b hb n0
      rw [spec_TermOk.j2]
      by_cases hbt : b = true
      · have := hb.1 hbt
        rw [if_pos hbt, w64 (x := n + 1) (by omega) (by omega)]
        exact next (n + 1) (k + 1) (by unfold tstep; rw [if_neg (by omega), if_pos this.1, if_pos (by omega)]) (by omega) (by omega) (by omega)
      · have hb' : ¬ (m.f0 = 1 ∧ m.f1 ≥ 0 ∧ m.f1 ≤ p + 1) := fun h => hbt (hb.2 h)
        rw [if_neg hbt, if_pos (by omega), if_pos (by omega), hrd]
        by_cases h2 : (m.f0 == 2 && m.f1 == 0) = true
        · rw [if_pos h2]
          rw [Bool.and_eq_true, beq_iff_eq, beq_iff_eq] at h2
          exact g3 _ (by rw [decide_eq_true_iff]; omega) n0 hb'
        · rw [if_neg h2]
          rw [Bool.and_eq_true, beq_iff_eq, beq_iff_eq] at h2
          exact g3 _ (by simp; omega) n0 hb'
    have g1 : ∀ b, (b = true ↔ (m.f0 = 0 ∧ m.f1 ≥ 0 ∧ m.f1 < p)) → spec_TermOk.j1 (k + 3) p l n ((i : Nat) : Int) b = some (decide (tfold p n (l.drop i) = some 1 ∧ 1 ≤ p ∧ p ≤ 4 ∧ l.length ≤ 15)) := by
      intro b hb
      rw [spec_TermOk.j1]
      by_cases hbt : b = true
      · have := hb.1 hbt
        rw [if_pos hbt, w64 (x := n + 1) (by omega) (by omega)]
        exact next (n + 1) (k + 2) (by unfold tstep; rw [if_pos this.1, if_pos (by omega)]) (by omega) (by omega) (by omega)
      · have hb' : ¬ (m.f0 = 0 ∧ m.f1 ≥ 0 ∧ m.f1 < p) := fun h => hbt (hb.2 h)
        rw [if_neg hbt, if_pos (by omega), if_pos (by omega), hrd]
        by_cases e1 : m.f0 = 1
        · rw [if_pos e1]
          by_cases e2 : m.f1 ≥ 0
          · rw [if_pos e2]
            by_cases e3 : m.f1 ≤ p
            · rw [if_pos e3]; exact g2 _ (by simp; omega) hb'
            · rw [if_neg e3, w64 (x := m.f1 - 1) (by omega) (by omega)]; exact g2 _ (by rw [beq_iff_eq]; omega) hb'
          · rw [if_neg e2]; exact g2 _ (by simp; omega) hb'
        · rw [if_neg e1]; exact g2 _ (by simp; omega) hb'
    rw [show k + 4 = (k + 3) + 1 from rfl, spec_TermOk.l0, if_pos (by omega), if_pos (by omega), hrd]
    by_cases e0 : m.f0 = 0
    · rw [if_pos e0]
      by_cases e1 : m.f1 ≥ 0
      · rw [if_pos e1]; exact g1 _ (by rw [decide_eq_true_iff]; omega)
      · rw [if_neg e1]; exact g1 _ (by simp; omega)
    · rw [if_neg e0]; exact g1 _ (by simp; omega)
theorem stermok (p : Int) (hp : -9223372036854775808 ≤ p ∧ p ≤ 9223372036854775807) (l : List S62) (hn : l.length ≤ 1048576) (hw : ∀ m ∈ l, MarkW m) (k : Nat) (hk : 4 * l.length < k) : spec_TermOk.f k p l = some (decide (TermB p l)) := by
  unfold spec_TermOk.f
  have := stermok_loop p hp l hn hw l.length 0 0 (by omega) (by omega) (by omega) k hk
  rw [show ((0 : Nat) : Int) = 0 from rfl] at this
  rw [this, List.drop_zero]
  congr 1; rw [decide_eq_decide]; unfold TermB
  constructor
  · rintro ⟨a, b, c, d⟩; exact ⟨b, c, d, a⟩
  · rintro ⟨a, b, c, d⟩; exact ⟨d, a, b, c⟩

theorem sclaimok (p : Int) (hp : -9223372036854775808 ≤ p ∧ p ≤ 9223372036854775807) (w : Int) (l : List S62) (hn : l.length ≤ 1048576) (hw : ∀ m ∈ l, MarkW m) (k : Nat) (hk : 4 * l.length < k) : spec_ClaimOk.f k p w l = some (decide (ClaimB p w l)) := by
  unfold spec_ClaimOk.f
  by_cases h0 : w ≥ 0
  · rw [if_pos h0]
    by_cases h1 : w < p
    · rw [if_pos h1, stermok p hp l hn hw k hk, Option.bind_some]
      by_cases h : TermB p l
      · rw [if_pos (by simpa using h)]; congr 1; rw [decide_eq_decide]; unfold ClaimB
        constructor
        · intro hh; exact ⟨h0, h1, h, by omega⟩
        · intro hh; have := hh.2.2.2; omega
      · rw [if_neg (by simpa using h)]; congr 1; symm; rw [decide_eq_false_iff_not]; intro hh; exact h hh.2.2.1
    · rw [if_neg h1]; congr 1; symm; rw [decide_eq_false_iff_not]; intro hh; exact h1 hh.2.1
  · rw [if_neg h0]; congr 1; symm; rw [decide_eq_false_iff_not]; intro hh; exact h0 hh.1

theorem people_eq (p : Int) : impl_peopleOk.f p = some (decide (1 ≤ p ∧ p ≤ 4)) := by
  unfold impl_peopleOk.f
  by_cases h : p ≥ 1
  · rw [if_pos h]; congr 1; rw [decide_eq_decide]; omega
  · rw [if_neg h]; congr 1; symm; rw [decide_eq_false_iff_not]; omega

theorem itermok_loop (p : Int) (hp : 1 ≤ p ∧ p ≤ 4) (l : List S62) (hn : l.length ≤ 15) (d : Nat) : ∀ (i : Nat) (n : Int), i + d = l.length → 0 ≤ n → n ≤ i → ∀ k, 2 * d < k →
    impl_TermOk.l0 k p n l (l.length : Int) ((i : Nat) : Int) = some (decide (tfold p n (l.drop i) = some 1)) := by
  induction d with
  | zero =>
    intro i n hi h0 h1 k hk
    obtain ⟨k, rfl⟩ : ∃ m, k = m + 1 := ⟨k - 1, by omega⟩
    rw [impl_TermOk.l0, if_neg (by omega), List.drop_of_length_le (by omega)]
    congr 1; rw [Bool.eq_iff_iff, beq_iff_eq, decide_eq_true_iff]; simp [tfold]
  | succ d ih =>
    intro i n hi h0 h1 k hk
    obtain ⟨k, rfl⟩ : ∃ m, k = m + 2 := ⟨k - 2, by omega⟩
    have hlt : i < l.length := by omega
    have next : ∀ (n' : Int) (k' : Nat), tstep p n l[i] = some n' → 0 ≤ n' → n' ≤ i + 1 → 2 * d < k' →
        impl_TermOk.l0 k' p n' l (l.length : Int) (wrap64 ((i : Int) + 1)) = some (decide (tfold p n (l.drop i) = some 1)) := by
      intro n' k' hs h0' h1' hk'
      have := ih (i + 1) n' (by omega) h0' (by omega) k' hk'
      rw [w64 (by omega) (by omega), show (i : Int) + 1 = ((i + 1 : Nat) : Int) by omega, this, List.drop_eq_getElem_cons hlt, tfold_some _ hs]
    have stop : tstep p n l[i] = none → some false = some (decide (tfold p n (l.drop i) = some 1)) := by
      intro hs
      rw [List.drop_eq_getElem_cons hlt, tfold_none _ hs]; simp
    generalize hgm : l[i] = m at *
    have hrd : rd_T62 l ((i : Nat) : Int) = m := by rw [rdm l i hlt]; exact hgm
    have g2 : ∀ b, (b = true ↔ (3 ≤ m.f0 ∧ m.f0 ≤ 5)) → m.f0 ≠ 0 → m.f0 ≠ 1 → m.f0 ≠ 2 → impl_TermOk.j2 (k + 1) p n l (l.length : Int) ((i : Nat) : Int) b m.f0 m.f1 = some (decide (tfold p n (l.drop i) = some 1)) := by
      intro b hb n0 n1 n2
      rw [impl_TermOk.j2]
      by_cases hbt : b = true
      · have h35 := hb.1 hbt
        rw [if_pos hbt]
        by_cases ha : m.f1 = 0
        · rw [if_pos ha]
          by_cases h2 : n < 2
          · rw [if_pos h2]
            exact stop (by unfold tstep; rw [if_neg n0, if_neg n1, if_neg n2, if_pos h35, if_neg (by omega)])
          · rw [if_neg h2, w64 (x := n - 1) (by omega) (by omega)]
            exact next (n - 1) k (by unfold tstep; rw [if_neg n0, if_neg n1, if_neg n2, if_pos h35, if_pos (by omega)]) (by omega) (by omega) (by omega)
        · rw [if_neg ha]
          exact stop (by unfold tstep; rw [if_neg n0, if_neg n1, if_neg n2, if_pos h35, if_neg (by omega)])
      · have h35 : ¬ (3 ≤ m.f0 ∧ m.f0 ≤ 5) := fun h => hbt (hb.2 h)
        rw [if_neg hbt]
        exact stop (by unfold tstep; rw [if_neg n0, if_neg n1, if_neg n2, if_neg h35])
    rw [show k + 2 = (k + 1) + 1 from rfl, impl_TermOk.l0, if_pos (by omega), if_pos (by omega), if_pos (by omega), hrd]
    by_cases e0 : m.f0 = 0
    · rw [if_pos e0]
      by_cases e1 : m.f1 < 0
      · rw [if_pos e1]; exact stop (by unfold tstep; rw [if_pos e0, if_neg (by omega)])
      · rw [if_neg e1]
        by_cases e2 : m.f1 ≥ p
        · rw [if_pos e2]; exact stop (by unfold tstep; rw [if_pos e0, if_neg (by omega)])
        · rw [if_neg e2, w64 (x := n + 1) (by omega) (by omega)]
          exact next (n + 1) (k + 1) (by unfold tstep; rw [if_pos e0, if_pos (by omega)]) (by omega) (by omega) (by omega)
    · rw [if_neg e0]
      by_cases e1 : m.f0 = 1
      · rw [if_pos e1]
        by_cases e2 : m.f1 < 0
        · rw [if_pos e2]; exact stop (by unfold tstep; rw [if_neg e0, if_pos e1, if_neg (by omega)])
        · rw [if_neg e2, w64 (x := p + 1) (by omega) (by omega)]
          by_cases e3 : m.f1 > p + 1
          · rw [if_pos e3]; exact stop (by unfold tstep; rw [if_neg e0, if_pos e1, if_neg (by omega)])
          · rw [if_neg e3, w64 (x := n + 1) (by omega) (by omega)]
            exact next (n + 1) (k + 1) (by unfold tstep; rw [if_neg e0, if_pos e1, if_pos (by omega)]) (by omega) (by omega) (by omega)
      · rw [if_neg e1]
        by_cases e2 : m.f0 = 2
        · rw [if_pos e2]
          by_cases e3 : m.f1 = 0
          · rw [if_pos e3]
            by_cases e4 : n < 1
            · rw [if_pos e4]; exact stop (by unfold tstep; rw [if_neg e0, if_neg e1, if_pos e2, if_neg (by omega)])
            · rw [if_neg e4]
              exact next n (k + 1) (by unfold tstep; rw [if_neg e0, if_neg e1, if_pos e2, if_pos (by omega)]) (by omega) (by omega) (by omega)
          · rw [if_neg e3]; exact stop (by unfold tstep; rw [if_neg e0, if_neg e1, if_pos e2, if_neg (by omega)])
        · rw [if_neg e2]
          by_cases e3 : m.f0 = 3
          · rw [if_pos e3]; exact g2 _ (by rw [beq_iff_eq]; omega) e0 e1 e2
          · rw [if_neg e3]
            by_cases e4 : m.f0 = 4
            · rw [if_pos e4]; exact g2 _ (by rw [beq_iff_eq]; omega) e0 e1 e2
            · rw [if_neg e4]; exact g2 _ (by rw [beq_iff_eq]; omega) e0 e1 e2
theorem itermok (p : Int) (l : List S62) (k : Nat) (hk : 32 < k) : impl_TermOk.f k p l = some (decide (TermB p l)) := by
  unfold impl_TermOk.f
  obtain ⟨k, rfl⟩ : ∃ m, k = m + 1 := ⟨k - 1, by omega⟩
  rw [people_eq, Option.bind_some]
  by_cases hp : 1 ≤ p ∧ p ≤ 4
  · rw [if_pos (by simpa using hp)]
    by_cases h1 : (l.length : Int) < 1
    · rw [if_pos h1, impl_TermOk.j0, if_pos rfl]
      congr 1; symm; rw [decide_eq_false_iff_not]; intro h; have := TermB_pos h; omega
    · rw [if_neg h1, impl_TermOk.j0]
      by_cases h2 : (l.length : Int) > 15
      · rw [if_pos (by simpa using h2)]
        congr 1; symm; rw [decide_eq_false_iff_not]; intro h; have := h.2.2.1; omega
      · rw [if_neg (by simpa using h2)]
        have := itermok_loop p hp l (by omega) l.length 0 0 (by omega) (by omega) (by omega) k (by omega)
        rw [show ((0 : Nat) : Int) = 0 from rfl] at this
        rw [this, List.drop_zero]
        congr 1; rw [decide_eq_decide]; unfold TermB
        constructor
        · intro h; exact ⟨hp.1, hp.2, by omega, h⟩
        · intro h; exact h.2.2.2
  · rw [if_neg (by simpa using hp), impl_TermOk.j0, if_pos rfl]
    congr 1; symm; rw [decide_eq_false_iff_not]; intro h; exact hp ⟨h.1, h.2.1⟩

theorem iclaimok (p : Int) (w : Int) (l : List S62) (k : Nat) (hk : 32 < k) : impl_ClaimOk.f k p w l = some (decide (ClaimB p w l)) := by
  unfold impl_ClaimOk.f
  rw [people_eq, Option.bind_some]
  by_cases hp : 1 ≤ p ∧ p ≤ 4
  · rw [if_pos (by simpa using hp)]
    by_cases h0 : w ≥ 0
    · rw [if_pos h0]
      by_cases h1 : w < p
      · rw [if_pos h1, itermok p l k hk, Option.bind_some]
        by_cases h : TermB p l
        · rw [if_pos (by simpa using h)]; congr 1; rw [decide_eq_decide]; unfold ClaimB
          constructor
          · intro hh; exact ⟨h0, h1, h, by omega⟩
          · intro hh; have := hh.2.2.2; omega
        · rw [if_neg (by simpa using h)]; congr 1; symm; rw [decide_eq_false_iff_not]; intro hh; exact h hh.2.2.1
      · rw [if_neg h1]; congr 1; symm; rw [decide_eq_false_iff_not]; intro hh; exact h1 hh.2.1
    · rw [if_neg h0]; congr 1; symm; rw [decide_eq_false_iff_not]; intro hh; exact h0 hh.1
  · rw [if_neg (by simpa using hp)]; congr 1; symm; rw [decide_eq_false_iff_not]; intro hh; exact hp ⟨hh.2.2.1.1, hh.2.2.1.2.1⟩

def conv (m : S90) : S62 := ⟨m.f0, m.f1⟩
theorem rdlm (l : List S90) (i : Nat) (h : i < l.length) : rd_T90 l ((i : Nat) : Int) = l[i] := by
  unfold rd_T90
  rw [Int.toNat_natCast, List.getD_eq_getElem?_getD, List.getElem?_eq_getElem h]; rfl
theorem tomarks_loop (l : List S90) (hn : l.length ≤ 1048576) (d : Nat) : ∀ (i : Nat) (o : List S62), i + d = l.length → o.length = l.length → (∀ j, j < i → o[j]? = (l.map conv)[j]?) → ∀ k, d < k → laws_toMarkS.l0 k l o ((i : Nat) : Int) = some (l.map conv) := by
  induction d with
  | zero =>
    intro i o hi ho hj k hk
    obtain ⟨k, rfl⟩ : ∃ m, k = m + 1 := ⟨k - 1, by omega⟩
    rw [laws_toMarkS.l0, if_neg (by omega)]
    congr 1
    apply List.ext_getElem?
    intro j
    by_cases h : j < i
    · exact hj j h
    · rw [List.getElem?_eq_none (by omega), List.getElem?_eq_none (by rw [List.length_map]; omega)]
  | succ d ih =>
    intro i o hi ho hj k hk
    obtain ⟨k, rfl⟩ : ∃ m, k = m + 1 := ⟨k - 1, by omega⟩
    rw [laws_toMarkS.l0, if_pos (by omega), if_pos (by omega), rdlm l i (by omega)]
    unfold laws_toMark.f
    simp only [Option.bind_some]
    rw [if_pos (by omega), w64 (by omega) (by omega), Int.toNat_natCast]
    have := ih (i + 1) (o.set i ⟨l[i].f0, l[i].f1⟩) (by omega) (by rw [List.length_set]; exact ho) (fun j h => by
      rw [List.getElem?_set]
      by_cases e : i = j
      · subst e; rw [if_pos rfl, if_pos (by omega), List.getElem?_map, List.getElem?_eq_getElem (by omega)]; rfl
      · rw [if_neg e]; exact hj j (by omega)) k (by omega)
    rw [show ((i + 1 : Nat) : Int) = (i : Int) + 1 by omega] at this
    exact this
theorem tomarks (l : List S90) (hn : l.length ≤ 1048576) (k : Nat) (hk : l.length < k) : laws_toMarkS.f k l = some (l.map conv) := by
  unfold laws_toMarkS.f
  rw [if_pos (by omega), if_pos (by omega)]
  exact tomarks_loop l hn l.length 0 _ (by omega) (by simp) (fun j h => by omega) k hk

theorem szmarks (l : List S90) (hl : l.length ≤ 9223372036854775807) (a : Int) (ha : 0 ≤ a ∧ a ≤ 1048576) : laws_szMarkS.f l a = some (if a < l.length then -1 else a - l.length) := by
  unfold laws_szMarkS.f
  rw [w64 (by omega) (by omega)]
  by_cases h : a < l.length
  · rw [if_pos (by omega), if_pos h]
  · rw [if_neg (by omega), if_neg h]

theorem eqmarks_loop (l : List S62) (hn : l.length ≤ 1048576) (d : Nat) : ∀ (i : Nat), i + d = l.length → ∀ k, d < k → laws_eqMarkS.l0 k l l ((i : Nat) : Int) = some true := by
  induction d with
  | zero =>
    intro i hi k hk
    obtain ⟨k, rfl⟩ : ∃ m, k = m + 1 := ⟨k - 1, by omega⟩
    rw [laws_eqMarkS.l0, if_neg (by omega)]
  | succ d ih =>
    intro i hi k hk
    obtain ⟨k, rfl⟩ : ∃ m, k = m + 1 := ⟨k - 1, by omega⟩
    have := ih (i + 1) (by omega) k (by omega)
    rw [show ((i + 1 : Nat) : Int) = (i : Int) + 1 by omega] at this
    rw [laws_eqMarkS.l0, if_pos (by omega), if_pos (by omega), if_pos (by omega)]
    unfold laws_eqMark.f
    rw [if_pos rfl, if_pos rfl, Option.bind_some, if_pos rfl, w64 (by omega) (by omega)]
    exact this
theorem eqmarks_self (l : List S62) (hn : l.length ≤ 1048576) (k : Nat) (hk : l.length < k) : laws_eqMarkS.f k l l = some true := by
  unfold laws_eqMarkS.f
  rw [if_pos rfl]
  exact eqmarks_loop l hn l.length 0 (by omega) k hk

theorem toclaim (w : Int) (l : List S90) (hn : l.length ≤ 1048576) (k : Nat) (hk : l.length < k) : laws_toClaim.f k w l = some (w, l.map conv) := by
  unfold laws_toClaim.f
  rw [tomarks l hn k hk]; rfl
theorem szclaim (w : Int) (l : List S90) (hl : l.length ≤ 9223372036854775807) (a : Int) (ha : 0 ≤ a ∧ a ≤ 1048576) : laws_szClaim.f w l a = some (if a < l.length then -1 else a - l.length) := by
  unfold laws_szClaim.f
  rw [szmarks l hl a ha, Option.bind_some]
  by_cases h : a < l.length
  · rw [if_pos h, if_pos (by omega)]
  · rw [if_neg h, if_neg (by omega)]
theorem eqclaim_self (w : Int) (l : List S62) (hn : l.length ≤ 1048576) (k : Nat) (hk : l.length < k) : laws_eqClaim.f k w l w l = some true := by
  unfold laws_eqClaim.f
  rw [if_pos rfl, eqmarks_self l hn k hk, Option.bind_some, if_pos rfl]

theorem conv_w (l : List S90) (hw : ∀ x ∈ l, (Lit.int .i64 x.f0).wf = true ∧ (Lit.int .i64 x.f1).wf = true) : ∀ m ∈ l.map conv, MarkW m := by
  intro m hm
  obtain ⟨x, hx, rfl⟩ := List.mem_map.1 hm
  have := hw x hx
  have h0 := wf64 this.1
  have h1 := wf64 this.2
  exact ⟨h0.1, h0.2, h1.1, h1.2⟩

/-- What 'mark' leaves: numbers from 1 on. -/
def upm (n : Nat) : List S62 := (List.range n).map (fun j => ⟨1 + 2 * ((j : Nat) : Int), 2 + 2 * ((j : Nat) : Int)⟩)
theorem upm_len (n : Nat) : (upm n).length = n := by simp [upm]
theorem upm_at (n j : Nat) (h : j < n) : (upm n)[j]? = some ⟨1 + 2 * ((j : Nat) : Int), 2 + 2 * ((j : Nat) : Int)⟩ := by simp [upm, h]
theorem markm_loop (n : Nat) (hn : n ≤ 1048576) (d : Nat) : ∀ (i : Nat) (l : List S62), l.length = n → i + d = n → (∀ j, j < i → l[j]? = (upm n)[j]?) → ∀ k, d < k →
    laws_markMarkS.l0 k l (1 + 2 * (i : Int)) ((i : Nat) : Int) = some (1 + 2 * (n : Int), upm n) := by
  induction d with
  | zero =>
    intro i l hl hi hj k hk
    obtain ⟨k, rfl⟩ : ∃ m, k = m + 1 := ⟨k - 1, by omega⟩
    have e : l = upm n := by
      apply List.ext_getElem?
      intro j
      by_cases h : j < n
      · exact hj j (by omega)
      · rw [List.getElem?_eq_none (by omega), List.getElem?_eq_none (by rw [upm_len]; omega)]
    rw [laws_markMarkS.l0, if_neg (by omega), e, show i = n by omega]
  | succ d ih =>
    intro i l hl hi hj k hk
    obtain ⟨k, rfl⟩ : ∃ m, k = m + 1 := ⟨k - 1, by omega⟩
    have hlt : i < l.length := by omega
    have := ih (i + 1) (l.set i ⟨1 + 2 * (i : Int), 2 + 2 * (i : Int)⟩) (by rw [List.length_set]; exact hl) (by omega) (fun j h => by
      rw [List.getElem?_set]
      by_cases e : i = j
      · subst e; rw [if_pos rfl, if_pos (by omega), upm_at n i (by omega)]
      · rw [if_neg e]; exact hj j (by omega)) k (by omega)
    rw [laws_markMarkS.l0, if_pos (by omega), if_pos (by omega), Option.bind_some, Int.toNat_natCast, List.set_set]
    have e : rd_T62 (l.set i ⟨1 + 2 * (i : Int), (rd_T62 l ((i : Nat) : Int)).f1⟩) ((i : Nat) : Int) = ⟨1 + 2 * (i : Int), (rd_T62 l ((i : Nat) : Int)).f1⟩ := by
      rw [rdm _ i (by rw [List.length_set]; exact hlt), List.getElem_set_self]
    rw [e, w64 (x := 1 + 2 * (i : Int) + 1) (by omega) (by omega), w64 (by omega) (by omega), w64 (by omega) (by omega)]
    rw [show ((i + 1 : Nat) : Int) = (i : Int) + 1 by omega] at this
    rw [show 1 + 2 * (i : Int) + 1 + 1 = 1 + 2 * ((i : Int) + 1) by omega, show 1 + 2 * (i : Int) + 1 = 2 + 2 * (i : Int) by omega]
    exact this
theorem heldm_loop (n : Nat) (hn : n ≤ 1048576) (d : Nat) : ∀ (i : Nat), i + d = n → ∀ k, d < k →
    laws_heldMarkS.l0 k (upm n) (1 + 2 * (i : Int)) ((i : Nat) : Int) = some (1 + 2 * (n : Int)) := by
  induction d with
  | zero =>
    intro i hi k hk
    obtain ⟨k, rfl⟩ : ∃ m, k = m + 1 := ⟨k - 1, by omega⟩
    have := upm_len n
    rw [laws_heldMarkS.l0, if_neg (by omega), show i = n by omega]
  | succ d ih =>
    intro i hi k hk
    obtain ⟨k, rfl⟩ : ∃ m, k = m + 1 := ⟨k - 1, by omega⟩
    have hl := upm_len n
    have e : rd_T62 (upm n) ((i : Nat) : Int) = ⟨1 + 2 * (i : Int), 2 + 2 * (i : Int)⟩ := by
      unfold rd_T62
      rw [Int.toNat_natCast, List.getD_eq_getElem?_getD, upm_at n i (by omega)]; rfl
    have := ih (i + 1) (by omega) k (by omega)
    rw [laws_heldMarkS.l0, if_pos (by omega), if_pos (by omega), e, if_pos rfl, w64 (x := 1 + 2 * (i : Int) + 1) (by omega) (by omega), if_pos (by show 2 + 2 * (i : Int) = _; omega), w64 (by omega) (by omega), w64 (by omega) (by omega)]
    rw [show ((i + 1 : Nat) : Int) = (i : Int) + 1 by omega] at this
    rw [show 1 + 2 * (i : Int) + 1 + 1 = 1 + 2 * ((i : Int) + 1) by omega]
    exact this
theorem markm (l : List S62) (hl : l.length ≤ 1048576) (k : Nat) (hk : l.length < k) : laws_markMarkS.f k l 1 = some (1 + 2 * (l.length : Int), upm l.length) := by
  unfold laws_markMarkS.f
  exact markm_loop l.length hl l.length 0 l rfl (by omega) (fun j h => by omega) k hk
theorem heldm (n : Nat) (hl : n ≤ 1048576) (k : Nat) (hk : n < k) : laws_heldMarkS.f k (upm n) 1 = some (1 + 2 * (n : Int)) := by
  unfold laws_heldMarkS.f
  exact heldm_loop n hl n 0 (by omega) k hk

/-! ### the law -/
/-- The denied claim. -/
def denyT (p w : Int) (t : List S62) : Int × List S62 × Bool := if ClaimB p w t ∧ ClaimB p w (t ++ [⟨2, 0⟩]) then (w, t ++ [⟨2, 0⟩], true) else (0, [], false)
theorem denyT_len (p w : Int) (t : List S62) : (denyT p w t).2.1.length ≤ 13 := by
  unfold denyT
  by_cases h : ClaimB p w t ∧ ClaimB p w (t ++ [⟨2, 0⟩])
  · rw [if_pos h]; exact h.2.2.2.2
  · rw [if_neg h]; simp
theorem not_w {l : List S62} (hw : ∀ m ∈ l, MarkW m) : ∀ m ∈ l ++ [(⟨2, 0⟩ : S62)], MarkW m := by
  intro m hm
  rcases List.mem_append.1 hm with h | h
  · exact hw m h
  · rw [List.mem_singleton.1 h]
    show -9223372036854775808 ≤ (2 : Int) ∧ (2 : Int) ≤ 9223372036854775807 ∧ -9223372036854775808 ≤ (0 : Int) ∧ (0 : Int) ≤ 9223372036854775807
    omega
theorem sdeny (p : Int) (hp : -9223372036854775808 ≤ p ∧ p ≤ 9223372036854775807) (w : Int) (l : List S62) (hn : l.length ≤ 1048576) (hw : ∀ m ∈ l, MarkW m) (k : Nat) (hk : 4 * l.length + 4 < k) : spec_DenyClaim.f k p w l = some (denyT p w l) := by
  have n1 : (l ++ [(⟨2, 0⟩ : S62)]).length = l.length + 1 := by rw [List.length_append]; rfl
  unfold spec_DenyClaim.f denyT
  simp only [Option.bind_some, List.nil_append, List.length_nil, Nat.zero_add]
  by_cases hl : l.length ≤ 1048575
  · rw [if_pos (by omega), if_pos (by simp only [List.length_cons, List.length_nil]; omega), sclaimok p hp w l hn hw k (by omega), sclaimok p hp w _ (by omega) (not_w hw) k (by omega)]
    simp only [Option.bind_some]
    by_cases h : ClaimB p w l
    · rw [if_pos (by simpa using h)]
      by_cases h2 : ClaimB p w (l ++ [⟨2, 0⟩])
      · rw [if_pos (by simpa using h2), if_pos ⟨h, h2⟩]
      · rw [if_neg (by simpa using h2), if_neg (fun hh => h2 hh.2)]
    · rw [if_neg (by simpa using h), if_neg (fun hh => h hh.1)]
  · have h : ¬ ClaimB p w l := fun h => by have := h.2.2.2; omega
    rw [if_pos (by omega), if_pos (by simp only [List.length_cons, List.length_nil]; omega), sclaimok p hp w l hn hw k (by omega), Option.bind_some, if_neg (by simpa using h), if_neg (fun hh => h hh.1)]
theorem ideny (p w : Int) (l : List S62) (k : Nat) (hk : 40 < k) : impl_DenyClaim.f k p w l = some (denyT p w l) := by
  unfold impl_DenyClaim.f denyT
  rw [iclaimok p w l k (by omega), Option.bind_some]
  by_cases h : ClaimB p w l
  · have h13 := h.2.2.2
    have n1 : (l ++ [(⟨2, 0⟩ : S62)]).length = l.length + 1 := by rw [List.length_append]; rfl
    rw [if_pos (by simpa using h)]
    unfold impl_Mark.f
    rw [if_pos (by omega)]
    simp only [Option.bind_some]
    rw [if_pos (by simp only [List.length_cons, List.length_nil]; omega)]
    unfold impl_claimBy.f impl_Mark.f
    rw [if_pos (by omega)]
    simp only [Option.bind_some]
    rw [iclaimok p w _ k (by omega), Option.bind_some]
    by_cases h2 : ClaimB p w (l ++ [⟨2, 0⟩])
    · rw [if_pos (by simpa using h2), if_pos ⟨h, h2⟩]; rfl
    · rw [if_neg (by simpa using h2), if_neg (fun hh => h2 hh.2)]; rfl
  · rw [if_neg (by simpa using h), if_neg (fun hh => h hh.1)]
theorem FnExactDenyClaim (a0 w : Int) (l1 : List S90) (w0 : (Lit.int .i64 a0).wf = true) (w1 : (Lit.int .i64 w).wf = true) (hl : l1.length ≤ 9223372036854775807) (hw : ∀ x ∈ l1, (Lit.int .i64 x.f0).wf = true ∧ (Lit.int .i64 x.f1).wf = true) : ∃ k, laws_FnExactDenyClaim.f k a0 w l1 = some true := by
  refine ⟨4 * l1.length + 60, ?_⟩
  unfold laws_FnExactDenyClaim.f
  rw [szclaim w l1 hl 1048576 (by omega), Option.bind_some]
  by_cases h : (1048576 : Int) < l1.length
  · rw [if_pos h, if_pos (by omega)]
  · have hn : l1.length ≤ 1048576 := by omega
    have hc : (l1.map conv).length = l1.length := List.length_map ..
    have hm := denyT_len a0 w (l1.map conv)
    rw [if_neg h, if_neg (by omega), toclaim w l1 hn _ (by omega)]
    simp only [Option.bind_some]
    rw [sdeny a0 (wf64 w0) w _ (by omega) (conv_w l1 hw) _ (by omega)]
    simp only [Option.bind_some]
    rw [ideny a0 w _ _ (by omega)]
    simp only [Option.bind_some]
    rw [eqclaim_self _ _ (by omega) _ (by omega), Option.bind_some, if_pos rfl]
    have b0 : ((denyT a0 w (l1.map conv)).2.2 != (denyT a0 w (l1.map conv)).2.2) = false := by simp
    rw [b0]
    obtain ⟨k, hk⟩ : ∃ k, 4 * l1.length + 60 = k + 3 := ⟨4 * l1.length + 57, by omega⟩
    rw [hk, laws_FnExactDenyClaim.j0, if_neg (by simp), toclaim w l1 hn _ (by omega)]
    simp only [Option.bind_some]
    rw [eqclaim_self w _ (by omega) _ (by omega), Option.bind_some, if_pos rfl]
    unfold laws_markClaim.f
    rw [markm _ (by omega) _ (by omega)]
    simp only [Option.bind_some]
    rw [if_neg (by omega), eqclaim_self _ _ (by omega) _ (by omega), Option.bind_some, if_pos rfl, b0, laws_FnExactDenyClaim.j1, if_neg (by simp)]
    unfold laws_markClaim.f laws_heldClaim.f
    rw [markm _ (by omega) _ (by omega)]
    simp only [Option.bind_some]
    rw [heldm _ (by omega) _ (by omega)]
    simp only [Option.bind_some]
    rw [if_neg (by omega)]
    simp only [Option.bind_some]
    rw [if_neg (by omega), if_pos trivial, toclaim w l1 hn _ (by omega)]
    simp only [Option.bind_some]
    rw [ideny a0 w _ _ (by omega)]
    simp only [Option.bind_some]
    rw [eqclaim_self _ _ (by omega) _ (by omega), Option.bind_some, if_pos rfl, b0, laws_FnExactDenyClaim.j2, if_neg (by simp)]
    unfold laws_heldClaim.f
    rw [heldm _ (by omega) _ (by omega)]
    simp only [Option.bind_some]
    rw [if_neg (by omega)]
    simp only [Option.bind_some]
    rw [if_neg (by omega), if_pos trivial]

end Go.Proofs.Ytfhmafmfaoknlaa.Pure
