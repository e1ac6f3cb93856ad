/- Proved: FnAlwaysOk returns true for every code of bytes. No condition. -/
import Derived.Test.YtigkmppgbaoafaaPFnAlwaysOkx9
import Derived.Laws.BitsLemmas
import Derived.Laws.BitsAllLaws
namespace Go.Proofs.Ytigkmppgbaoafaa.Pure
open Go.RowKit Go.Proofs.Ytigkmppgbaoafaa.PFnAlwaysOk Go.Proofs.YtigkmppgbaoafaaW.PrintWords Go.Proofs.YtigkmppgbaoafaaW.PrintLast Go.Proofs.YtigkmppgbaoafaaW.PrintMore
set_option linter.unusedVariables false
set_option linter.unusedSimpArgs false

/-! ### base: whole numbers -/
theorem w64 {x : Int} (h0 : -9223372036854775808 ≤ x) (h1 : x ≤ 9223372036854775807) : wrap64 x = x := by
  unfold wrap64; omega
theorem wf64 {x : Int} (h : (Lit.int .i64 x).wf = true) : -9223372036854775808 ≤ x ∧ x ≤ 9223372036854775807 := by
  simp only [Lit.wf, IntKind.min, IntKind.max, IntKind.signed, IntKind.bits, Bool.and_eq_true, decide_eq_true_eq, if_true] at h
  omega
theorem wf8 {x : Int} (h : (Lit.int .u8 x).wf = true) : 0 ≤ x ∧ x ≤ 255 := by
  simp only [Lit.wf, IntKind.min, IntKind.max, IntKind.signed, IntKind.bits, Bool.and_eq_true, decide_eq_true_eq] at h
  simpa using h
theorem ofInt_i64 (a : Nat) (ha : a < 18446744073709551616) : (BitVec.ofInt 64 (a : Int)).toNat = a := by
  rw [BitVec.ofInt_natCast, BitVec.toNat_ofNat]; exact Nat.mod_eq_of_lt (by omega)
theorem wrapi (x : Nat) (h : x < 9223372036854775808) : IntKind.i64.wrap (x : Int) = x := by
  rw [IntKind.wrap_i64]; omega
theorem or64 (a b : Nat) (ha : a < 4611686018427387904) (hb : b < 4611686018427387904) : Go.bits .or .i64 (a : Int) (b : Int) = ((a ||| b : Nat) : Int) := by
  have hx : a ||| b < 2 ^ 62 := Nat.or_lt_two_pow (by omega) (by omega)
  show IntKind.i64.wrap ((BitVec.ofInt 64 (a : Int) ||| BitVec.ofInt 64 (b : Int)).toNat : Int) = _
  rw [BitVec.toNat_or, ofInt_i64 a (by omega), ofInt_i64 b (by omega), wrapi _ (by omega)]
theorem and64 (a b : Nat) (ha : a < 4611686018427387904) (hb : b < 4611686018427387904) : Go.bits .and .i64 (a : Int) (b : Int) = ((a &&& b : Nat) : Int) := by
  have hx : a &&& b < 2 ^ 62 := Nat.and_lt_two_pow _ (by omega)
  show IntKind.i64.wrap ((BitVec.ofInt 64 (a : Int) &&& BitVec.ofInt 64 (b : Int)).toNat : Int) = _
  rw [BitVec.toNat_and, ofInt_i64 a (by omega), ofInt_i64 b (by omega), wrapi _ (by omega)]
theorem xor64 (a b : Nat) (ha : a < 4611686018427387904) (hb : b < 4611686018427387904) : Go.bits .xor .i64 (a : Int) (b : Int) = ((a ^^^ b : Nat) : Int) := by
  have hx : a ^^^ b < 2 ^ 62 := Nat.xor_lt_two_pow (by omega) (by omega)
  show IntKind.i64.wrap ((BitVec.ofInt 64 (a : Int) ^^^ BitVec.ofInt 64 (b : Int)).toNat : Int) = _
  rw [BitVec.toNat_xor, ofInt_i64 a (by omega), ofInt_i64 b (by omega), wrapi _ (by omega)]
theorem andnot64 (a b : Nat) (ha : a < 4611686018427387904) (hb : b < 4611686018427387904) : Go.bits .andNot .i64 (a : Int) (b : Int) = ((a &&& (18446744073709551615 - b) : Nat) : Int) := by
  have hx : a &&& (18446744073709551615 - b) < 2 ^ 62 := Nat.lt_of_le_of_lt Nat.and_le_left (by omega)
  show IntKind.i64.wrap ((BitVec.ofInt 64 (a : Int) &&& ~~~BitVec.ofInt 64 (b : Int)).toNat : Int) = _
  rw [BitVec.toNat_and, BitVec.toNat_not, ofInt_i64 a (by omega), ofInt_i64 b (by omega)]
  have e : 2 ^ 64 - 1 - b = 18446744073709551615 - b := by omega
  rw [e, wrapi _ (by omega)]
/-- So many worlds; so many tables. -/
def pw (p : Int) : Int := 2 ^ p.toNat
def tw (p : Int) : Int := 2 ^ (2 ^ p.toNat)
theorem p4 {p : Int} (h0 : 1 ≤ p) (h1 : p ≤ 4) : p = 1 ∨ p = 2 ∨ p = 3 ∨ p = 4 := by omega
theorem pw_of {p : Int} (h0 : 1 ≤ p) (h1 : p ≤ 4) : 2 ≤ pw p ∧ pw p ≤ 16 := by
  rcases p4 h0 h1 with rfl | rfl | rfl | rfl <;> decide
theorem tw_of {p : Int} (h0 : 1 ≤ p) (h1 : p ≤ 4) : 4 ≤ tw p ∧ tw p ≤ 65536 := by
  rcases p4 h0 h1 with rfl | rfl | rfl | rfl <;> decide
theorem tw_pw {p : Int} (h0 : 1 ≤ p) (h1 : p ≤ 4) : tw p = 2 ^ (pw p).toNat := by
  rcases p4 h0 h1 with rfl | rfl | rfl | rfl <;> decide
theorem shl_pw {p : Int} (h0 : 1 ≤ p) (h1 : p ≤ 4) : shl .i64 1 p = pw p := by
  rcases p4 h0 h1 with rfl | rfl | rfl | rfl <;> decide
theorem shlu_pw {p : Int} (h0 : 1 ≤ p) (h1 : p ≤ 4) : shl .u64 1 p = pw p := by
  rcases p4 h0 h1 with rfl | rfl | rfl | rfl <;> decide
theorem shl_tw {p : Int} (h0 : 1 ≤ p) (h1 : p ≤ 4) : shl .i64 1 (pw p) = tw p := by
  rcases p4 h0 h1 with rfl | rfl | rfl | rfl <;> decide
/-- A shift of a small number by a small count. -/
theorem shl_nat (x n : Nat) (hn : n ≤ 16) (hx : x ≤ 65536) : shl .i64 (x : Int) (n : Int) = ((x * 2 ^ n : Nat) : Int) := by
  unfold shl
  have e : min ((n : Int).toNat) (IntKind.i64.bits) = n := by simp [IntKind.bits]; omega
  rw [e]
  have hp : 2 ^ n ≤ 2 ^ 16 := Nat.pow_le_pow_right (by decide) hn
  have hm : x * 2 ^ n ≤ 65536 * 2 ^ 16 := Nat.mul_le_mul hx hp
  have e2 : (x : Int) * 2 ^ n = ((x * 2 ^ n : Nat) : Int) := by simp
  rw [e2, wrapi _ (by omega)]
theorem shr_nat (x n : Nat) (hn : n ≤ 16) : shr .i64 (x : Int) (n : Int) = ((x / 2 ^ n : Nat) : Int) := by
  unfold shr
  have e : min ((n : Int).toNat) (IntKind.i64.bits) = n := by simp [IntKind.bits]; omega
  rw [e]
  simp

/-- Terms: how the number of parts goes on at a mark. -/
def tstep (p n : Int) (m : S41) : Option Int :=
  if m.f0 = 0 then (if 0 ≤ m.f1 ∧ m.f1 < p then some (n + 1) else none)
  else if m.f0 = 1 then (if 0 ≤ m.f1 ∧ m.f1 ≤ p + 1 then some (n + 1) else none)
  else if m.f0 = 2 then (if m.f1 = 0 ∧ 1 ≤ n then some n else none)
  else if 3 ≤ m.f0 ∧ m.f0 ≤ 5 then (if m.f1 = 0 ∧ 2 ≤ n then some (n - 1) else none)
  else none
def tfold (p : Int) : Int → List S41 → Option Int
  | n, [] => some n
  | n, m :: t => (tstep p n m).bind fun n' => tfold p n' t
theorem tfold_cons (p n : Int) (m : S41) (t : List S41) : tfold p n (m :: t) = (tstep p n m).bind fun n' => tfold p n' t := rfl
theorem tfold_none {p n : Int} {m : S41} (t : List S41) (h : tstep p n m = none) : tfold p n (m :: t) = none := by rw [tfold_cons, h]; rfl
theorem tfold_some {p n n' : Int} {m : S41} (t : List S41) (h : tstep p n m = some n') : tfold p n (m :: t) = tfold p n' t := by rw [tfold_cons, h]; rfl
def TermB (p : Int) (t : List S41) : Prop := 1 ≤ p ∧ p ≤ 4 ∧ t.length ≤ 15 ∧ tfold p 0 t = some 1
instance (p : Int) (t : List S41) : Decidable (TermB p t) := by unfold TermB; infer_instance
theorem TermB_pos {p : Int} {t : List S41} (h : TermB p t) : 1 ≤ t.length := by
  cases t with
  | nil => have := h.2.2.2; simp [tfold] at this
  | cons => simp
/-- What is known of marks that came in. -/
def MarkW (m : S41) : Prop := -9223372036854775808 ≤ m.f0 ∧ m.f0 ≤ 9223372036854775807 ∧ -9223372036854775808 ≤ m.f1 ∧ m.f1 ≤ 9223372036854775807
theorem rdm (l : List S41) (i : Nat) (h : i < l.length) : rd_T41 l ((i : Nat) : Int) = l[i] := by
  unfold rd_T41
  rw [Int.toNat_natCast, List.getD_eq_getElem?_getD, List.getElem?_eq_getElem h]; rfl
theorem rdm_mid (x r l : List S41) (m : S41) (hl : l = x ++ m :: r) (n : Int) (hn : n = (x.length : Int)) : rd_T41 l n = m := by
  subst hl
  subst hn
  rw [rdm _ _ (by simp), List.getElem_append_right (Nat.le_refl _)]
  simp

theorem in_eq (a b c : Int) : spec_l1In.f a b c = some (decide (b ≤ a ∧ a ≤ c)) := by
  unfold spec_l1In.f
  by_cases h : a ≥ b
  · rw [if_pos h]; congr 1; rw [decide_eq_decide]; omega
  · rw [if_neg h]; congr 1; symm; rw [decide_eq_false_iff_not]; omega

theorem stermok_loop (p : Int) (hp : -9223372036854775808 ≤ p ∧ p ≤ 9223372036854775807) (l : List S41) (hn : l.length ≤ 1048576) (hw : ∀ m ∈ l, MarkW m) (d : Nat) : ∀ (i : Nat) (n : Int), i + d = l.length → 0 ≤ n → n ≤ i → ∀ k, 4 * d < k →
    spec_TermOk.l0 k p l n ((i : Nat) : Int) = some (decide (tfold p n (l.drop i) = some 1 ∧ 1 ≤ p ∧ p ≤ 4 ∧ l.length ≤ 15)) := by
  induction d with
  | zero =>
    intro i n hi h0 h1 k hk
    obtain ⟨k, rfl⟩ : ∃ m, k = m + 1 := ⟨k - 1, by omega⟩
    rw [spec_TermOk.l0, if_neg (by omega), in_eq, Option.bind_some, List.drop_of_length_le (by omega)]
    by_cases hpp : 1 ≤ p ∧ p ≤ 4
    · rw [if_pos (by simpa using hpp)]
      by_cases hn1 : n = 1
      · rw [if_pos hn1]; congr 1; rw [decide_eq_decide]; simp [tfold, hn1]; omega
      · rw [if_neg hn1]; congr 1; symm; rw [decide_eq_false_iff_not]; simp [tfold, hn1]
    · rw [if_neg (by simpa using hpp)]; congr 1; symm; rw [decide_eq_false_iff_not]; rintro ⟨_, a, b, _⟩; exact hpp ⟨a, b⟩
  | succ d ih =>
    intro i n hi h0 h1 k hk
    obtain ⟨k, rfl⟩ : ∃ m, k = m + 4 := ⟨k - 4, by omega⟩
    have hlt : i < l.length := by omega
    have hm := hw _ (List.getElem_mem hlt)
    unfold MarkW at hm
    have next : ∀ (n' : Int) (k' : Nat), tstep p n l[i] = some n' → 0 ≤ n' → n' ≤ i + 1 → 4 * d < k' →
        spec_TermOk.l0 k' p l n' (wrap64 ((i : Int) + 1)) = some (decide (tfold p n (l.drop i) = some 1 ∧ 1 ≤ p ∧ p ≤ 4 ∧ l.length ≤ 15)) := by
      intro n' k' hs h0' h1' hk'
      have := ih (i + 1) n' (by omega) h0' (by omega) k' hk'
      rw [w64 (by omega) (by omega), show (i : Int) + 1 = ((i + 1 : Nat) : Int) by omega, this, List.drop_eq_getElem_cons hlt, tfold_some _ hs]
    have stop : tstep p n l[i] = none → some false = some (decide (tfold p n (l.drop i) = some 1 ∧ 1 ≤ p ∧ p ≤ 4 ∧ l.length ≤ 15)) := by
      intro hs
      rw [List.drop_eq_getElem_cons hlt, tfold_none _ hs]; simp
    generalize hgm : l[i] = m at *
    have hrd : rd_T41 l ((i : Nat) : Int) = m := by rw [rdm l i hlt]; exact hgm
    -- the ways behind the first two tests
    have g3 : ∀ b, (b = true ↔ (m.f0 = 2 ∧ m.f1 = 0 ∧ n ≥ 1)) → ¬ (m.f0 = 0 ∧ m.f1 ≥ 0 ∧ m.f1 < p) → ¬ (m.f0 = 1 ∧ m.f1 ≥ 0 ∧ m.f1 ≤ p + 1) → spec_TermOk.j3 (k + 1) p l n ((i : Nat) : Int) b = some (decide (tfold p n (l.drop i) = some 1 ∧ 1 ≤ p ∧ p ≤ 4 ∧ l.length ≤ 15)) := by
      intro b hb n0 n1
      rw [spec_TermOk.j3]
      by_cases hbt : b = true
      · have := hb.1 hbt
        rw [if_pos hbt]
        exact next n k (by unfold tstep; rw [if_neg (by omega), if_neg (by omega), if_pos this.1, if_pos (by omega)]) (by omega) (by omega) (by omega)
      · have hb' : ¬ (m.f0 = 2 ∧ m.f1 = 0 ∧ n ≥ 1) := fun h => hbt (hb.2 h)
        rw [if_neg hbt, if_pos (by omega), if_pos (by omega), hrd, in_eq, Option.bind_some]
        by_cases h35 : 3 ≤ m.f0 ∧ m.f0 ≤ 5
        · rw [if_pos (by simpa using h35)]
          by_cases ha : m.f1 = 0
          · rw [if_pos ha]
            by_cases h2 : n ≥ 2
            · rw [if_pos h2, w64 (x := n - 1) (by omega) (by omega)]
              exact next (n - 1) k (by unfold tstep; rw [if_neg (by omega), if_neg (by omega), if_neg (by omega), if_pos h35, if_pos (by omega)]) (by omega) (by omega) (by omega)
            · rw [if_neg h2]
              exact stop (by unfold tstep; rw [if_neg (by omega), if_neg (by omega), if_neg (by omega), if_pos h35, if_neg (by omega)])
          · rw [if_neg ha]
            exact stop (by unfold tstep; rw [if_neg (by omega), if_neg (by omega), if_neg (by omega), if_pos h35, if_neg (by omega)])
        · rw [if_neg (by simpa using h35)]
          refine stop ?_
          unfold tstep
          by_cases e0 : m.f0 = 0
          · rw [if_pos e0, if_neg (by omega)]
          · rw [if_neg e0]
            by_cases e1 : m.f0 = 1
            · rw [if_pos e1, if_neg (by omega)]
            · rw [if_neg e1]
              by_cases e2 : m.f0 = 2
              · rw [if_pos e2, if_neg (by omega)]
              · rw [if_neg e2, if_neg h35]
    have g2 : ∀ b, (b = true ↔ (m.f0 = 1 ∧ m.f1 ≥ 0 ∧ m.f1 ≤ p + 1)) → ¬ (m.f0 = 0 ∧ m.f1 ≥ 0 ∧ m.f1 < p) → spec_TermOk.j2 (k + 2) p l n ((i : Nat) : Int) b = some (decide (tfold p n (l.drop i) = some 1 ∧ 1 ≤ p ∧ p ≤ 4 ∧ l.length ≤ 15)) := by
      intro b hb n0
      rw [spec_TermOk.j2]
      by_cases hbt : b = true
      · have := hb.1 hbt
        rw [if_pos hbt, w64 (x := n + 1) (by omega) (by omega)]
        exact next (n + 1) (k + 1) (by unfold tstep; rw [if_neg (by omega), if_pos this.1, if_pos (by omega)]) (by omega) (by omega) (by omega)
      · have hb' : ¬ (m.f0 = 1 ∧ m.f1 ≥ 0 ∧ m.f1 ≤ p + 1) := fun h => hbt (hb.2 h)
        rw [if_neg hbt, if_pos (by omega), if_pos (by omega), hrd]
        by_cases h2 : (m.f0 == 2 && m.f1 == 0) = true
        · rw [if_pos h2]
          rw [Bool.and_eq_true, beq_iff_eq, beq_iff_eq] at h2
          exact g3 _ (by rw [decide_eq_true_iff]; omega) n0 hb'
        · rw [if_neg h2]
          rw [Bool.and_eq_true, beq_iff_eq, beq_iff_eq] at h2
          exact g3 _ (by simp; omega) n0 hb'
    have g1 : ∀ b, (b = true ↔ (m.f0 = 0 ∧ m.f1 ≥ 0 ∧ m.f1 < p)) → spec_TermOk.j1 (k + 3) p l n ((i : Nat) : Int) b = some (decide (tfold p n (l.drop i) = some 1 ∧ 1 ≤ p ∧ p ≤ 4 ∧ l.length ≤ 15)) := by
      intro b hb
      rw [spec_TermOk.j1]
      by_cases hbt : b = true
      · have := hb.1 hbt
        rw [if_pos hbt, w64 (x := n + 1) (by omega) (by omega)]
        exact next (n + 1) (k + 2) (by unfold tstep; rw [if_pos this.1, if_pos (by omega)]) (by omega) (by omega) (by omega)
      · have hb' : ¬ (m.f0 = 0 ∧ m.f1 ≥ 0 ∧ m.f1 < p) := fun h => hbt (hb.2 h)
        rw [if_neg hbt, if_pos (by omega), if_pos (by omega), hrd]
        by_cases e1 : m.f0 = 1
        · rw [if_pos e1]
          by_cases e2 : m.f1 ≥ 0
          · rw [if_pos e2]
            by_cases e3 : m.f1 ≤ p
            · rw [if_pos e3]; exact g2 _ (by simp; omega) hb'
            · rw [if_neg e3, w64 (x := m.f1 - 1) (by omega) (by omega)]; exact g2 _ (by rw [beq_iff_eq]; omega) hb'
          · rw [if_neg e2]; exact g2 _ (by simp; omega) hb'
        · rw [if_neg e1]; exact g2 _ (by simp; omega) hb'
    rw [show k + 4 = (k + 3) + 1 from rfl, spec_TermOk.l0, if_pos (by omega), if_pos (by omega), hrd]
    by_cases e0 : m.f0 = 0
    · rw [if_pos e0]
      by_cases e1 : m.f1 ≥ 0
      · rw [if_pos e1]; exact g1 _ (by rw [decide_eq_true_iff]; omega)
      · rw [if_neg e1]; exact g1 _ (by simp; omega)
    · rw [if_neg e0]; exact g1 _ (by simp; omega)
theorem stermok (p : Int) (hp : -9223372036854775808 ≤ p ∧ p ≤ 9223372036854775807) (l : List S41) (hn : l.length ≤ 1048576) (hw : ∀ m ∈ l, MarkW m) (k : Nat) (hk : 4 * l.length < k) : spec_TermOk.f k p l = some (decide (TermB p l)) := by
  unfold spec_TermOk.f
  have := stermok_loop p hp l hn hw l.length 0 0 (by omega) (by omega) (by omega) k hk
  rw [show ((0 : Nat) : Int) = 0 from rfl] at this
  rw [this, List.drop_zero]
  congr 1; rw [decide_eq_decide]; unfold TermB
  constructor
  · rintro ⟨a, b, c, d⟩; exact ⟨b, c, d, a⟩
  · rintro ⟨a, b, c, d⟩; exact ⟨d, a, b, c⟩

/-- A mark of a term. -/
def MOk (p : Int) (m : S41) : Prop := (m.f0 = 0 ∧ 0 ≤ m.f1 ∧ m.f1 < p) ∨ (m.f0 = 1 ∧ 0 ≤ m.f1 ∧ m.f1 ≤ p + 1) ∨ (2 ≤ m.f0 ∧ m.f0 ≤ 5 ∧ m.f1 = 0)
theorem tstep_ok {p n n' : Int} {m : S41} (h : tstep p n m = some n') : MOk p m := by
  unfold tstep at h
  unfold MOk
  by_cases e0 : m.f0 = 0
  · rw [if_pos e0] at h
    by_cases e : 0 ≤ m.f1 ∧ m.f1 < p
    · exact .inl ⟨e0, e.1, e.2⟩
    · rw [if_neg e] at h; cases h
  · rw [if_neg e0] at h
    by_cases e1 : m.f0 = 1
    · rw [if_pos e1] at h
      by_cases e : 0 ≤ m.f1 ∧ m.f1 ≤ p + 1
      · exact .inr (.inl ⟨e1, e.1, e.2⟩)
      · rw [if_neg e] at h; cases h
    · rw [if_neg e1] at h
      by_cases e2 : m.f0 = 2
      · rw [if_pos e2] at h
        by_cases e : m.f1 = 0 ∧ 1 ≤ n
        · exact .inr (.inr ⟨by omega, by omega, e.1⟩)
        · rw [if_neg e] at h; cases h
      · rw [if_neg e2] at h
        by_cases e3 : 3 ≤ m.f0 ∧ m.f0 ≤ 5
        · rw [if_pos e3] at h
          by_cases e : m.f1 = 0 ∧ 2 ≤ n
          · exact .inr (.inr ⟨by omega, by omega, e.1⟩)
          · rw [if_neg e] at h; cases h
        · rw [if_neg e3] at h; cases h
theorem tfold_ok {p : Int} : ∀ {t : List S41} {n n' : Int}, tfold p n t = some n' → ∀ m ∈ t, MOk p m
  | [], _, _, _ => by simp
  | a :: t, n, n', h => by
    rw [tfold_cons] at h
    obtain ⟨q, h1, h2⟩ := Option.bind_eq_some_iff.1 h
    intro m hm
    rcases List.mem_cons.1 hm with rfl | hm
    · exact tstep_ok h1
    · exact tfold_ok h2 m hm
theorem TermB_ok {p : Int} {t : List S41} (h : TermB p t) : ∀ m ∈ t, MOk p m := tfold_ok h.2.2.2

/-! ### terms, part by part -/
theorem tfold_append (p : Int) (a b : List S41) (n : Int) : tfold p n (a ++ b) = (tfold p n a).bind fun n' => tfold p n' b := by
  induction a generalizing n with
  | nil => rfl
  | cons m a ih =>
    rw [List.cons_append, tfold_cons, tfold_cons]
    cases tstep p n m with
    | none => rfl
    | some q => rw [Option.bind_some, Option.bind_some]; exact ih q
theorem tstep_shift {p n n' : Int} {m : S41} (j : Int) (hj : 0 ≤ j) (h : tstep p n m = some n') : tstep p (n + j) m = some (n' + j) := by
  unfold tstep at h ⊢
  by_cases e0 : m.f0 = 0
  · rw [if_pos e0] at h ⊢
    by_cases e : 0 ≤ m.f1 ∧ m.f1 < p
    · rw [if_pos e] at h ⊢
      have := Option.some.inj h
      congr 1; omega
    · rw [if_neg e] at h; cases h
  · rw [if_neg e0] at h ⊢
    by_cases e1 : m.f0 = 1
    · rw [if_pos e1] at h ⊢
      by_cases e : 0 ≤ m.f1 ∧ m.f1 ≤ p + 1
      · rw [if_pos e] at h ⊢
        have := Option.some.inj h
        congr 1; omega
      · rw [if_neg e] at h; cases h
    · rw [if_neg e1] at h ⊢
      by_cases e2 : m.f0 = 2
      · rw [if_pos e2] at h ⊢
        by_cases e : m.f1 = 0 ∧ 1 ≤ n
        · rw [if_pos e] at h
          have := Option.some.inj h
          rw [if_pos (by omega)]; congr 1; omega
        · rw [if_neg e] at h; cases h
      · rw [if_neg e2] at h ⊢
        by_cases e3 : 3 ≤ m.f0 ∧ m.f0 ≤ 5
        · rw [if_pos e3] at h ⊢
          by_cases e : m.f1 = 0 ∧ 2 ≤ n
          · rw [if_pos e] at h
            have := Option.some.inj h
            rw [if_pos (by omega)]; congr 1; omega
          · rw [if_neg e] at h; cases h
        · rw [if_neg e3] at h; cases h
theorem tfold_shift {p : Int} (j : Int) (hj : 0 ≤ j) : ∀ {t : List S41} {n n' : Int}, tfold p n t = some n' → tfold p (n + j) t = some (n' + j)
  | [], n, n', h => by
    have := Option.some.inj (show some n = some n' from h)
    show some (n + j) = some (n' + j)
    rw [this]
  | m :: t, n, n', h => by
    rw [tfold_cons] at h
    obtain ⟨q, h1, h2⟩ := Option.bind_eq_some_iff.1 h
    rw [tfold_cons, tstep_shift j hj h1, Option.bind_some]
    exact tfold_shift j hj h2
/-- One whole term. -/
def Tm (p : Int) (t : List S41) : Prop := tfold p 0 t = some 1
theorem Tm_on {p : Int} {t : List S41} (h : Tm p t) (n : Int) (hn : 0 ≤ n) : tfold p n t = some (n + 1) := by
  have := tfold_shift n hn h
  rwa [Int.zero_add, Int.add_comm 1 n] at this
theorem tstep_cases {p n n' : Int} {m : S41} (h : tstep p n m = some n') :
    (((m.f0 = 0 ∧ 0 ≤ m.f1 ∧ m.f1 < p) ∨ (m.f0 = 1 ∧ 0 ≤ m.f1 ∧ m.f1 ≤ p + 1)) ∧ n' = n + 1) ∨ (m.f0 = 2 ∧ m.f1 = 0 ∧ 1 ≤ n ∧ n' = n) ∨ (3 ≤ m.f0 ∧ m.f0 ≤ 5 ∧ m.f1 = 0 ∧ 2 ≤ n ∧ n' = n - 1) := by
  unfold tstep at h
  by_cases e0 : m.f0 = 0
  · rw [if_pos e0] at h
    by_cases e : 0 ≤ m.f1 ∧ m.f1 < p
    · rw [if_pos e] at h; exact .inl ⟨.inl ⟨e0, e⟩, (Option.some.inj h).symm⟩
    · rw [if_neg e] at h; cases h
  · rw [if_neg e0] at h
    by_cases e1 : m.f0 = 1
    · rw [if_pos e1] at h
      by_cases e : 0 ≤ m.f1 ∧ m.f1 ≤ p + 1
      · rw [if_pos e] at h; exact .inl ⟨.inr ⟨e1, e⟩, (Option.some.inj h).symm⟩
      · rw [if_neg e] at h; cases h
    · rw [if_neg e1] at h
      by_cases e2 : m.f0 = 2
      · rw [if_pos e2] at h
        by_cases e : m.f1 = 0 ∧ 1 ≤ n
        · rw [if_pos e] at h; exact .inr (.inl ⟨e2, e.1, e.2, (Option.some.inj h).symm⟩)
        · rw [if_neg e] at h; cases h
      · rw [if_neg e2] at h
        by_cases e3 : 3 ≤ m.f0 ∧ m.f0 ≤ 5
        · rw [if_pos e3] at h
          by_cases e : m.f1 = 0 ∧ 2 ≤ n
          · rw [if_pos e] at h; exact .inr (.inr ⟨e3.1, e3.2, e.1, e.2, (Option.some.inj h).symm⟩)
          · rw [if_neg e] at h; cases h
        · rw [if_neg e3] at h; cases h
def Leaf (p : Int) (m : S41) : Prop := (m.f0 = 0 ∧ 0 ≤ m.f1 ∧ m.f1 < p) ∨ (m.f0 = 1 ∧ 0 ≤ m.f1 ∧ m.f1 ≤ p + 1)
theorem leaf_step {p : Int} {m : S41} (h : Leaf p m) (n : Int) : tstep p n m = some (n + 1) := by
  unfold tstep
  rcases h with ⟨e, h⟩ | ⟨e, h⟩
  · rw [if_pos e, if_pos h]
  · rw [if_neg (by omega), if_pos e, if_pos h]
theorem not_step {p : Int} {m : S41} (h : m.f0 = 2) (h0 : m.f1 = 0) (n : Int) (hn : 1 ≤ n) : tstep p n m = some n := by
  unfold tstep
  rw [if_neg (by omega), if_neg (by omega), if_pos h, if_pos ⟨h0, hn⟩]
theorem bin_step {p : Int} {m : S41} (h : 3 ≤ m.f0) (h5 : m.f0 ≤ 5) (h0 : m.f1 = 0) (n : Int) (hn : 2 ≤ n) : tstep p n m = some (n - 1) := by
  unfold tstep
  rw [if_neg (by omega), if_neg (by omega), if_neg (by omega), if_pos ⟨h, h5⟩, if_pos ⟨h0, hn⟩]
theorem Tm_leaf {p : Int} {m : S41} (h : Leaf p m) : Tm p [m] := by
  unfold Tm
  rw [tfold_cons, leaf_step h 0]; rfl
theorem Tm_not {p : Int} {a : List S41} {m : S41} (ha : Tm p a) (h : m.f0 = 2) (h0 : m.f1 = 0) : Tm p (a ++ [m]) := by
  unfold Tm at ha ⊢
  rw [tfold_append, ha, Option.bind_some, tfold_cons, not_step h h0 1 (by omega)]; rfl
theorem Tm_bin {p : Int} {a b : List S41} {m : S41} (ha : Tm p a) (hb : Tm p b) (h : 3 ≤ m.f0) (h5 : m.f0 ≤ 5) (h0 : m.f1 = 0) : Tm p (a ++ b ++ [m]) := by
  have h2 := Tm_on hb 1 (by omega)
  unfold Tm at ha ⊢
  rw [tfold_append, tfold_append, ha, Option.bind_some, h2, Option.bind_some, tfold_cons, bin_step h h5 h0 (1 + 1) (by omega)]; rfl
theorem tfold_nonneg {p : Int} : ∀ {t : List S41} {n n' : Int}, 0 ≤ n → tfold p n t = some n' → 0 ≤ n' ∧ (1 ≤ n → 1 ≤ n')
  | [], n, n', h0, h => by
    have := Option.some.inj (show some n = some n' from h)
    omega
  | m :: t, n, n', h0, h => by
    rw [tfold_cons] at h
    obtain ⟨q, h1, h2⟩ := Option.bind_eq_some_iff.1 h
    have hq : 1 ≤ q := by rcases tstep_cases h1 with h | h | h <;> omega
    have := tfold_nonneg (by omega) h2
    exact ⟨this.1, fun _ => this.2 hq⟩
theorem tfold_zero {p : Int} {t : List S41} (h : tfold p 0 t = some 0) : t = [] := by
  cases t with
  | nil => rfl
  | cons m t =>
    rw [tfold_cons] at h
    obtain ⟨q, h1, h2⟩ := Option.bind_eq_some_iff.1 h
    have hq : 1 ≤ q := by rcases tstep_cases h1 with h | h | h <;> omega
    have := (tfold_nonneg (by omega) h2).2 hq
    omega
theorem tfold_last {p n' : Int} {a : List S41} {m : S41} (h : tfold p 0 (a ++ [m]) = some n') : ∃ n, tfold p 0 a = some n ∧ tstep p n m = some n' := by
  rw [tfold_append] at h
  obtain ⟨q, h1, h2⟩ := Option.bind_eq_some_iff.1 h
  refine ⟨q, h1, ?_⟩
  rw [tfold_cons] at h2
  obtain ⟨q2, h3, h4⟩ := Option.bind_eq_some_iff.1 h2
  rw [h3, Option.some.inj (show some q2 = some n' from h4)]
/-- The last term of some. -/
theorem tfold_split {p : Int} (L : Nat) : ∀ (a : List S41) (n : Int), a.length ≤ L → 0 ≤ n → tfold p 0 a = some (n + 1) → ∃ a1 a2, a = a1 ++ a2 ∧ tfold p 0 a1 = some n ∧ Tm p a2 ∧ 0 < a2.length := by
  induction L with
  | zero =>
    intro a n hl hn h
    have : a = [] := List.eq_nil_of_length_eq_zero (by omega)
    subst this
    have := Option.some.inj (show some (0 : Int) = some (n + 1) from h)
    omega
  | succ L ih =>
    intro a n hl hn h
    rcases List.eq_nil_or_concat a with rfl | ⟨b, m, rfl⟩
    · have := Option.some.inj (show some (0 : Int) = some (n + 1) from h)
      omega
    · rw [List.concat_eq_append] at h hl ⊢
      rw [List.length_append, List.length_singleton] at hl
      obtain ⟨q, h1, h2⟩ := tfold_last h
      rcases tstep_cases h2 with ⟨hf, hq⟩ | ⟨e, e0, hn1, hq⟩ | ⟨e3, e5, e0, hn2, hq⟩
      · exact ⟨b, [m], rfl, by rw [h1]; congr 1; omega, Tm_leaf hf, by simp⟩
      · obtain ⟨a1, a2, rfl, ha1, ha2, hp⟩ := ih b n (by omega) hn (by rw [h1]; congr 1; omega)
        exact ⟨a1, a2 ++ [m], by rw [List.append_assoc], ha1, Tm_not ha2 e e0, by simp⟩
      · obtain ⟨b1, b2, rfl, hb1, hb2, hp⟩ := ih b (n + 1) (by omega) (by omega) (by rw [h1]; congr 1; omega)
        rw [List.length_append] at hl
        obtain ⟨c1, c2, rfl, hc1, hc2, hp2⟩ := ih b1 n (by omega) hn hb1
        exact ⟨c1, c2 ++ b2 ++ [m], by simp only [List.append_assoc], hc1, Tm_bin hc2 hb2 e3 e5 e0, by rw [List.length_append, List.length_append, List.length_singleton]; omega⟩
/-- What a term may be. -/
theorem Tm_cases {p : Int} {t : List S41} (h : Tm p t) : (∃ m, t = [m] ∧ Leaf p m) ∨ (∃ a m, t = a ++ [m] ∧ Tm p a ∧ m.f0 = 2 ∧ m.f1 = 0) ∨ (∃ a b m, t = a ++ b ++ [m] ∧ Tm p a ∧ Tm p b ∧ 3 ≤ m.f0 ∧ m.f0 ≤ 5 ∧ m.f1 = 0) := by
  unfold Tm at h
  rcases List.eq_nil_or_concat t with rfl | ⟨b, m, rfl⟩
  · have := Option.some.inj (show some (0 : Int) = some 1 from h)
    omega
  · rw [List.concat_eq_append] at h ⊢
    obtain ⟨q, h1, h2⟩ := tfold_last h
    rcases tstep_cases h2 with ⟨hf, hq⟩ | ⟨e, e0, hn1, hq⟩ | ⟨e3, e5, e0, hn2, hq⟩
    · have : q = 0 := by omega
      subst this
      rw [tfold_zero h1]
      exact .inl ⟨m, rfl, hf⟩
    · have : q = 1 := by omega
      subst this
      exact .inr (.inl ⟨b, m, rfl, h1, e, e0⟩)
    · obtain ⟨a1, a2, rfl, ha1, ha2, _⟩ := tfold_split b.length b 1 (Nat.le_refl _) (by omega) (by rw [h1]; congr 1; omega)
      exact .inr (.inr ⟨a1, a2, m, rfl, ha1, ha2, e3, e5, e0⟩)
theorem Tm_ne {p : Int} {t : List S41} (h : Tm p t) : 0 < t.length := by
  rcases Tm_cases h with ⟨m, rfl, _⟩ | ⟨a, m, rfl, _⟩ | ⟨a, b, m, rfl, _⟩
  · simp
  · simp
  · rw [List.length_append, List.length_append, List.length_singleton]; omega
/-- Induction over terms. -/
theorem Tm_ind {p : Int} (P : List S41 → Prop) (hl : ∀ m, Leaf p m → P [m]) (hn : ∀ a m, Tm p a → m.f0 = 2 → m.f1 = 0 → P a → P (a ++ [m])) (hb : ∀ a b m, Tm p a → Tm p b → 3 ≤ m.f0 → m.f0 ≤ 5 → m.f1 = 0 → P a → P b → P (a ++ b ++ [m])) : ∀ t, Tm p t → P t := by
  have key : ∀ L (t : List S41), t.length ≤ L → Tm p t → P t := by
    intro L
    induction L with
    | zero => intro t h1 h2; have := Tm_ne h2; omega
    | succ L ih =>
      intro t h1 h2
      rcases Tm_cases h2 with ⟨m, rfl, hm⟩ | ⟨a, m, rfl, ha, e, e0⟩ | ⟨a, b, m, rfl, ha, hb', e3, e5, e0⟩
      · exact hl m hm
      · rw [List.length_append, List.length_singleton] at h1
        exact hn a m ha e e0 (ih a (by omega) ha)
      · rw [List.length_append, List.length_append, List.length_singleton] at h1
        have := Tm_ne ha
        have := Tm_ne hb'
        exact hb a b m ha hb' e3 e5 e0 (ih a (by omega) ha) (ih b (by omega) hb')
  exact fun t ht => key t.length t (Nat.le_refl _) ht

/-- How many of 0..15's four lowest bits are set. -/
def ones (w : Int) : Int := w % 2 + w / 2 % 2 + w / 4 % 2 + w / 8 % 2

/-- How a mark holds on a stack, top first. -/
def hstep (w : Nat) (st : List Bool) (m : S41) : List Bool :=
  if m.f0 = 0 then w.testBit m.f1.toNat :: st
  else if m.f0 = 1 then decide (ones (w : Int) ≥ m.f1) :: st
  else if m.f0 = 2 then (match st with | b :: r => (!b) :: r | [] => [])
  else match st with
    | b :: a :: r => (if m.f0 = 3 then a && b else if m.f0 = 4 then a || b else a == b) :: r
    | _ => []
def hrun (w : Nat) (st : List Bool) (t : List S41) : List Bool := t.foldl (hstep w) st
/-- Does a term hold. -/
def hv (w : Nat) (t : List S41) : Bool := (hrun w [] t).headD false
theorem hrun_append (w : Nat) (st : List Bool) (a b : List S41) : hrun w st (a ++ b) = hrun w (hrun w st a) b := List.foldl_append ..
theorem hrun_Tm {p : Int} (w : Nat) : ∀ t : List S41, Tm p t → ∀ st, hrun w st t = hv w t :: st := by
  apply Tm_ind
  · intro m hm st
    unfold hv hrun
    simp only [List.foldl_cons, List.foldl_nil]
    unfold hstep
    rcases hm with ⟨e, _⟩ | ⟨e, _⟩
    · simp [e]
    · simp [e]
  · intro a m ha e e0 ih st
    unfold hv
    rw [hrun_append, hrun_append, ih st, ih []]
    unfold hrun
    simp only [List.foldl_cons, List.foldl_nil]
    unfold hstep
    simp [e]
  · intro a b m ha hb e3 e5 e0 iha ihb st
    unfold hv
    rw [hrun_append, hrun_append, hrun_append, hrun_append, iha st, iha [], ihb, ihb]
    unfold hrun
    simp only [List.foldl_cons, List.foldl_nil]
    unfold hstep
    simp only [if_neg (show ¬ m.f0 = 0 by omega), if_neg (show ¬ m.f0 = 1 by omega), if_neg (show ¬ m.f0 = 2 by omega)]
    rfl
theorem hv_tells {p : Int} (w : Nat) (m : S41) (h : m.f0 = 0) : hv w [m] = w.testBit m.f1.toNat := by
  simp [hv, hrun, hstep, h]
theorem hv_count {p : Int} (w : Nat) (m : S41) (h : m.f0 = 1) : hv w [m] = decide (ones (w : Int) ≥ m.f1) := by
  simp [hv, hrun, hstep, h]
theorem hv_not {p : Int} (w : Nat) (a : List S41) (m : S41) (ha : Tm p a) (h : m.f0 = 2) : hv w (a ++ [m]) = !(hv w a) := by
  have := hrun_Tm w a ha []
  unfold hv at this ⊢
  rw [hrun_append, this]
  simp [hrun, hstep, h]
theorem hv_bin {p : Int} (w : Nat) (a b : List S41) (m : S41) (ha : Tm p a) (hb : Tm p b) (h3 : 3 ≤ m.f0) : hv w (a ++ b ++ [m]) = (if m.f0 = 3 then hv w a && hv w b else if m.f0 = 4 then hv w a || hv w b else hv w a == hv w b) := by
  have h1 := hrun_Tm w a ha []
  have h2 := hrun_Tm w b hb (hv w a :: [])
  have e : hv w (a ++ b ++ [m]) = (hrun w [] (a ++ b ++ [m])).headD false := rfl
  rw [e, hrun_append, hrun_append, h1, h2]
  unfold hrun
  simp only [List.foldl_cons, List.foldl_nil]
  unfold hstep
  simp only [if_neg (show ¬ m.f0 = 0 by omega), if_neg (show ¬ m.f0 = 1 by omega), if_neg (show ¬ m.f0 = 2 by omega)]
  rfl

/-- The table of what holds, out of natural numbers. -/
def tbN (H : Nat → Bool) : Nat → Nat
  | 0 => 0
  | n + 1 => if H n = true then tbN H n ||| 2 ^ n else tbN H n
theorem tbN_succ (H : Nat → Bool) (n : Nat) : tbN H (n + 1) = if H n = true then tbN H n ||| 2 ^ n else tbN H n := rfl
theorem tbN_bit (H : Nat → Bool) (n i : Nat) : (tbN H n).testBit i = (decide (i < n) && H i) := by
  induction n with
  | zero => simp [tbN]
  | succ n ih =>
    unfold tbN
    by_cases h : H n = true
    · rw [if_pos h, Nat.testBit_or, ih, Nat.testBit_two_pow]
      by_cases e : n = i
      · subst e; simp [h]
      · have : decide (i < n + 1) = decide (i < n) := by rw [decide_eq_decide]; omega
        rw [this]; simp [e]
    · rw [if_neg h, ih]
      by_cases e : n = i
      · subst e; simp [h]
      · have : decide (i < n + 1) = decide (i < n) := by rw [decide_eq_decide]; omega
        rw [this]
theorem tbN_lt (H : Nat → Bool) (n : Nat) : tbN H n < 2 ^ n := by
  apply Nat.lt_pow_two_of_testBit
  intro i hi
  rw [tbN_bit]
  have : ¬ i < n := by omega
  simp [this]
theorem tbN_congr (H H' : Nat → Bool) (n : Nat) (h : ∀ i, i < n → H i = H' i) : tbN H n = tbN H' n := by
  apply Nat.eq_of_testBit_eq
  intro i
  rw [tbN_bit, tbN_bit]
  by_cases hi : i < n
  · rw [h i hi]
  · simp [hi]
theorem tb_loop (h : Int → Option Bool) (H : Nat → Bool) (n : Nat) (hn : n ≤ 16) (hh : ∀ i : Nat, i < n → h (i : Int) = some (H i)) (d : Nat) : ∀ i : Nat, i + d = n → ∀ k, d < k →
    tb.l0 h k (tbN H i : Int) (n : Int) ((i : Nat) : Int) = some (tbN H n : Int) := by
  induction d with
  | zero =>
    intro i hi k hk
    obtain ⟨k, rfl⟩ : ∃ m, k = m + 1 := ⟨k - 1, by omega⟩
    rw [tb.l0, if_neg (by omega), show i = n by omega]
  | succ d ih =>
    intro i hi k hk
    obtain ⟨k, rfl⟩ : ∃ m, k = m + 1 := ⟨k - 1, by omega⟩
    have := ih (i + 1) (by omega) k (by omega)
    rw [show ((i + 1 : Nat) : Int) = (i : Int) + 1 by omega] at this
    have hb := tbN_lt H i
    have hb2 : 2 ^ i ≤ 2 ^ 16 := Nat.pow_le_pow_right (by decide) (by omega)
    have e1 : shl .i64 1 ((i : Nat) : Int) = ((2 ^ i : Nat) : Int) := by have := shl_nat 1 i (by omega) (by omega); simpa using this
    rw [tb.l0, if_pos (by omega), if_pos (by omega), hh i (by omega), Option.bind_some, w64 (by omega) (by omega)]
    rw [tbN_succ] at this
    by_cases hH : H i = true
    · rw [if_pos hH, e1, or64 _ _ (by omega) (by omega)]
      rw [if_pos hH] at this
      exact this
    · rw [if_neg hH]
      rw [if_neg hH] at this
      exact this
theorem tb_eq (h : Int → Option Bool) (H : Nat → Bool) (p : Int) (hp : 1 ≤ p ∧ p ≤ 4) (hh : ∀ i : Nat, i < (pw p).toNat → h (i : Int) = some (H i)) : tb.f h p = some (tbN H (pw p).toNat : Int) := by
  unfold tb.f
  have hpw := pw_of hp.1 hp.2
  rw [if_pos (by omega), shl_pw hp.1 hp.2]
  have := tb_loop h H (pw p).toNat (by omega) hh (pw p).toNat 0 (by omega) 17 (by omega)
  rw [show (((pw p).toNat : Nat) : Int) = pw p by omega] at this
  exact this

/-- The table of a term. -/
def tabN (p : Int) (t : List S41) : Nat := tbN (fun w => hv w t) (pw p).toNat
def tabT (p : Int) (t : List S41) : Int := if TermB p t then (tabN p t : Int) else -1
theorem tabN_lt {p : Int} (hp : 1 ≤ p ∧ p ≤ 4) (t : List S41) : tabN p t < 65536 := by
  have h := tbN_lt (fun w => hv w t) (pw p).toNat
  have hb := pw_of hp.1 hp.2
  have h2 : 2 ^ (pw p).toNat ≤ 2 ^ 16 := Nat.pow_le_pow_right (by decide) (by omega)
  unfold tabN
  omega

theorem starts_loop {p : Int} : ∀ b : List S41, Tm p b → ∀ (c rest : List S41) (r : Nat) (k : Nat), (c ++ b ++ rest).length ≤ 1000 → r + b.length ≤ 2000 →
    spec_l2Starts.l0 (k + b.length) (c ++ b ++ rest) ((r : Int) + 1) ((c.length : Int) + b.length - 1) = spec_l2Starts.l0 k (c ++ b ++ rest) (r : Int) ((c.length : Int) - 1) := by
  apply Tm_ind
  · intro m hm c rest r k hl hr
    have hlen : (c ++ [m] ++ rest).length = c.length + 1 + rest.length := by simp; omega
    rw [List.length_singleton, show (c.length : Int) + ((1 : Nat) : Int) - 1 = ((c.length : Nat) : Int) by omega, spec_l2Starts.l0, if_pos (by omega), if_pos (by omega), if_pos (by omega)]
    have e : rd_T41 (c ++ [m] ++ rest) ((c.length : Nat) : Int) = m := rdm_mid c rest _ m (by simp) _ rfl
    rw [List.length_singleton] at hr
    rw [e, if_pos (by rcases hm with h | h <;> omega), w64 (by omega) (by omega), w64 (by omega) (by omega)]
    all_goals (congr 1 <;> omega)
  · intro a m ha e e0 ih c rest r k hl hr
    rw [List.length_append, List.length_singleton] at hr
    have hlen : (c ++ (a ++ [m]) ++ rest).length = c.length + a.length + 1 + rest.length := by simp; omega
    have hpos := Tm_ne ha
    have := ih c ([m] ++ rest) r k (by simp at hl ⊢; omega) (by omega)
    rw [show c ++ a ++ ([m] ++ rest) = c ++ (a ++ [m]) ++ rest by simp] at this
    rw [← this, List.length_append, List.length_singleton, show k + (a.length + 1) = (k + a.length) + 1 by omega, show (c.length : Int) + ((a.length + 1 : Nat) : Int) - 1 = ((c.length + a.length : Nat) : Int) by omega, spec_l2Starts.l0, if_pos (by omega), if_pos (by omega), if_pos (by omega)]
    have e' : rd_T41 (c ++ (a ++ [m]) ++ rest) ((c.length + a.length : Nat) : Int) = m := rdm_mid (c ++ a) rest _ m (by simp) _ (by rw [List.length_append])
    rw [e', if_neg (by omega), if_neg (by omega), w64 (by omega) (by omega)]
    all_goals (congr 1 <;> omega)
  · intro a b m ha hb e3 e5 e0 iha ihb c rest r k hl hr
    rw [List.length_append, List.length_append, List.length_singleton] at hr
    have hpa := Tm_ne ha
    have hpb := Tm_ne hb
    have hlen : (c ++ (a ++ b ++ [m]) ++ rest).length = c.length + a.length + b.length + 1 + rest.length := by simp; omega
    have h1 := ihb (c ++ a) ([m] ++ rest) (r + 1) (k + a.length) (by simp at hl ⊢; omega) (by omega)
    have h2 := iha c (b ++ [m] ++ rest) r k (by simp at hl ⊢; omega) (by omega)
    rw [show c ++ a ++ b ++ ([m] ++ rest) = c ++ (a ++ b ++ [m]) ++ rest by simp] at h1
    rw [show c ++ a ++ (b ++ [m] ++ rest) = c ++ (a ++ b ++ [m]) ++ rest by simp] at h2
    rw [← h2, List.length_append, List.length_append, List.length_singleton, show k + (a.length + b.length + 1) = (k + a.length + b.length) + 1 by omega, show (c.length : Int) + ((a.length + b.length + 1 : Nat) : Int) - 1 = ((c.length + a.length + b.length : Nat) : Int) by omega, spec_l2Starts.l0, if_pos (by omega), if_pos (by omega), if_pos (by omega)]
    have e' : rd_T41 (c ++ (a ++ b ++ [m]) ++ rest) ((c.length + a.length + b.length : Nat) : Int) = m := rdm_mid (c ++ a ++ b) rest _ m (by simp) _ (by rw [List.length_append, List.length_append])
    rw [e', if_neg (by omega), if_pos (by omega), w64 (by omega) (by omega), w64 (by omega) (by omega)]
    rw [List.length_append] at h1
    have e2 : ((c.length + a.length + b.length : Nat) : Int) - 1 = ((c.length + a.length : Nat) : Int) + b.length - 1 := by omega
    have e3' : (r : Int) + 1 + 1 = ((r + 1 : Nat) : Int) + 1 := by omega
    rw [e2, e3', h1]
    all_goals (congr 1 <;> omega)
theorem starts_eq {p : Int} (c b rest : List S41) (hb : Tm p b) (hl : (c ++ b ++ rest).length ≤ 1000) (k : Nat) (hk : b.length < k) : spec_l2Starts.f k (c ++ b ++ rest) ((c.length : Int) + b.length - 1) = some (c.length : Int) := by
  unfold spec_l2Starts.f
  obtain ⟨k, rfl⟩ : ∃ m, k = (m + 1) + b.length := ⟨k - b.length - 1, by omega⟩
  have := starts_loop b hb c rest 0 (k + 1) hl (by simp at hl; omega)
  rw [show ((0 : Nat) : Int) + 1 = 1 from rfl] at this
  simp only [List.length_append] at hl
  rw [this, spec_l2Starts.l0, if_neg (by omega), w64 (by omega) (by omega)]
  congr 1; omega

theorem heads_loop (k : Nat) : ∀ (w s : Int), 0 ≤ w → w < 2 ^ k → 0 ≤ s → s + k ≤ 100 → k ≤ 4 → ∀ m, k < m → spec_l1Heads.l0 m w s = some (s + ones w) := by
  induction k with
  | zero =>
    intro w s h0 h1 _ _ _ m hm
    obtain ⟨m, rfl⟩ : ∃ n, m = n + 1 := ⟨m - 1, by omega⟩
    have : w = 0 := by omega
    subst this
    rw [spec_l1Heads.l0, if_neg (by omega)]
    simp [ones]
  | succ k ih =>
    intro w s h0 h1 hs hs2 hk m hm
    obtain ⟨m, rfl⟩ : ∃ n, m = n + 1 := ⟨m - 1, by omega⟩
    have hw : w < 16 := Int.lt_of_lt_of_le h1 (by
      have : (2 : Int) ^ (k + 1) ≤ 2 ^ 4 := by exact_mod_cast Nat.pow_le_pow_right (by decide) (by omega)
      omega)
    rw [spec_l1Heads.l0]
    by_cases hw0 : w > 0
    · have e1 : Int.tdiv w 2 = w / 2 := Int.tdiv_eq_ediv_of_nonneg h0
      have e2 : Int.tmod w 2 = w % 2 := Int.tmod_eq_emod_of_nonneg h0
      rw [if_pos hw0, e1, e2, w64 (by omega) (by omega), w64 (by omega) (by omega), ih (w / 2) (s + w % 2) (by omega) (by rw [Int.pow_succ] at h1; omega) (by omega) (by omega) (by omega) m (by omega)]
      congr 1
      unfold ones
      omega
    · rw [if_neg hw0]
      have : w = 0 := by omega
      subst this
      simp [ones]
theorem heads_eq (w : Int) (h0 : 0 ≤ w) (h1 : w < 16) (k : Nat) (hk : 4 < k) : spec_l1Heads.f k w = some (ones w) := by
  unfold spec_l1Heads.f
  rw [heads_loop 4 w 0 h0 (by omega) (by omega) (by omega) (by omega) k hk, Int.zero_add]

theorem tbit (w n : Nat) (hn : n ≤ 16) : ((Int.tmod (shr .i64 (w : Int) (n : Int)) 2) == 1) = w.testBit n := by
  rw [shr_nat w n hn, Int.tmod_eq_emod_of_nonneg (Int.natCast_nonneg _), Nat.testBit_eq_decide_div_mod_eq, Bool.eq_iff_iff, beq_iff_eq, decide_eq_true_iff]
  constructor
  · intro h; exact_mod_cast h
  · intro h; exact_mod_cast h
theorem sholds {p : Int} (hp : p ≤ 4) (w : Nat) (hw : w < 16) : ∀ t : List S41, Tm p t → ∀ k, t.length ≤ 100 → t.length + 6 < k → spec_l3Holds.f k t (w : Int) = some (hv w t) := by
  apply Tm_ind
  · intro m hm k hl hk
    obtain ⟨k, rfl⟩ : ∃ q, k = q + 1 := ⟨k - 1, by omega⟩
    have e : rd_T41 [m] 0 = m := rdm_mid [] [] _ m rfl 0 rfl
    simp only [List.length_singleton] at hk
    have e1 : wrap64 ((([m] : List S41).length : Int) - 1) = 0 := by rw [List.length_singleton, w64 (by omega) (by omega)]; omega
    have e2 : (0 : Int) < (([m] : List S41).length : Int) := by rw [List.length_singleton]; decide
    rw [spec_l3Holds.f, e1, if_pos (Int.le_refl 0), if_pos e2, e]
    rcases hm with ⟨h0, h1, h2⟩ | ⟨h0, h1, h2⟩
    · obtain ⟨n, hn⟩ := Int.eq_ofNat_of_zero_le h1
      rw [if_pos h0, if_pos h1, hn, tbit w n (by omega), hv_tells (p := p) w m h0, hn, Int.toNat_natCast]
    · rw [if_neg (by omega), if_pos h0, heads_eq _ (by omega) (by omega) k (by omega), Option.bind_some, hv_count (p := p) w m h0]
  · intro a m ha e e0 ih k hl hk
    obtain ⟨k, rfl⟩ : ∃ q, k = q + 1 := ⟨k - 1, by omega⟩
    have hlen : (a ++ [m]).length = a.length + 1 := by simp
    have e' : rd_T41 (a ++ [m]) (a.length : Int) = m := rdm_mid a [] _ m rfl _ rfl
    rw [spec_l3Holds.f, hlen, w64 (by omega) (by omega), show ((a.length + 1 : Nat) : Int) - 1 = (a.length : Int) by omega, if_pos (by omega), if_pos (by omega), e', if_neg (by omega), if_neg (by omega), if_pos e, if_pos (by omega), Int.toNat_natCast, List.take_left', ih k (by omega) (by omega), Option.bind_some, hv_not w a m ha e]
    rfl
  · intro a b m ha hb e3 e5 e0 iha ihb k hl hk
    obtain ⟨k, rfl⟩ : ∃ q, k = q + 1 := ⟨k - 1, by omega⟩
    have hpa := Tm_ne ha
    have hpb := Tm_ne hb
    have hlen : (a ++ b ++ [m]).length = a.length + b.length + 1 := by simp; omega
    have e' : rd_T41 (a ++ b ++ [m]) ((a.length + b.length : Nat) : Int) = m := rdm_mid (a ++ b) [] _ m rfl _ (by rw [List.length_append])
    have hs := starts_eq a b [m] hb (by omega) k (by omega)
    have ht : (a ++ b ++ [m]).take a.length = a := by rw [List.append_assoc]; exact List.take_left' rfl
    have hd : ((a ++ b ++ [m]).take (a.length + b.length)).drop a.length = b := by
      rw [List.take_left' (by simp), List.drop_left' rfl]
    rw [spec_l3Holds.f, hlen, w64 (by omega) (by omega), show ((a.length + b.length + 1 : Nat) : Int) - 1 = ((a.length + b.length : Nat) : Int) by omega, if_pos (by omega), if_pos (by omega), e', if_neg (by omega), if_neg (by omega), if_neg (by omega), w64 (by omega) (by omega), show ((a.length + b.length : Nat) : Int) - 1 = (a.length : Int) + b.length - 1 by omega, hs, Option.bind_some, if_pos (by omega), if_pos (by omega), Int.toNat_natCast, ht, iha k (by omega) (by omega), Option.bind_some, if_pos (by omega), if_pos (by omega), Int.toNat_natCast, hd, ihb k (by omega) (by omega), Option.bind_some, hv_bin w a b m ha hb e3]
    by_cases h3 : m.f0 = 3
    · rw [if_pos h3, if_pos h3]
      cases hv w a <;> simp
    · rw [if_neg h3, if_neg h3]
      by_cases h4 : m.f0 = 4
      · rw [if_pos h4, if_pos h4]
        cases hv w a <;> simp
      · rw [if_neg h4, if_neg h4]

theorem stab_loop (p : Int) (hp : 1 ≤ p ∧ p ≤ 4) (t : List S41) (ht : Tm p t) (hl : t.length ≤ 15) (n : Nat) (hn : (n : Int) = pw p) (d : Nat) : ∀ i : Nat, i + d = n → ∀ k, d + 25 < k →
    spec_l3Table.l0 k p t (tbN (fun w => hv w t) i : Int) ((i : Nat) : Int) = some (tbN (fun w => hv w t) n : Int) := by
  have hb := pw_of hp.1 hp.2
  induction d with
  | zero =>
    intro i hi k hk
    obtain ⟨k, rfl⟩ : ∃ m, k = m + 1 := ⟨k - 1, by omega⟩
    rw [spec_l3Table.l0, if_pos (by omega), shl_pw hp.1 hp.2, if_neg (by omega), show i = n by omega]
  | succ d ih =>
    intro i hi k hk
    obtain ⟨k, rfl⟩ : ∃ m, k = m + 1 := ⟨k - 1, by omega⟩
    have := ih (i + 1) (by omega) k (by omega)
    rw [show ((i + 1 : Nat) : Int) = (i : Int) + 1 by omega, tbN_succ] at this
    have hlt := tbN_lt (fun w => hv w t) i
    have hb2 : 2 ^ i ≤ 2 ^ 16 := Nat.pow_le_pow_right (by decide) (by omega)
    have e1 : shl .i64 1 ((i : Nat) : Int) = ((2 ^ i : Nat) : Int) := by have := shl_nat 1 i (by omega) (by omega); simpa using this
    rw [spec_l3Table.l0, if_pos (by omega), shl_pw hp.1 hp.2, if_pos (by omega), sholds hp.2 i (by omega) t ht k (by omega) (by omega), Option.bind_some]
    by_cases hH : hv i t = true
    · rw [if_pos hH, if_pos (by omega), e1, or64 _ _ (by omega) (by omega), w64 (by omega) (by omega)]
      rw [if_pos hH] at this
      exact this
    · rw [if_neg hH, w64 (by omega) (by omega)]
      rw [if_neg hH] at this
      exact this
theorem stab (p : Int) (t : List S41) (h : TermB p t) (k : Nat) (hk : 50 < k) : spec_l3Table.f k p t = some (tabN p t : Int) := by
  have hb := pw_of h.1 h.2.1
  unfold spec_l3Table.f tabN
  have := stab_loop p ⟨h.1, h.2.1⟩ t h.2.2.2 h.2.2.1 (pw p).toNat (by omega) (pw p).toNat 0 (by omega) k (by omega)
  exact this

def ones' (w : Int) : Int := w % 2 + w / 2 % 2 + w / 4 % 2 + w / 8 % 2
theorem count_eq (w : Int) (h0 : 0 ≤ w) (h1 : w < 16) : bits_OnesCount.f (IntKind.u64.wrap w) = some (ones' w) := by
  obtain ⟨n, rfl⟩ := Int.eq_ofNat_of_zero_le h0
  have hn : n < 16 := by omega
  have key : ∀ m : Fin 16, bits_OnesCount.f (IntKind.u64.wrap ((m.val : Nat) : Int)) = some (ones' ((m.val : Nat) : Int)) := by decide +kernel
  exact key ⟨n, hn⟩

theorem ibit (w n : Nat) (hw : w < 65536) (hn : n ≤ 16) : ((Go.bits .and .i64 (shr .i64 (w : Int) (n : Int)) 1) == 1) = w.testBit n := by
  have hd : w / 2 ^ n ≤ w := Nat.div_le_self _ _
  have := and64 (w / 2 ^ n) 1 (by omega) (by omega)
  rw [Nat.and_one_is_mod] at this
  rw [shr_nat w n hn, show (1 : Int) = ((1 : Nat) : Int) from rfl, this, Nat.testBit_eq_decide_div_mod_eq, Bool.eq_iff_iff, beq_iff_eq, decide_eq_true_iff]
  omega
theorem rdo_last (r : List Bool) (b : Bool) (i : Int) (hi : i = (r.length : Int)) : rdOf false (r ++ [b]) i = b := by
  subst hi
  unfold rdOf
  rw [Int.toNat_natCast, List.getD_eq_getElem?_getD, List.getElem?_append_right (Nat.le_refl _)]
  simp
theorem rdo_at (r s : List Bool) (b : Bool) (i : Int) (hi : i = (r.length : Int)) : rdOf false (r ++ b :: s) i = b := by
  subst hi
  unfold rdOf
  rw [Int.toNat_natCast, List.getD_eq_getElem?_getD, List.getElem?_append_right (Nat.le_refl _)]
  simp
theorem set_last (r : List Bool) (b c : Bool) : (r ++ [b]).set r.length c = r ++ [c] := by
  rw [List.set_append_right _ _ (Nat.le_refl _)]
  simp
theorem iholds_loop {p : Int} (hp : p ≤ 4) (w : Nat) (hw : w < 16) (l : List S41) (hl : l.length ≤ 15) (d : Nat) : ∀ (i : Nat) (st : List Bool) (n : Int), i + d = l.length → n = (st.length : Int) → st.length ≤ i → (∃ n', tfold p n (l.drop i) = some n' ∧ 1 ≤ n') → ∀ k, d < k →
    impl_holds.l0 k (w : Int) st.reverse l (l.length : Int) ((i : Nat) : Int) = some ((hrun w st (l.drop i)).getLastD false) := by
  induction d with
  | zero =>
    intro i st n hi hn hst ht k hk
    obtain ⟨k, rfl⟩ : ∃ m, k = m + 1 := ⟨k - 1, by omega⟩
    obtain ⟨n', ht, h1⟩ := ht
    rw [List.drop_of_length_le (by omega)] at ht ⊢
    have := Option.some.inj (show some n = some n' from ht)
    have hne : st ≠ [] := by intro e; subst e; simp at hn; omega
    have hr : 0 < st.reverse.length := by rw [List.length_reverse]; omega
    rw [impl_holds.l0, if_neg (by omega), if_pos (by omega)]
    congr 1
    unfold rdOf hrun
    simp only [List.foldl_nil]
    rw [show (0 : Int).toNat = 0 from rfl, List.getD_eq_getElem?_getD]
    rw [← List.head?_eq_getElem?, List.head?_reverse, List.getLastD_eq_getLast?]
  | succ d ih =>
    intro i st n hi hn hst ht k hk
    obtain ⟨k, rfl⟩ : ∃ m, k = m + 1 := ⟨k - 1, by omega⟩
    obtain ⟨n', ht, h1⟩ := ht
    have hlt : i < l.length := by omega
    rw [List.drop_eq_getElem_cons hlt] at ht ⊢
    generalize hgm : l[i] = m at ht ⊢
    rw [tfold_cons] at ht
    obtain ⟨q, hq, ht2⟩ := Option.bind_eq_some_iff.1 ht
    have next : ∀ (st' : List Bool), hstep w st m = st' → q = (st'.length : Int) → st'.length ≤ i + 1 → impl_holds.l0 k (w : Int) st'.reverse l (l.length : Int) (wrap64 ((i : Int) + 1)) = some ((hrun w st (m :: l.drop (i + 1))).getLastD false) := by
      intro st' h1' h2' h3'
      have := ih (i + 1) st' q (by omega) h2' h3' ⟨n', ht2, h1⟩ k (by omega)
      rw [w64 (by omega) (by omega), show (i : Int) + 1 = ((i + 1 : Nat) : Int) by omega, this]
      unfold hrun
      rw [List.foldl_cons, h1']
    have hrd : rd_T41 l ((i : Nat) : Int) = m := by rw [rdm l i hlt]; exact hgm
    rw [impl_holds.l0, if_pos (by omega), if_pos (by omega), if_pos (by omega), hrd]
    rcases tstep_cases hq with ⟨hf, hq'⟩ | ⟨e, e0, hn1, hq'⟩ | ⟨e3, e5, e0, hn2, hq'⟩
    · rcases hf with ⟨h0, h2, h3⟩ | ⟨h0, h2, h3⟩
      · obtain ⟨a, ha⟩ := Int.eq_ofNat_of_zero_le h2
        rw [if_pos h0, if_pos h2, if_pos (by rw [List.length_reverse]; omega), ha, ibit w a (by omega) (by omega)]
        have := next (w.testBit a :: st) (by unfold hstep; rw [if_pos h0, ha, Int.toNat_natCast]) (by simp; omega) (by simp; omega)
        rw [List.reverse_cons] at this
        exact this
      · rw [if_neg (by omega), if_pos h0, count_eq _ (by omega) (by omega), Option.bind_some, if_pos (by rw [List.length_reverse]; omega)]
        have := next (decide (ones (w : Int) ≥ m.f1) :: st) (by unfold hstep; rw [if_neg (by omega), if_pos h0]) (by simp; omega) (by simp; omega)
        rw [List.reverse_cons] at this
        exact this
    · match st, hn, hst, next with
      | [], hn, _, _ => simp at hn; omega
      | b :: r, hn, hst, next =>
        have hrl : r.reverse.length = r.length := List.length_reverse
        have hlen : ((b :: r).reverse.length : Int) = r.length + 1 := by simp <;> omega
        simp only [List.length_cons] at hn hst
        rw [if_neg (by omega), if_neg (by omega), if_pos e, hlen, w64 (by omega) (by omega), show (r.length : Int) + 1 - 1 = (r.length : Int) by omega, if_pos (by omega), if_pos (by omega), List.reverse_cons, rdo_last _ _ _ (by omega), Int.toNat_natCast, ← hrl, set_last]
        have := next ((!b) :: r) (by unfold hstep; rw [if_neg (by omega), if_neg (by omega), if_pos e]) (by simp; omega) (by simp; omega)
        rw [List.reverse_cons] at this
        exact this
    · match st, hn, hst, next with
      | [], hn, _, _ => simp at hn; omega
      | [b], hn, _, _ => simp at hn; omega
      | b :: a :: r, hn, hst, next =>
        have hrl : r.reverse.length = r.length := List.length_reverse
        have hlen : ((b :: a :: r).reverse.length : Int) = r.length + 2 := by simp <;> omega
        simp only [List.length_cons] at hn hst
        have hR : (b :: a :: r).reverse = r.reverse ++ [a] ++ [b] := by simp
        have hb' : rdOf false (r.reverse ++ [a] ++ [b]) ((r.length : Int) + 1) = b := rdo_last _ _ _ (by simp)
        have ha' : rdOf false (r.reverse ++ [a] ++ [b]) (r.length : Int) = a := by rw [List.append_assoc]; exact rdo_at _ _ _ _ (by simp)
        have htk : (r.reverse ++ [a] ++ [b]).take (r.length + 1) = r.reverse ++ [a] := List.take_left' (by simp)
        have hset : ∀ c, (r.reverse ++ [a]).set r.length c = r.reverse ++ [c] := by intro c; rw [← hrl]; exact set_last _ _ _
        have hyl : ((r.reverse ++ [a]).length : Int) = r.length + 1 := by simp
        have e1 : wrap64 ((r.length : Int) + 2 - 1) = (r.length : Int) + 1 := by rw [w64 (by omega) (by omega)]; omega
        have e2 : wrap64 ((r.length : Int) + 1 - 1) = (r.length : Int) := by rw [w64 (by omega) (by omega)]; omega
        have e4 : ((r.length : Int) + 1).toNat = r.length + 1 := by omega
        rw [if_neg (by omega), if_neg (by omega), if_neg (by omega), hlen, e1, e2, if_pos (by omega), if_pos (by omega), if_pos (by omega), if_pos (by omega), if_pos (by omega), hR, e4, htk, Option.bind_some, ha', hb', Int.toNat_natCast, hyl, hset, hset, hset, hset]
        have nx : ∀ c, hstep w (b :: a :: r) m = c :: r → impl_holds.l0 k (w : Int) (r.reverse ++ [c]) l (l.length : Int) (wrap64 ((i : Int) + 1)) = some ((hrun w (b :: a :: r) (m :: l.drop (i + 1))).getLastD false) := by
          intro c hc
          have := next (c :: r) hc (by simp; omega) (by simp; omega)
          rw [List.reverse_cons] at this
          exact this
        have hs : hstep w (b :: a :: r) m = (if m.f0 = 3 then a && b else if m.f0 = 4 then a || b else a == b) :: r := by
          unfold hstep; rw [if_neg (by omega), if_neg (by omega), if_neg (by omega)]
        by_cases h3 : m.f0 = 3
        · rw [if_pos h3] at hs ⊢
          cases a with
          | true => rw [if_pos rfl, if_pos (by omega)]; exact nx b (by rw [hs]; simp)
          | false => rw [if_neg (by decide), if_pos (by omega)]; exact nx false (by rw [hs]; simp)
        · rw [if_neg h3] at hs ⊢
          by_cases h4 : m.f0 = 4
          · rw [if_pos h4] at hs ⊢
            cases a with
            | true => rw [if_pos rfl, if_pos (by omega)]; exact nx true (by rw [hs]; simp)
            | false => rw [if_neg (by decide), if_pos (by omega)]; exact nx b (by rw [hs]; simp)
          · rw [if_neg h4] at hs ⊢
            rw [if_pos (by omega)]
            exact nx (a == b) hs
theorem iholds {p : Int} (hp : p ≤ 4) (w : Nat) (hw : w < 16) (l : List S41) (hl : l.length ≤ 15) (ht : Tm p l) (k : Nat) (hk : 15 < k) : impl_holds.f k l (w : Int) = some (hv w l) := by
  unfold impl_holds.f
  have := iholds_loop hp w hw l hl l.length 0 [] 0 (by omega) (by simp) (by simp) ⟨1, ht, by omega⟩ k (by omega)
  rw [List.drop_zero, hrun_Tm w l ht] at this
  exact this

theorem people_eq (p : Int) : impl_peopleOk.f p = some (decide (1 ≤ p ∧ p ≤ 4)) := by
  unfold impl_peopleOk.f
  by_cases h : p ≥ 1
  · rw [if_pos h]; congr 1; rw [decide_eq_decide]; omega
  · rw [if_neg h]; congr 1; symm; rw [decide_eq_false_iff_not]; omega

theorem itermok_loop (p : Int) (hp : 1 ≤ p ∧ p ≤ 4) (l : List S41) (hn : l.length ≤ 15) (d : Nat) : ∀ (i : Nat) (n : Int), i + d = l.length → 0 ≤ n → n ≤ i → ∀ k, 2 * d < k →
    impl_TermOk.l0 k p n l (l.length : Int) ((i : Nat) : Int) = some (decide (tfold p n (l.drop i) = some 1)) := by
  induction d with
  | zero =>
    intro i n hi h0 h1 k hk
    obtain ⟨k, rfl⟩ : ∃ m, k = m + 1 := ⟨k - 1, by omega⟩
    rw [impl_TermOk.l0, if_neg (by omega), List.drop_of_length_le (by omega)]
    congr 1; rw [Bool.eq_iff_iff, beq_iff_eq, decide_eq_true_iff]; simp [tfold]
  | succ d ih =>
    intro i n hi h0 h1 k hk
    obtain ⟨k, rfl⟩ : ∃ m, k = m + 2 := ⟨k - 2, by omega⟩
    have hlt : i < l.length := by omega
    have next : ∀ (n' : Int) (k' : Nat), tstep p n l[i] = some n' → 0 ≤ n' → n' ≤ i + 1 → 2 * d < k' →
        impl_TermOk.l0 k' p n' l (l.length : Int) (wrap64 ((i : Int) + 1)) = some (decide (tfold p n (l.drop i) = some 1)) := by
      intro n' k' hs h0' h1' hk'
      have := ih (i + 1) n' (by omega) h0' (by omega) k' hk'
      rw [w64 (by omega) (by omega), show (i : Int) + 1 = ((i + 1 : Nat) : Int) by omega, this, List.drop_eq_getElem_cons hlt, tfold_some _ hs]
    have stop : tstep p n l[i] = none → some false = some (decide (tfold p n (l.drop i) = some 1)) := by
      intro hs
      rw [List.drop_eq_getElem_cons hlt, tfold_none _ hs]; simp
    generalize hgm : l[i] = m at *
    have hrd : rd_T41 l ((i : Nat) : Int) = m := by rw [rdm l i hlt]; exact hgm
    have g2 : ∀ b, (b = true ↔ (3 ≤ m.f0 ∧ m.f0 ≤ 5)) → m.f0 ≠ 0 → m.f0 ≠ 1 → m.f0 ≠ 2 → impl_TermOk.j2 (k + 1) p n l (l.length : Int) ((i : Nat) : Int) b m.f0 m.f1 = some (decide (tfold p n (l.drop i) = some 1)) := by
      intro b hb n0 n1 n2
      rw [impl_TermOk.j2]
      by_cases hbt : b = true
      · have h35 := hb.1 hbt
        rw [if_pos hbt]
        by_cases ha : m.f1 = 0
        · rw [if_pos ha]
          by_cases h2 : n < 2
          · rw [if_pos h2]
            exact stop (by unfold tstep; rw [if_neg n0, if_neg n1, if_neg n2, if_pos h35, if_neg (by omega)])
          · rw [if_neg h2, w64 (x := n - 1) (by omega) (by omega)]
            exact next (n - 1) k (by unfold tstep; rw [if_neg n0, if_neg n1, if_neg n2, if_pos h35, if_pos (by omega)]) (by omega) (by omega) (by omega)
        · rw [if_neg ha]
          exact stop (by unfold tstep; rw [if_neg n0, if_neg n1, if_neg n2, if_pos h35, if_neg (by omega)])
      · have h35 : ¬ (3 ≤ m.f0 ∧ m.f0 ≤ 5) := fun h => hbt (hb.2 h)
        rw [if_neg hbt]
        exact stop (by unfold tstep; rw [if_neg n0, if_neg n1, if_neg n2, if_neg h35])
    rw [show k + 2 = (k + 1) + 1 from rfl, impl_TermOk.l0, if_pos (by omega), if_pos (by omega), if_pos (by omega), hrd]
    by_cases e0 : m.f0 = 0
    · rw [if_pos e0]
      by_cases e1 : m.f1 < 0
      · rw [if_pos e1]; exact stop (by unfold tstep; rw [if_pos e0, if_neg (by omega)])
      · rw [if_neg e1]
        by_cases e2 : m.f1 ≥ p
        · rw [if_pos e2]; exact stop (by unfold tstep; rw [if_pos e0, if_neg (by omega)])
        · rw [if_neg e2, w64 (x := n + 1) (by omega) (by omega)]
          exact next (n + 1) (k + 1) (by unfold tstep; rw [if_pos e0, if_pos (by omega)]) (by omega) (by omega) (by omega)
    · rw [if_neg e0]
      by_cases e1 : m.f0 = 1
      · rw [if_pos e1]
        by_cases e2 : m.f1 < 0
        · rw [if_pos e2]; exact stop (by unfold tstep; rw [if_neg e0, if_pos e1, if_neg (by omega)])
        · rw [if_neg e2, w64 (x := p + 1) (by omega) (by omega)]
          by_cases e3 : m.f1 > p + 1
          · rw [if_pos e3]; exact stop (by unfold tstep; rw [if_neg e0, if_pos e1, if_neg (by omega)])
          · rw [if_neg e3, w64 (x := n + 1) (by omega) (by omega)]
            exact next (n + 1) (k + 1) (by unfold tstep; rw [if_neg e0, if_pos e1, if_pos (by omega)]) (by omega) (by omega) (by omega)
      · rw [if_neg e1]
        by_cases e2 : m.f0 = 2
        · rw [if_pos e2]
          by_cases e3 : m.f1 = 0
          · rw [if_pos e3]
            by_cases e4 : n < 1
            · rw [if_pos e4]; exact stop (by unfold tstep; rw [if_neg e0, if_neg e1, if_pos e2, if_neg (by omega)])
            · rw [if_neg e4]
              exact next n (k + 1) (by unfold tstep; rw [if_neg e0, if_neg e1, if_pos e2, if_pos (by omega)]) (by omega) (by omega) (by omega)
          · rw [if_neg e3]; exact stop (by unfold tstep; rw [if_neg e0, if_neg e1, if_pos e2, if_neg (by omega)])
        · rw [if_neg e2]
          by_cases e3 : m.f0 = 3
          · rw [if_pos e3]; exact g2 _ (by rw [beq_iff_eq]; omega) e0 e1 e2
          · rw [if_neg e3]
            by_cases e4 : m.f0 = 4
            · rw [if_pos e4]; exact g2 _ (by rw [beq_iff_eq]; omega) e0 e1 e2
            · rw [if_neg e4]; exact g2 _ (by rw [beq_iff_eq]; omega) e0 e1 e2
theorem itermok (p : Int) (l : List S41) (k : Nat) (hk : 32 < k) : impl_TermOk.f k p l = some (decide (TermB p l)) := by
  unfold impl_TermOk.f
  obtain ⟨k, rfl⟩ : ∃ m, k = m + 1 := ⟨k - 1, by omega⟩
  rw [people_eq, Option.bind_some]
  by_cases hp : 1 ≤ p ∧ p ≤ 4
  · rw [if_pos (by simpa using hp)]
    by_cases h1 : (l.length : Int) < 1
    · rw [if_pos h1, impl_TermOk.j0, if_pos rfl]
      congr 1; symm; rw [decide_eq_false_iff_not]; intro h; have := TermB_pos h; omega
    · rw [if_neg h1, impl_TermOk.j0]
      by_cases h2 : (l.length : Int) > 15
      · rw [if_pos (by simpa using h2)]
        congr 1; symm; rw [decide_eq_false_iff_not]; intro h; have := h.2.2.1; omega
      · rw [if_neg (by simpa using h2)]
        have := itermok_loop p hp l (by omega) l.length 0 0 (by omega) (by omega) (by omega) k (by omega)
        rw [show ((0 : Nat) : Int) = 0 from rfl] at this
        rw [this, List.drop_zero]
        congr 1; rw [decide_eq_decide]; unfold TermB
        constructor
        · intro h; exact ⟨hp.1, hp.2, by omega, h⟩
        · intro h; exact h.2.2.2
  · rw [if_neg (by simpa using hp), impl_TermOk.j0, if_pos rfl]
    congr 1; symm; rw [decide_eq_false_iff_not]; intro h; exact hp ⟨h.1, h.2.1⟩

theorem itab (p : Int) (t : List S41) (k : Nat) (hk : 32 < k) : impl_TableOf.f k p t = some (tabT p t) := by
  unfold impl_TableOf.f tabT
  rw [itermok p t k hk, Option.bind_some]
  by_cases h : TermB p t
  · have hb := pw_of h.1 h.2.1
    rw [if_pos (by simpa using h), if_pos h]
    exact tb_eq _ _ p ⟨h.1, h.2.1⟩ (fun i hi => iholds h.2.1 i (by omega) t h.2.2.1 h.2.2.2 k (by omega))
  · rw [if_neg (by simpa using h), if_neg h]

def WOk (p w : Int) : Prop := 1 ≤ p ∧ p ≤ 4 ∧ 0 ≤ w ∧ w < pw p
instance (p w : Int) : Decidable (WOk p w) := by unfold WOk; infer_instance
theorem iworld (p w : Int) : impl_WorldOk.f p w = some (decide (WOk p w)) := by
  unfold impl_WorldOk.f
  rw [people_eq, Option.bind_some]
  by_cases h : 1 ≤ p ∧ p ≤ 4
  · rw [if_pos (by simpa using h)]
    by_cases h2 : w ≥ 0
    · rw [if_pos h2, if_pos (by omega), shl_pw h.1 h.2]; congr 1; rw [decide_eq_decide]; unfold WOk; omega
    · rw [if_neg h2]; congr 1; symm; rw [decide_eq_false_iff_not]; unfold WOk; omega
  · rw [if_neg (by simpa using h)]; congr 1; symm; rw [decide_eq_false_iff_not]; unfold WOk; omega

def HB (p : Int) (t : List S41) (w : Int) : Bool := if TermB p t then (if WOk p w then hv w.toNat t else false) else false
theorem ihin (p : Int) (t : List S41) (w : Int) (k : Nat) (hk : 32 < k) : impl_HoldsIn.f k p t w = some (HB p t w) := by
  unfold impl_HoldsIn.f HB
  rw [itermok p t k hk, Option.bind_some, iworld]
  by_cases hT : TermB p t
  · rw [if_pos (by simpa using hT), if_pos hT, Option.bind_some]
    by_cases hW : WOk p w
    · have hW' := hW
      unfold WOk at hW'
      have hb := pw_of hW'.1 hW'.2.1
      obtain ⟨w, rfl⟩ := Int.eq_ofNat_of_zero_le hW'.2.2.1
      rw [if_pos (by simpa using hW), if_pos hW, iholds hT.2.1 w (by omega) t hT.2.2.1 hT.2.2.2 k (by omega)]; rfl
    · rw [if_neg (by simpa using hW), if_neg hW]
  · rw [if_neg (by simpa using hT), if_neg hT]

/-- Does person i matter in world w. -/
def dif (t : List S41) (i w : Nat) : Bool := hv w t != hv (w ^^^ 2 ^ i) t
def anyD (f : Nat → Bool) (w : Nat) : Nat → Bool
  | 0 => false
  | d + 1 => f w || anyD f (w + 1) d
theorem anyD_iff (f : Nat → Bool) : ∀ d w, anyD f w d = true ↔ ∃ x, w ≤ x ∧ x < w + d ∧ f x = true
  | 0, w => by
    rw [anyD]
    constructor
    · intro h; cases h
    · rintro ⟨x, h1, h2, _⟩; omega
  | d + 1, w => by
    rw [anyD, Bool.or_eq_true, anyD_iff f d (w + 1)]
    constructor
    · rintro (h | ⟨x, h1, h2, h3⟩)
      · exact ⟨w, by omega, by omega, h⟩
      · exact ⟨x, by omega, by omega, h3⟩
    · rintro ⟨x, h1, h2, h3⟩
      by_cases e : x = w
      · subst e; exact .inl h3
      · exact .inr ⟨x, by omega, by omega, h3⟩
/-- The people who matter. -/
def matN (p : Int) (t : List S41) : Nat → Nat
  | 0 => 0
  | i + 1 => matN p t i ||| (if anyD (dif t i) 0 (pw p).toNat = true then 2 ^ i else 0)
def matT (p : Int) (t : List S41) : Int := if TermB p t then (matN p t p.toNat : Int) else -1
theorem bit_if (c : Bool) (i j : Nat) : (if c = true then 2 ^ i else 0).testBit j = (c && decide (i = j)) := by
  cases c
  · simp
  · rw [if_pos rfl, Nat.testBit_two_pow]; simp
theorem matN_bit (p : Int) (t : List S41) (n j : Nat) : (matN p t n).testBit j = (decide (j < n) && anyD (dif t j) 0 (pw p).toNat) := by
  induction n with
  | zero => simp [matN]
  | succ n ih =>
    rw [matN, Nat.testBit_or, ih, bit_if]
    by_cases e : n = j
    · subst e; simp
    · have : decide (j < n + 1) = decide (j < n) := by rw [decide_eq_decide]; omega
      rw [this]; simp [e]
theorem or_if_lt (s i : Nat) (c : Bool) (hs : s < 16) (hi : i < 4) : s ||| (if c = true then 2 ^ i else 0) < 16 := by
  have h2 : (if c = true then 2 ^ i else 0) < 2 ^ 4 := by
    split
    · exact Nat.pow_lt_pow_right (by decide) hi
    · decide
  have := Nat.or_lt_two_pow (n := 4) (x := s) (by omega) h2
  omega
theorem matN_lt (p : Int) (t : List S41) (n : Nat) (hn : n ≤ 4) : matN p t n < 16 := by
  induction n with
  | zero => exact Nat.zero_lt_succ 15
  | succ n ih => exact or_if_lt _ n _ (ih (by omega)) (by omega)
theorem flip_lt (w i n : Nat) (hw : w < 2 ^ n) (hi : i < n) : w ^^^ 2 ^ i < 2 ^ n := Nat.xor_lt_two_pow hw (Nat.pow_lt_pow_right (by decide) hi)
theorem shl2 (i : Nat) (hi : i < 4) : shl .i64 1 ((i : Nat) : Int) = ((2 ^ i : Nat) : Int) := by have := shl_nat 1 i (by omega) (by omega); simpa using this

def rowM (t : List S41) (w i : Nat) : Nat → Nat → Nat
  | 0, s => s
  | d + 1, s => rowM t w (i + 1) d (s ||| (if dif t i w = true then 2 ^ i else 0))
theorem rowM_bit (t : List S41) (w : Nat) (d : Nat) : ∀ i s j, (rowM t w i d s).testBit j = (s.testBit j || (decide (i ≤ j ∧ j < i + d) && dif t j w)) := by
  induction d with
  | zero =>
    intro i s j
    have : decide (i ≤ j ∧ j < i + 0) = false := by rw [decide_eq_false_iff_not]; omega
    rw [rowM, this]; simp
  | succ d ih =>
    intro i s j
    rw [rowM, ih, Nat.testBit_or, bit_if]
    by_cases e : i = j
    · subst e
      have h1 : decide (i + 1 ≤ i ∧ i < i + 1 + d) = false := by rw [decide_eq_false_iff_not]; omega
      have h2 : decide (i ≤ i ∧ i < i + (d + 1)) = true := by rw [decide_eq_true_iff]; omega
      rw [h1, h2]; simp
    · have h1 : decide (i + 1 ≤ j ∧ j < i + 1 + d) = decide (i ≤ j ∧ j < i + (d + 1)) := by rw [decide_eq_decide]; omega
      rw [h1]; simp [e]
theorem rowM_lt (t : List S41) (w : Nat) (d : Nat) : ∀ i s, i + d ≤ 4 → s < 16 → rowM t w i d s < 16 := by
  induction d with
  | zero => intro i s _ h; exact h
  | succ d ih => intro i s hi h; exact ih (i + 1) _ (by omega) (or_if_lt s i _ h (by omega))
def allM (p : Nat) (t : List S41) : Nat → Nat
  | 0 => 0
  | w + 1 => rowM t w 0 p (allM p t w)
theorem allM_lt (p : Nat) (hp : p ≤ 4) (t : List S41) (w : Nat) : allM p t w < 16 := by
  induction w with
  | zero => exact Nat.zero_lt_succ 15
  | succ w ih => exact rowM_lt t w p 0 _ (by omega) ih
theorem allM_bit (p : Nat) (t : List S41) (w j : Nat) : (allM p t w).testBit j = true ↔ j < p ∧ ∃ x, x < w ∧ dif t j x = true := by
  induction w with
  | zero =>
    constructor
    · intro h; simp [allM] at h
    · rintro ⟨_, x, hx, _⟩; omega
  | succ w ih =>
    rw [allM, rowM_bit, Bool.or_eq_true, ih, Bool.and_eq_true, decide_eq_true_iff]
    constructor
    · rintro (⟨h, x, hx, hd⟩ | ⟨h, hd⟩)
      · exact ⟨h, x, by omega, hd⟩
      · exact ⟨by omega, w, by omega, hd⟩
    · rintro ⟨h, x, hx, hd⟩
      by_cases e : x = w
      · subst e; exact .inr ⟨by omega, hd⟩
      · exact .inl ⟨h, x, by omega, hd⟩
theorem allM_eq (p : Int) (hp : 1 ≤ p ∧ p ≤ 4) (t : List S41) : allM p.toNat t (pw p).toNat = matN p t p.toNat := by
  apply Nat.eq_of_testBit_eq
  intro j
  rw [Bool.eq_iff_iff, allM_bit, matN_bit, Bool.and_eq_true, decide_eq_true_iff, anyD_iff]
  constructor
  · rintro ⟨h, x, h1, h2⟩; exact ⟨h, x, by omega, by omega, h2⟩
  · rintro ⟨h, x, _, h1, h2⟩; exact ⟨h, x, by omega, h2⟩
theorem imat_l1 (p : Int) (hp : 1 ≤ p ∧ p ≤ 4) (t : List S41) (ht : Tm p t) (hl : t.length ≤ 15) (w : Nat) (hw : (w : Int) < pw p) (d : Nat) : ∀ (i s k : Nat), (i : Int) + d = p → s < 16 → 25 ≤ k →
    impl_MatterIn.l1 (k + d + 1) p t (s : Int) (w : Int) (pw p) (w : Int) p (i : Int) = impl_MatterIn.l0 k p t (rowM t w i d s : Int) (pw p) ((w : Int) + 1) := by
  have hb := pw_of hp.1 hp.2
  induction d with
  | zero =>
    intro i s k hi hs hk
    rw [impl_MatterIn.l1, if_neg (by omega), w64 (by omega) (by omega)]; rfl
  | succ d ih =>
    intro i s k hi hs hk
    have hi4 : i < 4 := by omega
    have h2 : 2 ^ i < 2 ^ 4 := Nat.pow_lt_pow_right (by decide) hi4
    have hf := flip_lt w i 4 (by omega) hi4
    rw [show k + (d + 1) + 1 = (k + d + 1) + 1 by omega, impl_MatterIn.l1, if_pos (by omega), iholds hp.2 w (by omega) t hl ht _ (by omega), Option.bind_some, if_pos (by omega), shl2 i hi4, xor64 _ _ (by omega) (by omega), iholds hp.2 _ (by omega) t hl ht _ (by omega), Option.bind_some, or64 _ _ (by omega) (by omega), w64 (by omega) (by omega), show (i : Int) + 1 = ((i + 1 : Nat) : Int) by omega]
    have e : (hv w t != hv (w ^^^ 2 ^ i) t) = dif t i w := rfl
    rw [e, rowM]
    cases hD : dif t i w with
    | true =>
      have hs2 := or_if_lt s i true hs hi4
      rw [if_pos rfl] at hs2
      rw [if_pos rfl, if_pos rfl, ih (i + 1) (s ||| 2 ^ i) k (by omega) hs2 hk]
    | false =>
      rw [if_neg (by decide), if_neg (by decide), Nat.or_zero, ih (i + 1) s k (by omega) hs hk]
theorem imat_l0 (p : Int) (hp : 1 ≤ p ∧ p ≤ 4) (t : List S41) (ht : Tm p t) (hl : t.length ≤ 15) (e : Nat) : ∀ (w k : Nat), (w : Int) + e = pw p → 30 + e * 8 < k →
    impl_MatterIn.l0 k p t (allM p.toNat t w : Int) (pw p) (w : Int) = some (matN p t p.toNat : Int) := by
  have hb := pw_of hp.1 hp.2
  induction e with
  | zero =>
    intro w k hi hk
    obtain ⟨k, rfl⟩ : ∃ m, k = m + 1 := ⟨k - 1, by omega⟩
    rw [impl_MatterIn.l0, if_neg (by omega), ← allM_eq p hp t, show (pw p).toNat = w by omega]
  | succ e ih =>
    intro w k hi hk
    obtain ⟨k, rfl⟩ : ∃ m, k = (m + p.toNat + 1) + 1 := ⟨k - p.toNat - 2, by omega⟩
    rw [impl_MatterIn.l0, if_pos (by omega), show (0 : Int) = ((0 : Nat) : Int) from rfl, imat_l1 p hp t ht hl w (by omega) p.toNat 0 _ k (by omega) (allM_lt p.toNat (by omega) t w) (by omega)]
    exact ih (w + 1) k (by omega) (by omega)
theorem imat (p : Int) (t : List S41) (k : Nat) (hk : 200 < k) : impl_MatterIn.f k p t = some (matT p t) := by
  unfold impl_MatterIn.f matT
  rw [itermok p t k (by omega), Option.bind_some]
  by_cases h : TermB p t
  · have hb := pw_of h.1 h.2.1
    have := h.1
    rw [if_pos (by simpa using h), if_pos h, if_pos (by omega), shl_pw h.1 h.2.1]
    exact imat_l0 p ⟨h.1, h.2.1⟩ t h.2.2.2 h.2.2.1 (pw p).toNat 0 k (by omega) (by omega)
  · rw [if_neg (by simpa using h), if_neg h]

/-- The bytes that are drawn from. -/
def Bytes (l : List Int) : Prop := l.length ≤ 2000 ∧ ∀ x ∈ l, 0 ≤ x ∧ x ≤ 255
theorem open_ok (l : List Int) (h : ∀ x ∈ l, (Lit.int .u8 x).wf = true) : ∃ b, Bytes b ∧ spec_l20Open.f l = some (b, 0) := by
  unfold spec_l20Open.f
  by_cases hl : (l.length : Int) > 2000
  · refine ⟨l.take 2000, ⟨by simp; omega, fun x hx => wf8 (h x (List.mem_of_mem_take hx))⟩, ?_⟩
    rw [if_pos hl, if_pos (by omega)]
  · exact ⟨l, ⟨by omega, fun x hx => wf8 (h x hx)⟩, by rw [if_neg hl]⟩

theorem rd_byte {b : List Int} (h : Bytes b) (i : Int) : 0 ≤ rd b i ∧ rd b i ≤ 255 := by
  unfold rd
  rw [List.getD_eq_getElem?_getD]
  by_cases hi : i.toNat < b.length
  · rw [List.getElem?_eq_getElem hi, Option.getD_some]; exact h.2 _ (List.getElem_mem hi)
  · rw [List.getElem?_eq_none (by omega)]; decide
theorem pick_ok {b : List Int} (hb : Bytes b) (pos n : Int) (h0 : 0 ≤ pos) (h1 : pos ≤ 1000000000) :
    ∃ r, (0 ≤ r ∧ (1 ≤ n → r < n) ∧ (n < 1 → r = 0)) ∧ ∀ k, spec_l20Rd_pick.f (k + 1) b pos n = some (r, pos + 1) := by
  have hl := hb.1
  have e1 : wrap64 (pos + 1) = pos + 1 := w64 (by omega) (by omega)
  have e2 : wrap64 (pos + 1 - 1) = pos := by rw [w64 (by omega) (by omega)]; omega
  by_cases hn : n < 1
  · refine ⟨0, ⟨by omega, by omega, fun _ => rfl⟩, fun k => ?_⟩
    unfold spec_l20Rd_pick.f
    rw [if_pos hn, e1]; rw [spec_l20Rd_pick.j0]; rw [if_pos rfl]
  · by_cases hz : b.length = 0
    · refine ⟨0, ⟨by omega, by omega, fun _ => rfl⟩, fun k => ?_⟩
      unfold spec_l20Rd_pick.f
      rw [if_neg hn, e1]; rw [spec_l20Rd_pick.j0]; rw [if_pos (by simp; exact List.eq_nil_of_length_eq_zero hz)]
    · by_cases hp : pos < (b.length : Int)
      · have hr := rd_byte hb pos
        refine ⟨Int.tmod (rd b pos) n, ⟨Int.tmod_nonneg _ hr.1, fun _ => Int.tmod_lt_of_pos _ (by omega), by omega⟩, fun k => ?_⟩
        unfold spec_l20Rd_pick.f
        rw [if_neg hn, e1]; rw [spec_l20Rd_pick.j0]
        rw [if_neg (by simp; exact List.ne_nil_of_length_pos (by omega)), e2, if_pos hp, if_pos h0, if_neg (by omega), w64 (x := rd b pos) (by omega) (by omega)]
      · have hr1 := rd_byte hb (Int.tmod pos (b.length : Int))
        have em : wrap64 (wrap64 (pos * 7) + 3) = pos * 7 + 3 := by rw [w64 (x := pos * 7) (by omega) (by omega), w64 (by omega) (by omega)]
        have hr2 := rd_byte hb (Int.tmod (pos * 7 + 3) (b.length : Int))
        have hd : 0 ≤ Int.tdiv pos (b.length : Int) ∧ Int.tdiv pos (b.length : Int) ≤ pos := ⟨Int.tdiv_nonneg h0 (by omega), by rw [Int.tdiv_eq_ediv_of_nonneg h0]; exact Int.ediv_le_self _ h0⟩
        generalize hA : rd b (Int.tmod pos (b.length : Int)) = A at hr1
        generalize hB : rd b (Int.tmod (pos * 7 + 3) (b.length : Int)) = B at hr2
        generalize hD : Int.tdiv pos (b.length : Int) = D at hd
        obtain ⟨X, hX⟩ : ∃ X : Nat, A * 131 + B * 1117 + pos * 29 + D * 53 = (X : Int) := Int.eq_ofNat_of_zero_le (by omega)
        have hXb : (X : Int) < 4611686018427387904 := by omega
        refine ⟨Int.tmod ((X ^^^ (X / 64) : Nat) : Int) n, ⟨Int.tmod_nonneg _ (by omega), fun _ => Int.tmod_lt_of_pos _ (by omega), by omega⟩, fun k => ?_⟩
        unfold spec_l20Rd_pick.f
        rw [if_neg hn, e1]; rw [spec_l20Rd_pick.j0]
        rw [if_neg (by simp; exact List.ne_nil_of_length_pos (by omega)), e2, if_neg hp, if_neg (by omega), if_pos (Int.tmod_nonneg _ h0), if_pos (Int.tmod_lt_of_pos _ (by omega)), em, if_pos (Int.tmod_nonneg _ (by omega)), if_pos (Int.tmod_lt_of_pos _ (by omega)), if_neg (by omega), hA, hB, hD]
        have w1 : wrap64 (wrap64 A * 131) = A * 131 := by rw [w64 (x := A) (by omega) (by omega), w64 (by omega) (by omega)]
        have w2 : wrap64 (wrap64 B * 1117) = B * 1117 := by rw [w64 (x := B) (by omega) (by omega), w64 (by omega) (by omega)]
        have w3 : wrap64 (pos * 29) = pos * 29 := w64 (by omega) (by omega)
        have w4 : wrap64 (wrap64 D * 53) = D * 53 := by rw [w64 (x := D) (by omega) (by omega), w64 (by omega) (by omega)]
        have w5 : wrap64 (A * 131 + B * 1117) = A * 131 + B * 1117 := w64 (by omega) (by omega)
        have w6 : wrap64 (A * 131 + B * 1117 + pos * 29) = A * 131 + B * 1117 + pos * 29 := w64 (by omega) (by omega)
        have w7 : wrap64 (A * 131 + B * 1117 + pos * 29 + D * 53) = (X : Int) := by rw [w64 (by omega) (by omega)]; exact hX
        rw [w1, w2, w3, w4, w5, w6, w7]
        have w8 : wrap64 (Int.tdiv (X : Int) 64) = ((X / 64 : Nat) : Int) := by
          rw [Int.tdiv_eq_ediv_of_nonneg (by omega), w64 (by omega) (by omega)]; simp
        rw [w8, xor64 _ _ (by omega) (by omega)]

/-- A mark that is drawn; rows of them, none empty; how many there are. -/
def DMk (m : S41) : Prop := (0 ≤ m.f0 ∧ m.f0 ≤ 5) ∧ 0 ≤ m.f1 ∧ m.f1 ≤ 6
def RowsOk (x : List (List S41)) : Prop := ∀ r ∈ x, r ≠ [] ∧ ∀ m ∈ r, DMk m
def tot (x : List (List S41)) : Nat := (x.map List.length).sum
theorem tot_app (x y : List (List S41)) : tot (x ++ y) = tot x + tot y := by simp [tot]
theorem tot_cons (a : List S41) (y : List (List S41)) : tot (a :: y) = a.length + tot y := by simp [tot]
theorem tot_nil : tot [] = 0 := rfl
theorem cut1 (x : List (List S41)) (i : Nat) (h : i < x.length) : ∃ A a C, x = A ++ a :: C ∧ A.length = i :=
  ⟨x.take i, x[i], x.drop (i + 1), by rw [← List.drop_eq_getElem_cons h, List.take_append_drop], by simp; omega⟩
theorem cut2 (x : List (List S41)) (i : Nat) (h : i + 1 < x.length) : ∃ A a b C, x = A ++ a :: b :: C ∧ A.length = i :=
  ⟨x.take i, x[i], x[i + 1], x.drop (i + 1 + 1), by rw [← List.drop_eq_getElem_cons h, ← List.drop_eq_getElem_cons (by omega), List.take_append_drop], by simp; omega⟩
theorem take_at (A C : List (List S41)) (a a' : List S41) : (A ++ a :: a' :: C).take A.length = A := List.take_left
theorem drop_at (A C : List (List S41)) (a a' : List S41) : (A ++ a :: a' :: C).drop (A.length + 2) = C := by
  induction A with
  | nil => rfl
  | cons h t ih => exact ih
theorem len_at (A C : List (List S41)) (a a' : List S41) : (A ++ a :: a' :: C).length = A.length + 2 + C.length := by
  simp only [List.length_append, List.length_cons]; omega
theorem set_at (A C : List (List S41)) (a a' r : List S41) : (A ++ a :: a' :: C).set A.length r = A ++ r :: a' :: C := by
  induction A with
  | nil => rfl
  | cons h t ih => exact congrArg (h :: ·) ih
theorem rdL_at (A C : List (List S41)) (a : List S41) (i : Int) (hi : i = A.length) : rd_L3 (A ++ a :: C) i = a := by
  subst hi; simp [rd_L3, List.getD_eq_getElem?_getD]
theorem rdL_at2 (A C : List (List S41)) (a b : List S41) (i : Int) (hi : i = A.length + 1) : rd_L3 (A ++ a :: b :: C) i = b := by
  have e : A ++ a :: b :: C = (A ++ [a]) ++ b :: C := by simp
  rw [e]; exact rdL_at _ _ _ _ (by simp; omega)
theorem odd_ok {b : List Int} (hb : Bytes b) (pos n : Int) (h0 : 0 ≤ pos) (h1 : pos ≤ 1000000000) (hn : 0 ≤ n ∧ n ≤ 1000) :
    ∃ o e, (pos ≤ e ∧ e ≤ pos + 1) ∧ ∀ k, 0 < k → spec_l20Rd_odd.f k b pos n = some (o, e) := by
  by_cases h : n > 0
  · obtain ⟨r, hr, p⟩ := pick_ok hb pos n h0 h1
    refine ⟨r == wrap64 (n - 1), pos + 1, by omega, fun k hk => ?_⟩
    obtain ⟨k, rfl⟩ : ∃ m, k = m + 1 := ⟨k - 1, by omega⟩
    unfold spec_l20Rd_odd.f
    rw [if_pos h, p]; rfl
  · refine ⟨false, pos, by omega, fun k hk => ?_⟩
    unfold spec_l20Rd_odd.f
    rw [if_neg h]
theorem tj2_ok {b : List Int} (hb : Bytes b) (n : Int) (hn : 0 ≤ n ∧ n ≤ 1000) (x : List S41) (hx : x ≠ []) (hm : ∀ m ∈ x, DMk m) (hl : x.length ≤ 11) (pos : Int) (h0 : 0 ≤ pos) (h1 : pos ≤ 100000) :
    ∃ t e, ((t.length ≤ 12 ∧ ∀ m ∈ t, DMk m) ∧ pos ≤ e ∧ e ≤ pos + 3) ∧ ∀ k, 1 < k → spec_l20Term.j2 k n x b pos = some (t, e) := by
  obtain ⟨o, e, he, po⟩ := odd_ok hb pos n h0 (by omega) hn
  obtain ⟨r1, hr1, p1⟩ := pick_ok hb e 3 (by omega) (by omega)
  obtain ⟨r2, hr2, p2⟩ := pick_ok hb (e + 1) 2 (by omega) (by omega)
  have hx0 : 0 < x.length := List.length_pos_iff.2 hx
  have run : ∀ k, 1 < k → spec_l20Term.j2 k n x b pos = (if o = true then (if r1 = 0 then some ([], e + 1) else if r1 = 1 then some (x ++ [⟨5, 0⟩], e + 1) else some (x.set 0 ⟨r2, 6⟩, e + 1 + 1)) else some (x, e)) := by
    intro k hk
    obtain ⟨k, rfl⟩ : ∃ m, k = m + 2 := ⟨k - 2, by omega⟩
    rw [spec_l20Term.j2, po _ (by omega)]; simp only [Option.bind_some]
    by_cases ho : o = true
    · rw [if_pos ho, if_pos ho, p1]; simp only [Option.bind_some]
      by_cases c0 : r1 = 0
      · rw [if_pos c0, if_pos c0]
      · rw [if_neg c0, if_neg c0]
        by_cases c1 : r1 = 1
        · rw [if_pos c1, if_pos c1, if_pos (by omega)]
        · rw [if_neg c1, if_neg c1, p2]; simp only [Option.bind_some]
          rw [if_pos (by omega)]; rfl
    · rw [if_neg ho, if_neg ho]
  by_cases ho : o = true
  · by_cases c0 : r1 = 0
    · exact ⟨[], e + 1, ⟨⟨by simp, by simp⟩, by omega, by omega⟩, fun k hk => by rw [run k hk, if_pos ho, if_pos c0]⟩
    · by_cases c1 : r1 = 1
      · refine ⟨x ++ [⟨5, 0⟩], e + 1, ⟨⟨by simp; omega, fun m h => ?_⟩, by omega, by omega⟩, fun k hk => by rw [run k hk, if_pos ho, if_neg c0, if_pos c1]⟩
        rcases List.mem_append.1 h with h | h
        · exact hm m h
        · rw [List.mem_singleton.1 h]; exact ⟨by decide, by decide⟩
      · refine ⟨x.set 0 ⟨r2, 6⟩, e + 1 + 1, ⟨⟨by simp; omega, fun m h => ?_⟩, by omega, by omega⟩, fun k hk => by rw [run k hk, if_pos ho, if_neg c0, if_neg c1]⟩
        rcases List.mem_or_eq_of_mem_set h with h | h
        · exact hm m h
        · subst h; exact ⟨⟨hr2.1, by have := hr2.2.1 (by omega); show r2 ≤ 5; omega⟩, by show (0 : Int) ≤ 6 ∧ (6 : Int) ≤ 6; omega⟩
  · exact ⟨x, e, ⟨⟨by omega, hm⟩, by omega, by omega⟩, fun k hk => by rw [run k hk, if_neg ho]⟩
theorem pick_ok' {b : List Int} (hb : Bytes b) (pos n : Int) (h0 : 0 ≤ pos) (h1 : pos ≤ 1000000000) :
    ∃ r, (0 ≤ r ∧ (1 ≤ n → r < n) ∧ (n < 1 → r = 0)) ∧ ∀ k, 0 < k → spec_l20Rd_pick.f k b pos n = some (r, pos + 1) := by
  obtain ⟨r, hr, p⟩ := pick_ok hb pos n h0 h1
  refine ⟨r, hr, fun k hk => ?_⟩
  obtain ⟨k, rfl⟩ : ∃ m, k = m + 1 := ⟨k - 1, by omega⟩
  exact p k
theorem DMk0 {f : Int} (h0 : 0 ≤ f) (h1 : f ≤ 5) : DMk (⟨f, 0⟩ : S41) := ⟨⟨h0, h1⟩, Int.le_refl 0, by show (0 : Int) ≤ 6; omega⟩
theorem all_app {P : S41 → Prop} {x y : List S41} (hx : ∀ m ∈ x, P m) (hy : ∀ m ∈ y, P m) : ∀ m ∈ x ++ y, P m := fun m h => by
  rcases List.mem_append.1 h with h | h
  · exact hx m h
  · exact hy m h
theorem all_one {P : S41 → Prop} {a : S41} (h : P a) : ∀ m ∈ [a], P m := fun m hm => by rw [List.mem_singleton.1 hm]; exact h
theorem rows_app {x y : List (List S41)} (hx : RowsOk x) (hy : RowsOk y) : RowsOk (x ++ y) := fun r h => by
  rcases List.mem_append.1 h with h | h
  · exact hx r h
  · exact hy r h
theorem rows_cons {a : List S41} {y : List (List S41)} (h0 : a ≠ []) (ha : ∀ m ∈ a, DMk m) (hy : RowsOk y) : RowsOk (a :: y) := fun r h => by
  rcases List.mem_cons.1 h with h | h
  · rw [h]; exact ⟨h0, ha⟩
  · exact hy r h
theorem rows_nil : RowsOk [] := fun r h => by cases h
theorem snoc_ne (a : List S41) (m : S41) : a ++ [m] ≠ [] := by simp
theorem tl1_end {b : List Int} (hb : Bytes b) (n : Int) (hn : 0 ≤ n ∧ n ≤ 1000) (x : List (List S41)) (c pos : Int) (h1 : x.length = 1) (hr : RowsOk x) (ht : tot x ≤ 10) (h0 : 0 ≤ pos) (hp : pos ≤ 50000) :
    ∃ t e, ((t.length ≤ 12 ∧ ∀ m ∈ t, DMk m) ∧ pos ≤ e ∧ e ≤ pos + 4) ∧ ∀ k, 3 < k → spec_l20Term.l1 k n x c b pos = some (t, e) := by
  obtain ⟨A, a, C, hx, hA⟩ := cut1 x 0 (by omega)
  have hxa : rd_L3 x 0 = a := by rw [hx]; exact rdL_at _ _ _ _ (by omega)
  have ha := hr a (by rw [hx]; simp)
  have htt : tot x = tot A + (a.length + tot C) := by rw [hx, tot_app, tot_cons]
  obtain ⟨r, hr5, p5⟩ := pick_ok' hb pos 5 h0 (by omega)
  by_cases c0 : r = 0
  · obtain ⟨t, e, hte, hk⟩ := tj2_ok hb n hn (a ++ [⟨2, 0⟩]) (snoc_ne _ _) (all_app ha.2 (all_one (DMk0 (by omega) (by omega)))) (by rw [List.length_append]; show a.length + 1 ≤ 11; omega) (pos + 1) (by omega) (by omega)
    refine ⟨t, e, ⟨hte.1, by omega, by omega⟩, fun k hk' => ?_⟩
    obtain ⟨k, rfl⟩ : ∃ m, k = m + 1 := ⟨k - 1, by omega⟩
    rw [spec_l20Term.l1, if_neg (by omega), if_pos (by omega), p5 k (by omega), Option.bind_some, if_pos c0, hxa, if_pos (by omega)]
    exact hk k (by omega)
  · obtain ⟨t, e, hte, hk⟩ := tj2_ok hb n hn a ha.1 ha.2 (by omega) (pos + 1) (by omega) (by omega)
    refine ⟨t, e, ⟨hte.1, by omega, by omega⟩, fun k hk' => ?_⟩
    obtain ⟨k, rfl⟩ : ∃ m, k = m + 1 := ⟨k - 1, by omega⟩
    rw [spec_l20Term.l1, if_neg (by omega), if_pos (by omega), p5 k (by omega), Option.bind_some, if_neg c0, hxa]
    exact hk k (by omega)
theorem tl1_ok {b : List Int} (hb : Bytes b) (n : Int) (hn : 0 ≤ n ∧ n ≤ 1000) (d : Nat) : ∀ (x : List (List S41)) (c : Nat) (pos : Int), 1 ≤ x.length → x.length + c ≤ d + 1 → RowsOk x → tot x + x.length + c ≤ 11 → 0 ≤ pos → pos + 3 * d ≤ 50000 →
    ∃ t e, ((t.length ≤ 12 ∧ ∀ m ∈ t, DMk m) ∧ pos ≤ e ∧ e ≤ pos + 3 * d + 4) ∧ ∀ k, d + 3 < k → spec_l20Term.l1 k n x (c : Int) b pos = some (t, e) := by
  induction d with
  | zero =>
    intro x c pos h1 h2 hr ht h0 hp
    obtain ⟨t, e, hte, hk⟩ := tl1_end hb n hn x c pos (by omega) hr (by omega) h0 (by omega)
    exact ⟨t, e, ⟨hte.1, by omega, by omega⟩, fun k hk' => hk k (by omega)⟩
  | succ d ih =>
    intro x c pos h1 h2 hr ht h0 hp
    by_cases hx1 : x.length = 1
    · obtain ⟨t, e, hte, hk⟩ := tl1_end hb n hn x c pos (by omega) hr (by omega) h0 (by omega)
      exact ⟨t, e, ⟨hte.1, by omega, by omega⟩, fun k hk' => hk k (by omega)⟩
    · obtain ⟨i, hi, p1⟩ := pick_ok' hb pos ((x.length : Int) - 1) h0 (by omega)
      obtain ⟨i, rfl⟩ := Int.eq_ofNat_of_zero_le hi.1
      have hi1 : i + 1 < x.length := by have := hi.2.1 (by omega); omega
      clear hi
      obtain ⟨A, a, a', C, hx, hA⟩ := cut2 x i hi1
      have hd : rd_L3 x (i : Int) = a := by rw [hx]; exact rdL_at _ _ _ _ (by omega)
      have hd2 : rd_L3 x ((i : Int) + 1) = a' := by rw [hx]; exact rdL_at2 _ _ _ _ _ (by omega)
      have hin : (i : Int).toNat = A.length := by rw [hA]; exact Int.toNat_natCast i
      have hin2 : ((i : Int) + 2).toNat = A.length + 2 := by rw [hA]; exact Int.toNat_natCast (i + 2)
      have htake : x.take (i : Int).toNat = A := by rw [hin, hx]; exact take_at _ _ _ _
      have hdrop : x.drop ((i : Int) + 2).toNat = C := by rw [hin2, hx]; exact drop_at _ _ _ _
      have hxlen : x.length = A.length + 2 + C.length := by rw [hx]; exact len_at _ _ _ _
      have ha := hr a (by rw [hx]; exact List.mem_append_right _ List.mem_cons_self)
      have ha' := hr a' (by rw [hx]; exact List.mem_append_right _ (List.mem_cons_of_mem _ List.mem_cons_self))
      have hrA : RowsOk A := fun r h => hr r (by rw [hx]; exact List.mem_append_left _ h)
      have hrC : RowsOk C := fun r h => hr r (by rw [hx]; exact List.mem_append_right _ (List.mem_cons_of_mem _ (List.mem_cons_of_mem _ h)))
      have htot : tot x = tot A + (a.length + (a'.length + tot C)) := by rw [hx, tot_app, tot_cons, tot_cons]
      have hl1 : a.length ≤ 11 := by omega
      have hl2 : a'.length ≤ 11 := by omega
      have join : ∀ q : Int, pos ≤ q → q ≤ pos + 2 → ∃ v t e, (0 ≤ v ∧ v < 3) ∧ (∀ k, 0 < k → spec_l20Rd_pick.f k b q 3 = some (v, q + 1)) ∧ ((t.length ≤ 12 ∧ ∀ m ∈ t, DMk m) ∧ pos ≤ e ∧ e ≤ pos + 3 * (d + 1 : Nat) + 4) ∧ ∀ k, d + 3 < k → spec_l20Term.l1 k n (A ++ [a ++ a' ++ [(⟨3 + v, 0⟩ : S41)]] ++ C) (c : Int) b (q + 1) = some (t, e) := by
        intro q hq1 hq2
        obtain ⟨v, hv, p3⟩ := pick_ok' hb q 3 (by omega) (by omega)
        have hv3 := hv.2.1 (by omega)
        have hlen : (A ++ [a ++ a' ++ [(⟨3 + v, 0⟩ : S41)]] ++ C).length = A.length + 1 + C.length := by simp only [List.length_append, List.length_cons, List.length_nil]; try omega
        have htt : tot (A ++ [a ++ a' ++ [(⟨3 + v, 0⟩ : S41)]] ++ C) = tot A + (a.length + a'.length + 1) + tot C := by
          simp only [tot_app, tot_cons, tot_nil, List.length_append, List.length_cons, List.length_nil]; try omega
        obtain ⟨t, e, hte, hk⟩ := ih (A ++ [a ++ a' ++ [(⟨3 + v, 0⟩ : S41)]] ++ C) c (q + 1) (by omega) (by omega) (rows_app (rows_app hrA (rows_cons (snoc_ne _ _) (all_app (all_app ha.2 ha'.2) (all_one (DMk0 (by omega) (by omega)))) rows_nil)) hrC) (by omega) (by omega) (by omega)
        exact ⟨v, t, e, ⟨hv.1, hv3⟩, p3, ⟨hte.1, by omega, by omega⟩, hk⟩
      have fin : ∀ (k : Nat) (q v : Int), d + 3 < k → (0 ≤ v ∧ v < 3) → (∀ k, 0 < k → spec_l20Rd_pick.f k b q 3 = some (v, q + 1)) → ((some (([] : List (S41)) : List (S41))).bind fun y206 => (if 0 ≤ (i : Int) then (if (i : Int) < (x.length : Int) then (if y206.length + (rd_L3 x (i : Int)).length < 8796093022208 then ((some (y206 ++ (rd_L3 x (i : Int)) : List (S41))).bind fun y210 => (if 0 ≤ (wrap64 ((i : Int) + 1)) then (if (wrap64 ((i : Int) + 1)) < (x.length : Int) then (if y210.length + (rd_L3 x (wrap64 ((i : Int) + 1))).length < 8796093022208 then ((some (y210 ++ (rd_L3 x (wrap64 ((i : Int) + 1))) : List (S41))).bind fun y214 => ((spec_l20Rd_pick.f k b q 3).bind fun bt217 => (if y214.length < 8796093022208 then ((some (([] : List (List (S41))) : List (List (S41)))).bind fun y222 => (if (i : Int) ≤ (x.length : Int) then ((some (x.take ((i : Int) : Int).toNat : List (List (S41)))).bind fun y225 => (if y222.length + y225.length < 5864062014805 then ((some (y222 ++ y225 : List (List (S41)))).bind fun y229 => (if y229.length < 5864062014805 then ((some (y229 ++ [(y214 ++ [(⟨wrap64 (3 + bt217.1), 0⟩ : S41)])] : List (List (S41)))).bind fun y232 => (if 0 ≤ (wrap64 ((i : Int) + 2)) then (if (wrap64 ((i : Int) + 2)) ≤ (x.length : Int) then ((some (x.drop ((wrap64 ((i : Int) + 2)) : Int).toNat : List (List (S41)))).bind fun y235 => (if y232.length + y235.length < 5864062014805 then (spec_l20Term.l1 k n (y232 ++ y235) (c : Int) b bt217.2) else (none))) else (none)) else (none))) else (none))) else (none))) else (none))) else (none)))) else (none)) else (none)) else (none))) else (none)) else (none)) else (none))) = spec_l20Term.l1 k n (A ++ [a ++ a' ++ [(⟨3 + v, 0⟩ : S41)]] ++ C) (c : Int) b (q + 1) := by
        intro k q v hk hv p3
        simp only [Option.bind_some, w64 (x := (i : Int) + 1) (by omega) (by omega), w64 (x := (i : Int) + 2) (by omega) (by omega), hd, hd2, htake, hdrop, List.nil_append, List.length_nil, Nat.zero_add]
        have e1 : (a ++ a').length ≤ 22 := by rw [List.length_append]; omega
        have e2 : (A ++ [a ++ a' ++ [(⟨wrap64 (3 + v), 0⟩ : S41)]]).length = A.length + 1 := by simp only [List.length_append, List.length_cons, List.length_nil]
        rw [if_pos (by omega), if_pos (by omega), if_pos (by omega), if_pos (by omega), if_pos (by omega), if_pos (by omega), p3 k (by omega), Option.bind_some]
        rw [if_pos (by omega), if_pos (by omega), if_pos (by omega), if_pos (by omega), if_pos (by omega), if_pos (by omega), if_pos (by rw [e2]; omega), w64 (x := 3 + v) (by omega) (by omega)]
      by_cases hc : c = 0
      · obtain ⟨v, t, e, hv, p3, hte, hk⟩ := join (pos + 1) (by omega) (by omega)
        refine ⟨t, e, hte, fun k hk' => ?_⟩
        obtain ⟨k, rfl⟩ : ∃ m, k = m + 1 := ⟨k - 1, by omega⟩
        rw [spec_l20Term.l1, if_pos (by omega), w64 (x := (x.length : Int) - 1) (by omega) (by omega), p1 k (by omega), Option.bind_some, if_neg (by omega), ← hk k (by omega)]
        exact fin k (pos + 1) v (by omega) hv p3
      · obtain ⟨r2, hr2, p2⟩ := pick_ok' hb (pos + 1) 4 (by omega) (by omega)
        by_cases c0 : r2 = 0
        · obtain ⟨c, rfl⟩ : ∃ m, c = m + 1 := ⟨c - 1, by omega⟩
          have hlen : (A ++ (a ++ [(⟨2, 0⟩ : S41)]) :: a' :: C).length = A.length + 2 + C.length := by simp only [List.length_append, List.length_cons]; try omega
          have htt : tot (A ++ (a ++ [(⟨2, 0⟩ : S41)]) :: a' :: C) = tot A + (a.length + 1 + (a'.length + tot C)) := by simp only [tot_app, tot_cons, List.length_append, List.length_cons, List.length_nil]; try omega
          obtain ⟨t, e, hte, hk⟩ := ih (A ++ (a ++ [(⟨2, 0⟩ : S41)]) :: a' :: C) c (pos + 1 + 1) (by omega) (by omega) (rows_app hrA (rows_cons (snoc_ne _ _) (all_app ha.2 (all_one (DMk0 (by omega) (by omega)))) (rows_cons ha'.1 ha'.2 hrC))) (by omega) (by omega) (by omega)
          refine ⟨t, e, ⟨hte.1, by omega, by omega⟩, fun k hk' => ?_⟩
          obtain ⟨k, rfl⟩ : ∃ m, k = m + 1 := ⟨k - 1, by omega⟩
          have hset : x.set (i : Int).toNat (a ++ [(⟨2, 0⟩ : S41)]) = A ++ (a ++ [(⟨2, 0⟩ : S41)]) :: a' :: C := by
            rw [hin, hx]; exact set_at _ _ _ _ _
          rw [spec_l20Term.l1, if_pos (by omega), w64 (x := (x.length : Int) - 1) (by omega) (by omega), p1 k (by omega), Option.bind_some, if_pos (by omega), p2 k (by omega), Option.bind_some, if_pos c0]
          simp only [Option.bind_some, hd, List.nil_append, List.length_nil, Nat.zero_add]
          rw [if_pos (by omega), if_pos (by omega), if_pos (by omega), if_pos (by omega), hset, w64 (by omega) (by omega), show ((c + 1 : Nat) : Int) - 1 = (c : Int) by omega]
          exact hk k (by omega)
        · obtain ⟨v, t, e, hv, p3, hte, hk⟩ := join (pos + 1 + 1) (by omega) (by omega)
          refine ⟨t, e, hte, fun k hk' => ?_⟩
          obtain ⟨k, rfl⟩ : ∃ m, k = m + 1 := ⟨k - 1, by omega⟩
          rw [spec_l20Term.l1, if_pos (by omega), w64 (x := (x.length : Int) - 1) (by omega) (by omega), p1 k (by omega), Option.bind_some, if_pos (by omega), p2 k (by omega), Option.bind_some, if_neg c0, ← hk k (by omega)]
          exact fin k (pos + 1 + 1) v (by omega) hv p3
theorem tl0_ok {b : List Int} (hb : Bytes b) (p n : Int) (hp : 1 ≤ p ∧ p ≤ 4) (hn : 0 ≤ n ∧ n ≤ 1000) (d : Nat) : ∀ (x : List (List S41)) (pos : Int), 1 ≤ x.length + d → x.length + d ≤ 4 → RowsOk x → tot x = x.length → 0 ≤ pos → pos + 2 * d ≤ 10000 →
    ∃ t e, ((t.length ≤ 12 ∧ ∀ m ∈ t, DMk m) ∧ pos ≤ e ∧ e ≤ pos + 2 * d + 25) ∧ ∀ k, d + 11 < k → spec_l20Term.l0 k p n x (d : Int) b pos = some (t, e) := by
  induction d with
  | zero =>
    intro x pos h1 h2 hr ht h0 hp'
    obtain ⟨t, e, hte, hk⟩ := tl1_ok hb n hn 6 x 3 pos (by omega) (by omega) hr (by omega) h0 (by omega)
    refine ⟨t, e, ⟨hte.1, by omega, by omega⟩, fun k hk' => ?_⟩
    obtain ⟨k, rfl⟩ : ∃ m, k = m + 1 := ⟨k - 1, by omega⟩
    rw [spec_l20Term.l0, if_neg (by omega)]
    exact hk k (by omega)
  | succ d ih =>
    intro x pos h1 h2 hr ht h0 hp'
    obtain ⟨r1, hr1, p1⟩ := pick_ok' hb pos 4 h0 (by omega)
    have e1 : ((d + 1 : Nat) : Int) - 1 = (d : Int) := by omega
    by_cases c0 : r1 = 0
    · obtain ⟨r2, hr2, p2⟩ := pick_ok' hb (pos + 1) (p + 2) (by omega) (by omega)
      have := hr2.2.1 (by omega)
      obtain ⟨t, e, hte, hk⟩ := ih (x ++ [[(⟨1, r2⟩ : S41)]]) (pos + 1 + 1) (by simp; omega) (by simp; omega) (rows_app hr (rows_cons (by simp) (all_one ⟨by show 0 ≤ (1 : Int) ∧ (1 : Int) ≤ 5; omega, by show 0 ≤ r2 ∧ r2 ≤ 6; omega⟩) rows_nil)) (by rw [tot_app, ht]; simp [tot]) (by omega) (by omega)
      refine ⟨t, e, ⟨hte.1, by omega, by omega⟩, fun k hk' => ?_⟩
      obtain ⟨k, rfl⟩ : ∃ m, k = m + 1 := ⟨k - 1, by omega⟩
      rw [spec_l20Term.l0, if_pos (by omega), p1 k (by omega)]; simp only [Option.bind_some]
      rw [if_pos c0, w64 (x := p + 2) (by omega) (by omega), p2 k (by omega)]; simp only [Option.bind_some]
      rw [if_pos (by omega), w64 (by omega) (by omega), e1]
      exact hk k (by omega)
    · obtain ⟨r2, hr2, p2⟩ := pick_ok' hb (pos + 1) p (by omega) (by omega)
      have := hr2.2.1 (by omega)
      obtain ⟨t, e, hte, hk⟩ := ih (x ++ [[(⟨0, r2⟩ : S41)]]) (pos + 1 + 1) (by simp; omega) (by simp; omega) (rows_app hr (rows_cons (by simp) (all_one ⟨by show 0 ≤ (0 : Int) ∧ (0 : Int) ≤ 5; omega, by show 0 ≤ r2 ∧ r2 ≤ 6; omega⟩) rows_nil)) (by rw [tot_app, ht]; simp [tot]) (by omega) (by omega)
      refine ⟨t, e, ⟨hte.1, by omega, by omega⟩, fun k hk' => ?_⟩
      obtain ⟨k, rfl⟩ : ∃ m, k = m + 1 := ⟨k - 1, by omega⟩
      rw [spec_l20Term.l0, if_pos (by omega), p1 k (by omega)]; simp only [Option.bind_some]
      rw [if_neg c0, p2 k (by omega)]; simp only [Option.bind_some]
      rw [if_pos (by omega), w64 (by omega) (by omega), e1]
      exact hk k (by omega)
/-- The term that is drawn. -/
theorem l20Term_ok {b : List Int} (hb : Bytes b) (pos p n : Int) (h0 : 0 ≤ pos) (h1 : pos ≤ 5000) (hn : 0 ≤ n ∧ n ≤ 1000) :
    ∃ t e, ((t.length ≤ 12 ∧ ∀ m ∈ t, DMk m) ∧ pos ≤ e ∧ e ≤ pos + 40) ∧ ∀ k, 16 < k → spec_l20Term.f k b pos p n = some (t, e) := by
  obtain ⟨r, hr, p1⟩ := pick_ok' hb pos 4 h0 (by omega)
  have hr4 := hr.2.1 (by omega)
  have hm : 1 ≤ mn (mx p 1) 4 ∧ mn (mx p 1) 4 ≤ 4 := by unfold mn mx; (repeat' split) <;> omega
  obtain ⟨d, hd⟩ : ∃ d : Nat, 1 + r = (d : Int) := Int.eq_ofNat_of_zero_le (by omega)
  obtain ⟨t, e, hte, hk⟩ := tl0_ok hb (mn (mx p 1) 4) n hm hn d [] (pos + 1) (by simp; omega) (by simp; omega) (fun r h => by cases h) rfl (by omega) (by omega)
  refine ⟨t, e, ⟨hte.1, by omega, by omega⟩, fun k hk' => ?_⟩
  unfold spec_l20Term.f
  rw [p1 k (by omega)]; simp only [Option.bind_some]
  rw [w64 (by omega) (by omega), hd]
  exact hk k (by omega)

theorem DMk_W {m : S41} (h : DMk m) : -9223372036854775808 ≤ m.f0 ∧ m.f0 ≤ 9223372036854775807 ∧ -9223372036854775808 ≤ m.f1 ∧ m.f1 ≤ 9223372036854775807 := by
  obtain ⟨h0, h1⟩ := h
  omega

theorem l20Termed_ok {b : List Int} (hb : Bytes b) (pos n : Int) (h0 : 0 ≤ pos) (h1 : pos ≤ 3000) (hn : 0 ≤ n ∧ n ≤ 500) :
    ∃ p t e, ((1 ≤ p ∧ p ≤ 8) ∧ (t.length ≤ 12 ∧ ∀ m ∈ t, DMk m) ∧ pos ≤ e ∧ e ≤ pos + 50) ∧ ∀ k, 16 < k → spec_l20Termed.f k b pos n = some (p, t, e) := by
  obtain ⟨r, hr, p1⟩ := pick_ok' hb pos 4 h0 (by omega)
  have hr4 := hr.2.1 (by omega)
  obtain ⟨r2, hr2, p2⟩ := pick_ok' hb (pos + 1) 60 (by omega) (by omega)
  have h2 := hr2.2.1 (by omega)
  obtain ⟨t, e, hte, hk⟩ := l20Term_ok hb (pos + 1 + 1) (1 + r) n (by omega) (by omega) (by omega)
  have d1 : Int.tdiv r2 59 = r2 / 59 := Int.tdiv_eq_ediv_of_nonneg hr2.1
  refine ⟨1 + r + r2 / 59 * 4, t, e, ⟨by omega, hte.1, by omega, by omega⟩, fun k hk' => ?_⟩
  unfold spec_l20Termed.f
  rw [p1 k (by omega), Option.bind_some, p2 k (by omega), Option.bind_some, w64 (x := 1 + r) (by omega) (by omega), hk k hk', Option.bind_some, d1, w64 (x := r2 / 59) (by omega) (by omega), w64 (x := r2 / 59 * 4) (by omega) (by omega), w64 (by omega) (by omega)]

theorem alive_eq : laws_alive.f = some true := by
  unfold laws_alive.f
  rw [iworld, Option.bind_some, if_pos (by decide), iworld, Option.bind_some]
  decide

/-! ### the law -/
theorem tabN_bit (p : Int) (t : List S41) (i : Nat) : (tabN p t).testBit i = (decide (i < (pw p).toNat) && hv i t) := by unfold tabN; rw [tbN_bit]
theorem tw_natA {p : Int} (h0 : 1 ≤ p) (h1 : p ≤ 4) : tw p = ((2 ^ (pw p).toNat : Nat) : Int) := by
  rcases p4 h0 h1 with rfl | rfl | rfl | rfl <;> decide
theorem always_iff {p : Int} (hp : 1 ≤ p ∧ p ≤ 4) (t : List S41) : (tabN p t : Int) = tw p - 1 ↔ ∀ i, i < (pw p).toNat → hv i t = true := by
  have e := tw_natA hp.1 hp.2
  have hpos : 0 < 2 ^ (pw p).toNat := Nat.two_pow_pos _
  have e2 : (tabN p t : Int) = tw p - 1 ↔ tabN p t = 2 ^ (pw p).toNat - 1 := by rw [e]; omega
  rw [e2]
  constructor
  · intro h i hi
    have := tabN_bit p t i
    rw [h, Nat.testBit_two_pow_sub_one, decide_eq_true hi] at this
    simpa using this.symm
  · intro h
    apply Nat.eq_of_testBit_eq
    intro i
    rw [tabN_bit, Nat.testBit_two_pow_sub_one]
    by_cases hi : i < (pw p).toNat
    · rw [decide_eq_true hi, h i hi]; rfl
    · rw [decide_eq_false hi]; rfl
theorem mat_zero {p : Int} (hp : 1 ≤ p ∧ p ≤ 4) (t : List S41) : matN p t p.toNat = 0 ↔ ∀ j w : Nat, j < p.toNat → w < (pw p).toNat → hv w t = hv (w ^^^ 2 ^ j) t := by
  constructor
  · intro h j w hj hw
    have hb := matN_bit p t p.toNat j
    rw [h, Nat.zero_testBit, decide_eq_true hj, Bool.true_and] at hb
    have hn : ¬ anyD (dif t j) 0 (pw p).toNat = true := by rw [← hb]; simp
    rw [anyD_iff] at hn
    by_cases c : hv w t = hv (w ^^^ 2 ^ j) t
    · exact c
    · exact absurd ⟨w, by omega, by omega, by unfold dif; simpa using c⟩ hn
  · intro h
    apply Nat.eq_of_testBit_eq
    intro j
    rw [matN_bit, Nat.zero_testBit]
    by_cases hj : j < p.toNat
    · rw [decide_eq_true hj, Bool.true_and, Bool.eq_false_iff]
      intro ha
      rw [anyD_iff] at ha
      obtain ⟨x, _, hx, hd⟩ := ha
      have := h j x hj (by omega)
      unfold dif at hd
      rw [this] at hd
      simp at hd
    · rw [decide_eq_false hj]; rfl
theorem mat_const {p : Int} (hp : 1 ≤ p ∧ p ≤ 4) (t : List S41) (h : matN p t p.toNat = 0) : ∀ w : Nat, w < (pw p).toNat → hv w t = hv 0 t := by
  have hz := (mat_zero hp t).1 h
  have key : ∀ (q : Fin 5) (v : Fin 16), 1 ≤ q.val → 0 < v.val → v.val < 2 ^ q.val → ∃ j : Fin 4, j.val < q.val ∧ v.val ^^^ 2 ^ j.val < v.val := by decide
  have e : (pw p).toNat = 2 ^ p.toNat := by rcases p4 hp.1 hp.2 with rfl | rfl | rfl | rfl <;> decide
  have hb := pw_of hp.1 hp.2
  intro w
  induction w using Nat.strongRecOn with
  | _ w ih =>
    intro hw
    by_cases h0 : w = 0
    · rw [h0]
    · obtain ⟨j, hj, hlt⟩ := key ⟨p.toNat, by omega⟩ ⟨w, by omega⟩ (by show 1 ≤ p.toNat; omega) (by show 0 < w; omega) (by show w < 2 ^ p.toNat; omega)
      rw [hz j.val w hj hw]
      exact ih _ hlt (Nat.lt_trans hlt hw)
def AB (p : Int) (t : List S41) : Bool := if TermB p t then decide ((tabN p t : Int) = tw p - 1) else false
theorem ialways (p : Int) (t : List S41) (k : Nat) (hk : 32 < k) : impl_AlwaysOk.f k p t = some (AB p t) := by
  unfold impl_AlwaysOk.f AB
  rw [itermok p t k hk, Option.bind_some]
  by_cases hT : TermB p t
  · have hb := tw_of hT.1 hT.2.1
    have e : tabT p t = (tabN p t : Int) := by unfold tabT; rw [if_pos hT]
    rw [if_pos (by simpa using hT), if_pos hT, itab p t k hk, Option.bind_some, if_pos (by have := hT.1; omega), shlu_pw hT.1 hT.2.1, shl_tw hT.1 hT.2.1, w64 (x := tw p - 1) (by omega) (by omega), e]; rfl
  · rw [if_neg (by simpa using hT), if_neg hT]
theorem salways (p : Int) (hp : -9223372036854775808 ≤ p ∧ p ≤ 9223372036854775807) (t : List S41) (hn : t.length ≤ 1048576) (hw : ∀ m ∈ t, MarkW m) (k : Nat) (hk : 4 * t.length + 60 < k) : spec_AlwaysOk.f k p t = some (AB p t) := by
  unfold spec_AlwaysOk.f AB
  rw [stermok p hp t hn hw k (by omega), Option.bind_some]
  by_cases hT : TermB p t
  · have hb := tw_of hT.1 hT.2.1
    have := hT.1
    rw [if_pos (by simpa using hT), if_pos hT, stab p t hT k (by omega)]
    simp only [Option.bind_some]
    rw [if_pos (by omega), shlu_pw hT.1 hT.2.1, shl_tw hT.1 hT.2.1, w64 (x := tw p - 1) (by omega) (by omega)]; rfl
  · rw [if_neg (by simpa using hT), if_neg hT]
theorem drawAlways_ok (l : List Int) (h : ∀ x ∈ l, (Lit.int .u8 x).wf = true) : ∃ p t, ((1 ≤ p ∧ p ≤ 8) ∧ t.length ≤ 13 ∧ ∀ m ∈ t, DMk m) ∧ ∀ k, 16 < k → spec_DrawAlwaysOk.f k l = some (p, t) := by
  obtain ⟨b, hb, ho⟩ := open_ok l h
  obtain ⟨p, t, e, hp, hk⟩ := l20Termed_ok hb 0 9 (by omega) (by omega) (by omega)
  obtain ⟨r, hr, p1⟩ := pick_ok' hb e 3 (by omega) (by omega)
  have run : ∀ k, 16 < k → spec_DrawAlwaysOk.f k l = some (p, if r = 0 then (if (t.length : Int) ≤ 6 then t ++ t ++ [⟨5, 0⟩] else t) else t) := by
    intro k hk'
    have h12 := hp.2.1.1
    unfold spec_DrawAlwaysOk.f
    rw [ho]; simp only [Option.bind_some]
    rw [hk k hk']; simp only [Option.bind_some]
    rw [p1 k (by omega)]; simp only [Option.bind_some]
    by_cases c : r = 0
    · rw [if_pos c, if_pos c]
      by_cases c2 : (t.length : Int) ≤ 6
      · have hl2 : (t ++ t).length ≤ 24 := by rw [List.length_append]; omega
        rw [if_pos c2, if_pos c2]
        simp only [List.nil_append, List.length_nil, Nat.zero_add]
        rw [if_pos (by omega), if_pos (by omega), if_pos (by omega)]
      · rw [if_neg c2, if_neg c2]
    · rw [if_neg c, if_neg c]
  refine ⟨p, _, ⟨hp.1, ?_, ?_⟩, run⟩
  · by_cases c : r = 0
    · rw [if_pos c]
      by_cases c2 : (t.length : Int) ≤ 6
      · rw [if_pos c2]; simp only [List.length_append, List.length_cons, List.length_nil]; omega
      · rw [if_neg c2]; have := hp.2.1.1; omega
    · rw [if_neg c]; have := hp.2.1.1; omega
  · by_cases c : r = 0
    · rw [if_pos c]
      by_cases c2 : (t.length : Int) ≤ 6
      · rw [if_pos c2]; exact all_app (all_app hp.2.1.2 hp.2.1.2) (all_one (DMk0 (by omega) (by omega)))
      · rw [if_neg c2]; exact hp.2.1.2
    · rw [if_neg c]; exact hp.2.1.2
theorem FnAlwaysOk : laws_FnAlwaysOk.Pure := by
  intro l _ _ h
  obtain ⟨p, t, hb, hk⟩ := drawAlways_ok l h
  refine ⟨300, ?_⟩
  unfold laws_FnAlwaysOk.f
  by_cases hl : (l.length : Int) > 1048576
  · rw [if_pos hl]
  · have hm : ∀ m ∈ t, MarkW m := fun m h => DMk_W (hb.2.2 m h)
    have h13 := hb.2.1
    rw [if_neg hl, hk 300 (by omega)]; simp only [Option.bind_some]
    rw [ialways p t 300 (by omega), Option.bind_some, salways p (by omega) t (by omega) hm 300 (by omega), Option.bind_some, if_neg (by simp), stermok p (by omega) t (by omega) hm 300 (by omega), Option.bind_some]
    by_cases hT : TermB p t
    · have hp : 1 ≤ p ∧ p ≤ 4 := ⟨hT.1, hT.2.1⟩
      have hpw := pw_of hp.1 hp.2
      have one : AB p [(⟨1, 0⟩ : S41)] = true := by
        unfold AB
        rw [if_pos ⟨hp.1, hp.2, by simp, Tm_leaf (.inr ⟨rfl, by show (0 : Int) ≤ 0; omega, by show (0 : Int) ≤ p + 1; omega⟩)⟩, decide_eq_true_eq, always_iff hp]
        intro i hi
        rw [hv_count (p := p) i _ rfl, decide_eq_true_eq]
        show ones (i : Int) ≥ 0
        unfold ones; omega
      have hab : AB p t = decide ((tabN p t : Int) = tw p - 1) := by unfold AB; rw [if_pos hT]
      rw [if_pos (by simpa using hT), imat p t 300 (by omega), Option.bind_some]
      have em : matT p t = (matN p t p.toNat : Int) := by unfold matT; rw [if_pos hT]
      rw [em]
      by_cases z : (matN p t p.toNat : Int) = 0
      · have z' : matN p t p.toNat = 0 := by omega
        have e0 : HB p t 0 = hv 0 t := by unfold HB; rw [if_pos hT, if_pos (by unfold WOk; omega)]; rfl
        have eq : AB p t = hv 0 t := by
          rw [hab]
          by_cases c : hv 0 t = true
          · rw [c, decide_eq_true_eq, always_iff hp]
            intro i hi
            rw [mat_const hp t z' i hi, c]
          · rw [Bool.not_eq_true] at c
            rw [c, decide_eq_false_iff_not, always_iff hp]
            intro hh
            rw [hh 0 (by omega)] at c; cases c
        rw [if_pos z, ihin p t 0 300 (by omega), Option.bind_some, e0, eq, if_pos (by simp), ialways p _ 300 (by omega), Option.bind_some, one]
      · have eq : AB p t = false := by
          rw [hab, decide_eq_false_iff_not, always_iff hp]
          intro hh
          refine z (by
            have := (mat_zero hp t).2 (fun j w hj hw => ?_)
            · omega
            · have hx : w ^^^ 2 ^ j < 2 ^ p.toNat := flip_lt w j p.toNat (by
                have e : (pw p).toNat = 2 ^ p.toNat := by rcases p4 hp.1 hp.2 with rfl | rfl | rfl | rfl <;> decide
                omega) hj
              have e : (pw p).toNat = 2 ^ p.toNat := by rcases p4 hp.1 hp.2 with rfl | rfl | rfl | rfl <;> decide
              rw [hh w hw, hh (w ^^^ 2 ^ j) (by omega)])
        rw [if_neg z, eq, if_pos (by simp), ialways p _ 300 (by omega), Option.bind_some, one]
    · have eq : AB p t = false := by unfold AB; rw [if_neg hT]
      rw [if_neg (by simpa using hT), eq, if_neg (by simp), alive_eq]; rfl

end Go.Proofs.Ytigkmppgbaoafaa.Pure
