/- Proved: FnOwnKind returns true for every code of bytes. No condition. -/
import Derived.Test.YtfhmafmfaoknlaaPFnOwnKindx6
import Derived.Laws.BitsLemmas
import Derived.Laws.BitsAllLaws
namespace Go.Proofs.Ytfhmafmfaoknlaa.Pure
open Go.RowKit Go.Proofs.Ytfhmafmfaoknlaa.PFnOwnKind Go.Proofs.YtfhmafmfaoknlaaW.PrintWords Go.Proofs.YtfhmafmfaoknlaaW.PrintLast Go.Proofs.YtfhmafmfaoknlaaW.PrintMore
set_option linter.unusedVariables false
set_option linter.unusedSimpArgs false

/-! ### base: whole numbers -/
theorem w64 {x : Int} (h0 : -9223372036854775808 ≤ x) (h1 : x ≤ 9223372036854775807) : wrap64 x = x := by
  unfold wrap64; omega
theorem wf64 {x : Int} (h : (Lit.int .i64 x).wf = true) : -9223372036854775808 ≤ x ∧ x ≤ 9223372036854775807 := by
  simp only [Lit.wf, IntKind.min, IntKind.max, IntKind.signed, IntKind.bits, Bool.and_eq_true, decide_eq_true_eq, if_true] at h
  omega
theorem wf8 {x : Int} (h : (Lit.int .u8 x).wf = true) : 0 ≤ x ∧ x ≤ 255 := by
  simp only [Lit.wf, IntKind.min, IntKind.max, IntKind.signed, IntKind.bits, Bool.and_eq_true, decide_eq_true_eq] at h
  simpa using h
theorem ofInt_i64 (a : Nat) (ha : a < 18446744073709551616) : (BitVec.ofInt 64 (a : Int)).toNat = a := by
  rw [BitVec.ofInt_natCast, BitVec.toNat_ofNat]; exact Nat.mod_eq_of_lt (by omega)
theorem wrapi (x : Nat) (h : x < 9223372036854775808) : IntKind.i64.wrap (x : Int) = x := by
  rw [IntKind.wrap_i64]; omega
theorem or64 (a b : Nat) (ha : a < 4611686018427387904) (hb : b < 4611686018427387904) : Go.bits .or .i64 (a : Int) (b : Int) = ((a ||| b : Nat) : Int) := by
  have hx : a ||| b < 2 ^ 62 := Nat.or_lt_two_pow (by omega) (by omega)
  show IntKind.i64.wrap ((BitVec.ofInt 64 (a : Int) ||| BitVec.ofInt 64 (b : Int)).toNat : Int) = _
  rw [BitVec.toNat_or, ofInt_i64 a (by omega), ofInt_i64 b (by omega), wrapi _ (by omega)]
theorem and64 (a b : Nat) (ha : a < 4611686018427387904) (hb : b < 4611686018427387904) : Go.bits .and .i64 (a : Int) (b : Int) = ((a &&& b : Nat) : Int) := by
  have hx : a &&& b < 2 ^ 62 := Nat.and_lt_two_pow _ (by omega)
  show IntKind.i64.wrap ((BitVec.ofInt 64 (a : Int) &&& BitVec.ofInt 64 (b : Int)).toNat : Int) = _
  rw [BitVec.toNat_and, ofInt_i64 a (by omega), ofInt_i64 b (by omega), wrapi _ (by omega)]
theorem xor64 (a b : Nat) (ha : a < 4611686018427387904) (hb : b < 4611686018427387904) : Go.bits .xor .i64 (a : Int) (b : Int) = ((a ^^^ b : Nat) : Int) := by
  have hx : a ^^^ b < 2 ^ 62 := Nat.xor_lt_two_pow (by omega) (by omega)
  show IntKind.i64.wrap ((BitVec.ofInt 64 (a : Int) ^^^ BitVec.ofInt 64 (b : Int)).toNat : Int) = _
  rw [BitVec.toNat_xor, ofInt_i64 a (by omega), ofInt_i64 b (by omega), wrapi _ (by omega)]
theorem andnot64 (a b : Nat) (ha : a < 4611686018427387904) (hb : b < 4611686018427387904) : Go.bits .andNot .i64 (a : Int) (b : Int) = ((a &&& (18446744073709551615 - b) : Nat) : Int) := by
  have hx : a &&& (18446744073709551615 - b) < 2 ^ 62 := Nat.lt_of_le_of_lt Nat.and_le_left (by omega)
  show IntKind.i64.wrap ((BitVec.ofInt 64 (a : Int) &&& ~~~BitVec.ofInt 64 (b : Int)).toNat : Int) = _
  rw [BitVec.toNat_and, BitVec.toNat_not, ofInt_i64 a (by omega), ofInt_i64 b (by omega)]
  have e : 2 ^ 64 - 1 - b = 18446744073709551615 - b := by omega
  rw [e, wrapi _ (by omega)]
/-- So many worlds; so many tables. -/
def pw (p : Int) : Int := 2 ^ p.toNat
def tw (p : Int) : Int := 2 ^ (2 ^ p.toNat)
theorem p4 {p : Int} (h0 : 1 ≤ p) (h1 : p ≤ 4) : p = 1 ∨ p = 2 ∨ p = 3 ∨ p = 4 := by omega
theorem pw_of {p : Int} (h0 : 1 ≤ p) (h1 : p ≤ 4) : 2 ≤ pw p ∧ pw p ≤ 16 := by
  rcases p4 h0 h1 with rfl | rfl | rfl | rfl <;> decide
theorem tw_of {p : Int} (h0 : 1 ≤ p) (h1 : p ≤ 4) : 4 ≤ tw p ∧ tw p ≤ 65536 := by
  rcases p4 h0 h1 with rfl | rfl | rfl | rfl <;> decide
theorem tw_pw {p : Int} (h0 : 1 ≤ p) (h1 : p ≤ 4) : tw p = 2 ^ (pw p).toNat := by
  rcases p4 h0 h1 with rfl | rfl | rfl | rfl <;> decide
theorem shl_pw {p : Int} (h0 : 1 ≤ p) (h1 : p ≤ 4) : shl .i64 1 p = pw p := by
  rcases p4 h0 h1 with rfl | rfl | rfl | rfl <;> decide
theorem shlu_pw {p : Int} (h0 : 1 ≤ p) (h1 : p ≤ 4) : shl .u64 1 p = pw p := by
  rcases p4 h0 h1 with rfl | rfl | rfl | rfl <;> decide
theorem shl_tw {p : Int} (h0 : 1 ≤ p) (h1 : p ≤ 4) : shl .i64 1 (pw p) = tw p := by
  rcases p4 h0 h1 with rfl | rfl | rfl | rfl <;> decide
/-- A shift of a small number by a small count. -/
theorem shl_nat (x n : Nat) (hn : n ≤ 16) (hx : x ≤ 65536) : shl .i64 (x : Int) (n : Int) = ((x * 2 ^ n : Nat) : Int) := by
  unfold shl
  have e : min ((n : Int).toNat) (IntKind.i64.bits) = n := by simp [IntKind.bits]; omega
  rw [e]
  have hp : 2 ^ n ≤ 2 ^ 16 := Nat.pow_le_pow_right (by decide) hn
  have hm : x * 2 ^ n ≤ 65536 * 2 ^ 16 := Nat.mul_le_mul hx hp
  have e2 : (x : Int) * 2 ^ n = ((x * 2 ^ n : Nat) : Int) := by simp
  rw [e2, wrapi _ (by omega)]
theorem shr_nat (x n : Nat) (hn : n ≤ 16) : shr .i64 (x : Int) (n : Int) = ((x / 2 ^ n : Nat) : Int) := by
  unfold shr
  have e : min ((n : Int).toNat) (IntKind.i64.bits) = n := by simp [IntKind.bits]; omega
  rw [e]
  simp

/-- The table of what holds, out of natural numbers. -/
def tbN (H : Nat → Bool) : Nat → Nat
  | 0 => 0
  | n + 1 => if H n = true then tbN H n ||| 2 ^ n else tbN H n
theorem tbN_succ (H : Nat → Bool) (n : Nat) : tbN H (n + 1) = if H n = true then tbN H n ||| 2 ^ n else tbN H n := rfl
theorem tbN_bit (H : Nat → Bool) (n i : Nat) : (tbN H n).testBit i = (decide (i < n) && H i) := by
  induction n with
  | zero => simp [tbN]
  | succ n ih =>
    unfold tbN
    by_cases h : H n = true
    · rw [if_pos h, Nat.testBit_or, ih, Nat.testBit_two_pow]
      by_cases e : n = i
      · subst e; simp [h]
      · have : decide (i < n + 1) = decide (i < n) := by rw [decide_eq_decide]; omega
        rw [this]; simp [e]
    · rw [if_neg h, ih]
      by_cases e : n = i
      · subst e; simp [h]
      · have : decide (i < n + 1) = decide (i < n) := by rw [decide_eq_decide]; omega
        rw [this]
theorem tbN_lt (H : Nat → Bool) (n : Nat) : tbN H n < 2 ^ n := by
  apply Nat.lt_pow_two_of_testBit
  intro i hi
  rw [tbN_bit]
  have : ¬ i < n := by omega
  simp [this]
theorem tbN_congr (H H' : Nat → Bool) (n : Nat) (h : ∀ i, i < n → H i = H' i) : tbN H n = tbN H' n := by
  apply Nat.eq_of_testBit_eq
  intro i
  rw [tbN_bit, tbN_bit]
  by_cases hi : i < n
  · rw [h i hi]
  · simp [hi]
theorem tb_loop (h : Int → Option Bool) (H : Nat → Bool) (n : Nat) (hn : n ≤ 16) (hh : ∀ i : Nat, i < n → h (i : Int) = some (H i)) (d : Nat) : ∀ i : Nat, i + d = n → ∀ k, d < k →
    tb.l0 h k (tbN H i : Int) (n : Int) ((i : Nat) : Int) = some (tbN H n : Int) := by
  induction d with
  | zero =>
    intro i hi k hk
    obtain ⟨k, rfl⟩ : ∃ m, k = m + 1 := ⟨k - 1, by omega⟩
    rw [tb.l0, if_neg (by omega), show i = n by omega]
  | succ d ih =>
    intro i hi k hk
    obtain ⟨k, rfl⟩ : ∃ m, k = m + 1 := ⟨k - 1, by omega⟩
    have := ih (i + 1) (by omega) k (by omega)
    rw [show ((i + 1 : Nat) : Int) = (i : Int) + 1 by omega] at this
    have hb := tbN_lt H i
    have hb2 : 2 ^ i ≤ 2 ^ 16 := Nat.pow_le_pow_right (by decide) (by omega)
    have e1 : shl .i64 1 ((i : Nat) : Int) = ((2 ^ i : Nat) : Int) := by have := shl_nat 1 i (by omega) (by omega); simpa using this
    rw [tb.l0, if_pos (by omega), if_pos (by omega), hh i (by omega), Option.bind_some, w64 (by omega) (by omega)]
    rw [tbN_succ] at this
    by_cases hH : H i = true
    · rw [if_pos hH, e1, or64 _ _ (by omega) (by omega)]
      rw [if_pos hH] at this
      exact this
    · rw [if_neg hH]
      rw [if_neg hH] at this
      exact this
theorem tb_eq (h : Int → Option Bool) (H : Nat → Bool) (p : Int) (hp : 1 ≤ p ∧ p ≤ 4) (hh : ∀ i : Nat, i < (pw p).toNat → h (i : Int) = some (H i)) : tb.f h p = some (tbN H (pw p).toNat : Int) := by
  unfold tb.f
  have hpw := pw_of hp.1 hp.2
  rw [if_pos (by omega), shl_pw hp.1 hp.2]
  have := tb_loop h H (pw p).toNat (by omega) hh (pw p).toNat 0 (by omega) 17 (by omega)
  rw [show (((pw p).toNat : Nat) : Int) = pw p by omega] at this
  exact this

/-- Terms: how the number of parts goes on at a mark. -/
def tstep (p n : Int) (m : S62) : Option Int :=
  if m.f0 = 0 then (if 0 ≤ m.f1 ∧ m.f1 < p then some (n + 1) else none)
  else if m.f0 = 1 then (if 0 ≤ m.f1 ∧ m.f1 ≤ p + 1 then some (n + 1) else none)
  else if m.f0 = 2 then (if m.f1 = 0 ∧ 1 ≤ n then some n else none)
  else if 3 ≤ m.f0 ∧ m.f0 ≤ 5 then (if m.f1 = 0 ∧ 2 ≤ n then some (n - 1) else none)
  else none
def tfold (p : Int) : Int → List S62 → Option Int
  | n, [] => some n
  | n, m :: t => (tstep p n m).bind fun n' => tfold p n' t
theorem tfold_cons (p n : Int) (m : S62) (t : List S62) : tfold p n (m :: t) = (tstep p n m).bind fun n' => tfold p n' t := rfl
theorem tfold_none {p n : Int} {m : S62} (t : List S62) (h : tstep p n m = none) : tfold p n (m :: t) = none := by rw [tfold_cons, h]; rfl
theorem tfold_some {p n n' : Int} {m : S62} (t : List S62) (h : tstep p n m = some n') : tfold p n (m :: t) = tfold p n' t := by rw [tfold_cons, h]; rfl
def TermB (p : Int) (t : List S62) : Prop := 1 ≤ p ∧ p ≤ 4 ∧ t.length ≤ 15 ∧ tfold p 0 t = some 1
instance (p : Int) (t : List S62) : Decidable (TermB p t) := by unfold TermB; infer_instance
theorem TermB_pos {p : Int} {t : List S62} (h : TermB p t) : 1 ≤ t.length := by
  cases t with
  | nil => have := h.2.2.2; simp [tfold] at this
  | cons => simp
/-- What is known of marks that came in. -/
def MarkW (m : S62) : Prop := -9223372036854775808 ≤ m.f0 ∧ m.f0 ≤ 9223372036854775807 ∧ -9223372036854775808 ≤ m.f1 ∧ m.f1 ≤ 9223372036854775807
theorem rdm (l : List S62) (i : Nat) (h : i < l.length) : rd_T62 l ((i : Nat) : Int) = l[i] := by
  unfold rd_T62
  rw [Int.toNat_natCast, List.getD_eq_getElem?_getD, List.getElem?_eq_getElem h]; rfl
theorem rdm_mid (x r l : List S62) (m : S62) (hl : l = x ++ m :: r) (n : Int) (hn : n = (x.length : Int)) : rd_T62 l n = m := by
  subst hl
  subst hn
  rw [rdm _ _ (by simp), List.getElem_append_right (Nat.le_refl _)]
  simp

def ClaimB (p w : Int) (t : List S62) : Prop := 0 ≤ w ∧ w < p ∧ TermB p t ∧ t.length ≤ 13
instance (p w : Int) (t : List S62) : Decidable (ClaimB p w t) := by unfold ClaimB; infer_instance

/-- A mark of a term. -/
def MOk (p : Int) (m : S62) : Prop := (m.f0 = 0 ∧ 0 ≤ m.f1 ∧ m.f1 < p) ∨ (m.f0 = 1 ∧ 0 ≤ m.f1 ∧ m.f1 ≤ p + 1) ∨ (2 ≤ m.f0 ∧ m.f0 ≤ 5 ∧ m.f1 = 0)
theorem tstep_ok {p n n' : Int} {m : S62} (h : tstep p n m = some n') : MOk p m := by
  unfold tstep at h
  unfold MOk
  by_cases e0 : m.f0 = 0
  · rw [if_pos e0] at h
    by_cases e : 0 ≤ m.f1 ∧ m.f1 < p
    · exact .inl ⟨e0, e.1, e.2⟩
    · rw [if_neg e] at h; cases h
  · rw [if_neg e0] at h
    by_cases e1 : m.f0 = 1
    · rw [if_pos e1] at h
      by_cases e : 0 ≤ m.f1 ∧ m.f1 ≤ p + 1
      · exact .inr (.inl ⟨e1, e.1, e.2⟩)
      · rw [if_neg e] at h; cases h
    · rw [if_neg e1] at h
      by_cases e2 : m.f0 = 2
      · rw [if_pos e2] at h
        by_cases e : m.f1 = 0 ∧ 1 ≤ n
        · exact .inr (.inr ⟨by omega, by omega, e.1⟩)
        · rw [if_neg e] at h; cases h
      · rw [if_neg e2] at h
        by_cases e3 : 3 ≤ m.f0 ∧ m.f0 ≤ 5
        · rw [if_pos e3] at h
          by_cases e : m.f1 = 0 ∧ 2 ≤ n
          · exact .inr (.inr ⟨by omega, by omega, e.1⟩)
          · rw [if_neg e] at h; cases h
        · rw [if_neg e3] at h; cases h
theorem tfold_ok {p : Int} : ∀ {t : List S62} {n n' : Int}, tfold p n t = some n' → ∀ m ∈ t, MOk p m
  | [], _, _, _ => by simp
  | a :: t, n, n', h => by
    rw [tfold_cons] at h
    obtain ⟨q, h1, h2⟩ := Option.bind_eq_some_iff.1 h
    intro m hm
    rcases List.mem_cons.1 hm with rfl | hm
    · exact tstep_ok h1
    · exact tfold_ok h2 m hm
theorem TermB_ok {p : Int} {t : List S62} (h : TermB p t) : ∀ m ∈ t, MOk p m := tfold_ok h.2.2.2

/-! ### terms, part by part -/
theorem tfold_append (p : Int) (a b : List S62) (n : Int) : tfold p n (a ++ b) = (tfold p n a).bind fun n' => tfold p n' b := by
  induction a generalizing n with
  | nil => rfl
  | cons m a ih =>
    rw [List.cons_append, tfold_cons, tfold_cons]
    cases tstep p n m with
    | none => rfl
    | some q => rw [Option.bind_some, Option.bind_some]; exact ih q
theorem tstep_shift {p n n' : Int} {m : S62} (j : Int) (hj : 0 ≤ j) (h : tstep p n m = some n') : tstep p (n + j) m = some (n' + j) := by
  unfold tstep at h ⊢
  by_cases e0 : m.f0 = 0
  · rw [if_pos e0] at h ⊢
    by_cases e : 0 ≤ m.f1 ∧ m.f1 < p
    · rw [if_pos e] at h ⊢
      have := Option.some.inj h
      congr 1; omega
    · rw [if_neg e] at h; cases h
  · rw [if_neg e0] at h ⊢
    by_cases e1 : m.f0 = 1
    · rw [if_pos e1] at h ⊢
      by_cases e : 0 ≤ m.f1 ∧ m.f1 ≤ p + 1
      · rw [if_pos e] at h ⊢
        have := Option.some.inj h
        congr 1; omega
      · rw [if_neg e] at h; cases h
    · rw [if_neg e1] at h ⊢
      by_cases e2 : m.f0 = 2
      · rw [if_pos e2] at h ⊢
        by_cases e : m.f1 = 0 ∧ 1 ≤ n
        · rw [if_pos e] at h
          have := Option.some.inj h
          rw [if_pos (by omega)]; congr 1; omega
        · rw [if_neg e] at h; cases h
      · rw [if_neg e2] at h ⊢
        by_cases e3 : 3 ≤ m.f0 ∧ m.f0 ≤ 5
        · rw [if_pos e3] at h ⊢
          by_cases e : m.f1 = 0 ∧ 2 ≤ n
          · rw [if_pos e] at h
            have := Option.some.inj h
            rw [if_pos (by omega)]; congr 1; omega
          · rw [if_neg e] at h; cases h
        · rw [if_neg e3] at h; cases h
theorem tfold_shift {p : Int} (j : Int) (hj : 0 ≤ j) : ∀ {t : List S62} {n n' : Int}, tfold p n t = some n' → tfold p (n + j) t = some (n' + j)
  | [], n, n', h => by
    have := Option.some.inj (show some n = some n' from h)
    show some (n + j) = some (n' + j)
    rw [this]
  | m :: t, n, n', h => by
    rw [tfold_cons] at h
    obtain ⟨q, h1, h2⟩ := Option.bind_eq_some_iff.1 h
    rw [tfold_cons, tstep_shift j hj h1, Option.bind_some]
    exact tfold_shift j hj h2
/-- One whole term. -/
def Tm (p : Int) (t : List S62) : Prop := tfold p 0 t = some 1
theorem Tm_on {p : Int} {t : List S62} (h : Tm p t) (n : Int) (hn : 0 ≤ n) : tfold p n t = some (n + 1) := by
  have := tfold_shift n hn h
  rwa [Int.zero_add, Int.add_comm 1 n] at this
theorem tstep_cases {p n n' : Int} {m : S62} (h : tstep p n m = some n') :
    (((m.f0 = 0 ∧ 0 ≤ m.f1 ∧ m.f1 < p) ∨ (m.f0 = 1 ∧ 0 ≤ m.f1 ∧ m.f1 ≤ p + 1)) ∧ n' = n + 1) ∨ (m.f0 = 2 ∧ m.f1 = 0 ∧ 1 ≤ n ∧ n' = n) ∨ (3 ≤ m.f0 ∧ m.f0 ≤ 5 ∧ m.f1 = 0 ∧ 2 ≤ n ∧ n' = n - 1) := by
  unfold tstep at h
  by_cases e0 : m.f0 = 0
  · rw [if_pos e0] at h
    by_cases e : 0 ≤ m.f1 ∧ m.f1 < p
    · rw [if_pos e] at h; exact .inl ⟨.inl ⟨e0, e⟩, (Option.some.inj h).symm⟩
    · rw [if_neg e] at h; cases h
  · rw [if_neg e0] at h
    by_cases e1 : m.f0 = 1
    · rw [if_pos e1] at h
      by_cases e : 0 ≤ m.f1 ∧ m.f1 ≤ p + 1
      · rw [if_pos e] at h; exact .inl ⟨.inr ⟨e1, e⟩, (Option.some.inj h).symm⟩
      · rw [if_neg e] at h; cases h
    · rw [if_neg e1] at h
      by_cases e2 : m.f0 = 2
      · rw [if_pos e2] at h
        by_cases e : m.f1 = 0 ∧ 1 ≤ n
        · rw [if_pos e] at h; exact .inr (.inl ⟨e2, e.1, e.2, (Option.some.inj h).symm⟩)
        · rw [if_neg e] at h; cases h
      · rw [if_neg e2] at h
        by_cases e3 : 3 ≤ m.f0 ∧ m.f0 ≤ 5
        · rw [if_pos e3] at h
          by_cases e : m.f1 = 0 ∧ 2 ≤ n
          · rw [if_pos e] at h; exact .inr (.inr ⟨e3.1, e3.2, e.1, e.2, (Option.some.inj h).symm⟩)
          · rw [if_neg e] at h; cases h
        · rw [if_neg e3] at h; cases h
def Leaf (p : Int) (m : S62) : Prop := (m.f0 = 0 ∧ 0 ≤ m.f1 ∧ m.f1 < p) ∨ (m.f0 = 1 ∧ 0 ≤ m.f1 ∧ m.f1 ≤ p + 1)
theorem leaf_step {p : Int} {m : S62} (h : Leaf p m) (n : Int) : tstep p n m = some (n + 1) := by
  unfold tstep
  rcases h with ⟨e, h⟩ | ⟨e, h⟩
  · rw [if_pos e, if_pos h]
  · rw [if_neg (by omega), if_pos e, if_pos h]
theorem not_step {p : Int} {m : S62} (h : m.f0 = 2) (h0 : m.f1 = 0) (n : Int) (hn : 1 ≤ n) : tstep p n m = some n := by
  unfold tstep
  rw [if_neg (by omega), if_neg (by omega), if_pos h, if_pos ⟨h0, hn⟩]
theorem bin_step {p : Int} {m : S62} (h : 3 ≤ m.f0) (h5 : m.f0 ≤ 5) (h0 : m.f1 = 0) (n : Int) (hn : 2 ≤ n) : tstep p n m = some (n - 1) := by
  unfold tstep
  rw [if_neg (by omega), if_neg (by omega), if_neg (by omega), if_pos ⟨h, h5⟩, if_pos ⟨h0, hn⟩]
theorem Tm_leaf {p : Int} {m : S62} (h : Leaf p m) : Tm p [m] := by
  unfold Tm
  rw [tfold_cons, leaf_step h 0]; rfl
theorem Tm_not {p : Int} {a : List S62} {m : S62} (ha : Tm p a) (h : m.f0 = 2) (h0 : m.f1 = 0) : Tm p (a ++ [m]) := by
  unfold Tm at ha ⊢
  rw [tfold_append, ha, Option.bind_some, tfold_cons, not_step h h0 1 (by omega)]; rfl
theorem Tm_bin {p : Int} {a b : List S62} {m : S62} (ha : Tm p a) (hb : Tm p b) (h : 3 ≤ m.f0) (h5 : m.f0 ≤ 5) (h0 : m.f1 = 0) : Tm p (a ++ b ++ [m]) := by
  have h2 := Tm_on hb 1 (by omega)
  unfold Tm at ha ⊢
  rw [tfold_append, tfold_append, ha, Option.bind_some, h2, Option.bind_some, tfold_cons, bin_step h h5 h0 (1 + 1) (by omega)]; rfl
theorem tfold_nonneg {p : Int} : ∀ {t : List S62} {n n' : Int}, 0 ≤ n → tfold p n t = some n' → 0 ≤ n' ∧ (1 ≤ n → 1 ≤ n')
  | [], n, n', h0, h => by
    have := Option.some.inj (show some n = some n' from h)
    omega
  | m :: t, n, n', h0, h => by
    rw [tfold_cons] at h
    obtain ⟨q, h1, h2⟩ := Option.bind_eq_some_iff.1 h
    have hq : 1 ≤ q := by rcases tstep_cases h1 with h | h | h <;> omega
    have := tfold_nonneg (by omega) h2
    exact ⟨this.1, fun _ => this.2 hq⟩
theorem tfold_zero {p : Int} {t : List S62} (h : tfold p 0 t = some 0) : t = [] := by
  cases t with
  | nil => rfl
  | cons m t =>
    rw [tfold_cons] at h
    obtain ⟨q, h1, h2⟩ := Option.bind_eq_some_iff.1 h
    have hq : 1 ≤ q := by rcases tstep_cases h1 with h | h | h <;> omega
    have := (tfold_nonneg (by omega) h2).2 hq
    omega
theorem tfold_last {p n' : Int} {a : List S62} {m : S62} (h : tfold p 0 (a ++ [m]) = some n') : ∃ n, tfold p 0 a = some n ∧ tstep p n m = some n' := by
  rw [tfold_append] at h
  obtain ⟨q, h1, h2⟩ := Option.bind_eq_some_iff.1 h
  refine ⟨q, h1, ?_⟩
  rw [tfold_cons] at h2
  obtain ⟨q2, h3, h4⟩ := Option.bind_eq_some_iff.1 h2
  rw [h3, Option.some.inj (show some q2 = some n' from h4)]
/-- The last term of some. -/
theorem tfold_split {p : Int} (L : Nat) : ∀ (a : List S62) (n : Int), a.length ≤ L → 0 ≤ n → tfold p 0 a = some (n + 1) → ∃ a1 a2, a = a1 ++ a2 ∧ tfold p 0 a1 = some n ∧ Tm p a2 ∧ 0 < a2.length := by
  induction L with
  | zero =>
    intro a n hl hn h
    have : a = [] := List.eq_nil_of_length_eq_zero (by omega)
    subst this
    have := Option.some.inj (show some (0 : Int) = some (n + 1) from h)
    omega
  | succ L ih =>
    intro a n hl hn h
    rcases List.eq_nil_or_concat a with rfl | ⟨b, m, rfl⟩
    · have := Option.some.inj (show some (0 : Int) = some (n + 1) from h)
      omega
    · rw [List.concat_eq_append] at h hl ⊢
      rw [List.length_append, List.length_singleton] at hl
      obtain ⟨q, h1, h2⟩ := tfold_last h
      rcases tstep_cases h2 with ⟨hf, hq⟩ | ⟨e, e0, hn1, hq⟩ | ⟨e3, e5, e0, hn2, hq⟩
      · exact ⟨b, [m], rfl, by rw [h1]; congr 1; omega, Tm_leaf hf, by simp⟩
      · obtain ⟨a1, a2, rfl, ha1, ha2, hp⟩ := ih b n (by omega) hn (by rw [h1]; congr 1; omega)
        exact ⟨a1, a2 ++ [m], by rw [List.append_assoc], ha1, Tm_not ha2 e e0, by simp⟩
      · obtain ⟨b1, b2, rfl, hb1, hb2, hp⟩ := ih b (n + 1) (by omega) (by omega) (by rw [h1]; congr 1; omega)
        rw [List.length_append] at hl
        obtain ⟨c1, c2, rfl, hc1, hc2, hp2⟩ := ih b1 n (by omega) hn hb1
        exact ⟨c1, c2 ++ b2 ++ [m], by simp only [List.append_assoc], hc1, Tm_bin hc2 hb2 e3 e5 e0, by rw [List.length_append, List.length_append, List.length_singleton]; omega⟩
/-- What a term may be. -/
theorem Tm_cases {p : Int} {t : List S62} (h : Tm p t) : (∃ m, t = [m] ∧ Leaf p m) ∨ (∃ a m, t = a ++ [m] ∧ Tm p a ∧ m.f0 = 2 ∧ m.f1 = 0) ∨ (∃ a b m, t = a ++ b ++ [m] ∧ Tm p a ∧ Tm p b ∧ 3 ≤ m.f0 ∧ m.f0 ≤ 5 ∧ m.f1 = 0) := by
  unfold Tm at h
  rcases List.eq_nil_or_concat t with rfl | ⟨b, m, rfl⟩
  · have := Option.some.inj (show some (0 : Int) = some 1 from h)
    omega
  · rw [List.concat_eq_append] at h ⊢
    obtain ⟨q, h1, h2⟩ := tfold_last h
    rcases tstep_cases h2 with ⟨hf, hq⟩ | ⟨e, e0, hn1, hq⟩ | ⟨e3, e5, e0, hn2, hq⟩
    · have : q = 0 := by omega
      subst this
      rw [tfold_zero h1]
      exact .inl ⟨m, rfl, hf⟩
    · have : q = 1 := by omega
      subst this
      exact .inr (.inl ⟨b, m, rfl, h1, e, e0⟩)
    · obtain ⟨a1, a2, rfl, ha1, ha2, _⟩ := tfold_split b.length b 1 (Nat.le_refl _) (by omega) (by rw [h1]; congr 1; omega)
      exact .inr (.inr ⟨a1, a2, m, rfl, ha1, ha2, e3, e5, e0⟩)
theorem Tm_ne {p : Int} {t : List S62} (h : Tm p t) : 0 < t.length := by
  rcases Tm_cases h with ⟨m, rfl, _⟩ | ⟨a, m, rfl, _⟩ | ⟨a, b, m, rfl, _⟩
  · simp
  · simp
  · rw [List.length_append, List.length_append, List.length_singleton]; omega
/-- Induction over terms. -/
theorem Tm_ind {p : Int} (P : List S62 → Prop) (hl : ∀ m, Leaf p m → P [m]) (hn : ∀ a m, Tm p a → m.f0 = 2 → m.f1 = 0 → P a → P (a ++ [m])) (hb : ∀ a b m, Tm p a → Tm p b → 3 ≤ m.f0 → m.f0 ≤ 5 → m.f1 = 0 → P a → P b → P (a ++ b ++ [m])) : ∀ t, Tm p t → P t := by
  have key : ∀ L (t : List S62), t.length ≤ L → Tm p t → P t := by
    intro L
    induction L with
    | zero => intro t h1 h2; have := Tm_ne h2; omega
    | succ L ih =>
      intro t h1 h2
      rcases Tm_cases h2 with ⟨m, rfl, hm⟩ | ⟨a, m, rfl, ha, e, e0⟩ | ⟨a, b, m, rfl, ha, hb', e3, e5, e0⟩
      · exact hl m hm
      · rw [List.length_append, List.length_singleton] at h1
        exact hn a m ha e e0 (ih a (by omega) ha)
      · rw [List.length_append, List.length_append, List.length_singleton] at h1
        have := Tm_ne ha
        have := Tm_ne hb'
        exact hb a b m ha hb' e3 e5 e0 (ih a (by omega) ha) (ih b (by omega) hb')
  exact fun t ht => key t.length t (Nat.le_refl _) ht

/-- How many of 0..15's four lowest bits are set. -/
def ones (w : Int) : Int := w % 2 + w / 2 % 2 + w / 4 % 2 + w / 8 % 2

/-- How a mark holds on a stack, top first. -/
def hstep (w : Nat) (st : List Bool) (m : S62) : List Bool :=
  if m.f0 = 0 then w.testBit m.f1.toNat :: st
  else if m.f0 = 1 then decide (ones (w : Int) ≥ m.f1) :: st
  else if m.f0 = 2 then (match st with | b :: r => (!b) :: r | [] => [])
  else match st with
    | b :: a :: r => (if m.f0 = 3 then a && b else if m.f0 = 4 then a || b else a == b) :: r
    | _ => []
def hrun (w : Nat) (st : List Bool) (t : List S62) : List Bool := t.foldl (hstep w) st
/-- Does a term hold. -/
def hv (w : Nat) (t : List S62) : Bool := (hrun w [] t).headD false
theorem hrun_append (w : Nat) (st : List Bool) (a b : List S62) : hrun w st (a ++ b) = hrun w (hrun w st a) b := List.foldl_append ..
theorem hrun_Tm {p : Int} (w : Nat) : ∀ t : List S62, Tm p t → ∀ st, hrun w st t = hv w t :: st := by
  apply Tm_ind
  · intro m hm st
    unfold hv hrun
    simp only [List.foldl_cons, List.foldl_nil]
    unfold hstep
    rcases hm with ⟨e, _⟩ | ⟨e, _⟩
    · simp [e]
    · simp [e]
  · intro a m ha e e0 ih st
    unfold hv
    rw [hrun_append, hrun_append, ih st, ih []]
    unfold hrun
    simp only [List.foldl_cons, List.foldl_nil]
    unfold hstep
    simp [e]
  · intro a b m ha hb e3 e5 e0 iha ihb st
    unfold hv
    rw [hrun_append, hrun_append, hrun_append, hrun_append, iha st, iha [], ihb, ihb]
    unfold hrun
    simp only [List.foldl_cons, List.foldl_nil]
    unfold hstep
    simp only [if_neg (show ¬ m.f0 = 0 by omega), if_neg (show ¬ m.f0 = 1 by omega), if_neg (show ¬ m.f0 = 2 by omega)]
    rfl
theorem hv_tells {p : Int} (w : Nat) (m : S62) (h : m.f0 = 0) : hv w [m] = w.testBit m.f1.toNat := by
  simp [hv, hrun, hstep, h]
theorem hv_count {p : Int} (w : Nat) (m : S62) (h : m.f0 = 1) : hv w [m] = decide (ones (w : Int) ≥ m.f1) := by
  simp [hv, hrun, hstep, h]
theorem hv_not {p : Int} (w : Nat) (a : List S62) (m : S62) (ha : Tm p a) (h : m.f0 = 2) : hv w (a ++ [m]) = !(hv w a) := by
  have := hrun_Tm w a ha []
  unfold hv at this ⊢
  rw [hrun_append, this]
  simp [hrun, hstep, h]
theorem hv_bin {p : Int} (w : Nat) (a b : List S62) (m : S62) (ha : Tm p a) (hb : Tm p b) (h3 : 3 ≤ m.f0) : hv w (a ++ b ++ [m]) = (if m.f0 = 3 then hv w a && hv w b else if m.f0 = 4 then hv w a || hv w b else hv w a == hv w b) := by
  have h1 := hrun_Tm w a ha []
  have h2 := hrun_Tm w b hb (hv w a :: [])
  have e : hv w (a ++ b ++ [m]) = (hrun w [] (a ++ b ++ [m])).headD false := rfl
  rw [e, hrun_append, hrun_append, h1, h2]
  unfold hrun
  simp only [List.foldl_cons, List.foldl_nil]
  unfold hstep
  simp only [if_neg (show ¬ m.f0 = 0 by omega), if_neg (show ¬ m.f0 = 1 by omega), if_neg (show ¬ m.f0 = 2 by omega)]
  rfl

/-- May a claim be made. -/
def may (w : Nat) (who : Nat) (t : List S62) : Bool := hv w t == w.testBit who

def ones' (w : Int) : Int := w % 2 + w / 2 % 2 + w / 4 % 2 + w / 8 % 2
theorem count_eq (w : Int) (h0 : 0 ≤ w) (h1 : w < 16) : bits_OnesCount.f (IntKind.u64.wrap w) = some (ones' w) := by
  obtain ⟨n, rfl⟩ := Int.eq_ofNat_of_zero_le h0
  have hn : n < 16 := by omega
  have key : ∀ m : Fin 16, bits_OnesCount.f (IntKind.u64.wrap ((m.val : Nat) : Int)) = some (ones' ((m.val : Nat) : Int)) := by decide +kernel
  exact key ⟨n, hn⟩

theorem ibit (w n : Nat) (hw : w < 65536) (hn : n ≤ 16) : ((Go.bits .and .i64 (shr .i64 (w : Int) (n : Int)) 1) == 1) = w.testBit n := by
  have hd : w / 2 ^ n ≤ w := Nat.div_le_self _ _
  have := and64 (w / 2 ^ n) 1 (by omega) (by omega)
  rw [Nat.and_one_is_mod] at this
  rw [shr_nat w n hn, show (1 : Int) = ((1 : Nat) : Int) from rfl, this, Nat.testBit_eq_decide_div_mod_eq, Bool.eq_iff_iff, beq_iff_eq, decide_eq_true_iff]
  omega
theorem rdo_last (r : List Bool) (b : Bool) (i : Int) (hi : i = (r.length : Int)) : rdOf false (r ++ [b]) i = b := by
  subst hi
  unfold rdOf
  rw [Int.toNat_natCast, List.getD_eq_getElem?_getD, List.getElem?_append_right (Nat.le_refl _)]
  simp
theorem rdo_at (r s : List Bool) (b : Bool) (i : Int) (hi : i = (r.length : Int)) : rdOf false (r ++ b :: s) i = b := by
  subst hi
  unfold rdOf
  rw [Int.toNat_natCast, List.getD_eq_getElem?_getD, List.getElem?_append_right (Nat.le_refl _)]
  simp
theorem set_last (r : List Bool) (b c : Bool) : (r ++ [b]).set r.length c = r ++ [c] := by
  rw [List.set_append_right _ _ (Nat.le_refl _)]
  simp
theorem iholds_loop {p : Int} (hp : p ≤ 4) (w : Nat) (hw : w < 16) (l : List S62) (hl : l.length ≤ 15) (d : Nat) : ∀ (i : Nat) (st : List Bool) (n : Int), i + d = l.length → n = (st.length : Int) → st.length ≤ i → (∃ n', tfold p n (l.drop i) = some n' ∧ 1 ≤ n') → ∀ k, d < k →
    impl_holds.l0 k (w : Int) st.reverse l (l.length : Int) ((i : Nat) : Int) = some ((hrun w st (l.drop i)).getLastD false) := by
  induction d with
  | zero =>
    intro i st n hi hn hst ht k hk
    obtain ⟨k, rfl⟩ : ∃ m, k = m + 1 := ⟨k - 1, by omega⟩
    obtain ⟨n', ht, h1⟩ := ht
    rw [List.drop_of_length_le (by omega)] at ht ⊢
    have := Option.some.inj (show some n = some n' from ht)
    have hne : st ≠ [] := by intro e; subst e; simp at hn; omega
    have hr : 0 < st.reverse.length := by rw [List.length_reverse]; omega
    rw [impl_holds.l0, if_neg (by omega), if_pos (by omega)]
    congr 1
    unfold rdOf hrun
    simp only [List.foldl_nil]
    rw [show (0 : Int).toNat = 0 from rfl, List.getD_eq_getElem?_getD]
    rw [← List.head?_eq_getElem?, List.head?_reverse, List.getLastD_eq_getLast?]
  | succ d ih =>
    intro i st n hi hn hst ht k hk
    obtain ⟨k, rfl⟩ : ∃ m, k = m + 1 := ⟨k - 1, by omega⟩
    obtain ⟨n', ht, h1⟩ := ht
    have hlt : i < l.length := by omega
    rw [List.drop_eq_getElem_cons hlt] at ht ⊢
    generalize hgm : l[i] = m at ht ⊢
    rw [tfold_cons] at ht
    obtain ⟨q, hq, ht2⟩ := Option.bind_eq_some_iff.1 ht
    have next : ∀ (st' : List Bool), hstep w st m = st' → q = (st'.length : Int) → st'.length ≤ i + 1 → impl_holds.l0 k (w : Int) st'.reverse l (l.length : Int) (wrap64 ((i : Int) + 1)) = some ((hrun w st (m :: l.drop (i + 1))).getLastD false) := by
      intro st' h1' h2' h3'
      have := ih (i + 1) st' q (by omega) h2' h3' ⟨n', ht2, h1⟩ k (by omega)
      rw [w64 (by omega) (by omega), show (i : Int) + 1 = ((i + 1 : Nat) : Int) by omega, this]
      unfold hrun
      rw [List.foldl_cons, h1']
    have hrd : rd_T62 l ((i : Nat) : Int) = m := by rw [rdm l i hlt]; exact hgm
    rw [impl_holds.l0, if_pos (by omega), if_pos (by omega), if_pos (by omega), hrd]
    rcases tstep_cases hq with ⟨hf, hq'⟩ | ⟨e, e0, hn1, hq'⟩ | ⟨e3, e5, e0, hn2, hq'⟩
    · rcases hf with ⟨h0, h2, h3⟩ | ⟨h0, h2, h3⟩
      · obtain ⟨a, ha⟩ := Int.eq_ofNat_of_zero_le h2
        rw [if_pos h0, if_pos h2, if_pos (by rw [List.length_reverse]; omega), ha, ibit w a (by omega) (by omega)]
        have := next (w.testBit a :: st) (by unfold hstep; rw [if_pos h0, ha, Int.toNat_natCast]) (by simp; omega) (by simp; omega)
        rw [List.reverse_cons] at this
        exact this
      · rw [if_neg (by omega), if_pos h0, count_eq _ (by omega) (by omega), Option.bind_some, if_pos (by rw [List.length_reverse]; omega)]
        have := next (decide (ones (w : Int) ≥ m.f1) :: st) (by unfold hstep; rw [if_neg (by omega), if_pos h0]) (by simp; omega) (by simp; omega)
        rw [List.reverse_cons] at this
        exact this
    · match st, hn, hst, next with
      | [], hn, _, _ => simp at hn; omega
      | b :: r, hn, hst, next =>
        have hrl : r.reverse.length = r.length := List.length_reverse
        have hlen : ((b :: r).reverse.length : Int) = r.length + 1 := by simp <;> omega
        simp only [List.length_cons] at hn hst
        rw [if_neg (by omega), if_neg (by omega), if_pos e, hlen, w64 (by omega) (by omega), show (r.length : Int) + 1 - 1 = (r.length : Int) by omega, if_pos (by omega), if_pos (by omega), List.reverse_cons, rdo_last _ _ _ (by omega), Int.toNat_natCast, ← hrl, set_last]
        have := next ((!b) :: r) (by unfold hstep; rw [if_neg (by omega), if_neg (by omega), if_pos e]) (by simp; omega) (by simp; omega)
        rw [List.reverse_cons] at this
        exact this
    · match st, hn, hst, next with
      | [], hn, _, _ => simp at hn; omega
      | [b], hn, _, _ => simp at hn; omega
      | b :: a :: r, hn, hst, next =>
        have hrl : r.reverse.length = r.length := List.length_reverse
        have hlen : ((b :: a :: r).reverse.length : Int) = r.length + 2 := by simp <;> omega
        simp only [List.length_cons] at hn hst
        have hR : (b :: a :: r).reverse = r.reverse ++ [a] ++ [b] := by simp
        have hb' : rdOf false (r.reverse ++ [a] ++ [b]) ((r.length : Int) + 1) = b := rdo_last _ _ _ (by simp)
        have ha' : rdOf false (r.reverse ++ [a] ++ [b]) (r.length : Int) = a := by rw [List.append_assoc]; exact rdo_at _ _ _ _ (by simp)
        have htk : (r.reverse ++ [a] ++ [b]).take (r.length + 1) = r.reverse ++ [a] := List.take_left' (by simp)
        have hset : ∀ c, (r.reverse ++ [a]).set r.length c = r.reverse ++ [c] := by intro c; rw [← hrl]; exact set_last _ _ _
        have hyl : ((r.reverse ++ [a]).length : Int) = r.length + 1 := by simp
        have e1 : wrap64 ((r.length : Int) + 2 - 1) = (r.length : Int) + 1 := by rw [w64 (by omega) (by omega)]; omega
        have e2 : wrap64 ((r.length : Int) + 1 - 1) = (r.length : Int) := by rw [w64 (by omega) (by omega)]; omega
        have e4 : ((r.length : Int) + 1).toNat = r.length + 1 := by omega
        rw [if_neg (by omega), if_neg (by omega), if_neg (by omega), hlen, e1, e2, if_pos (by omega), if_pos (by omega), if_pos (by omega), if_pos (by omega), if_pos (by omega), hR, e4, htk, Option.bind_some, ha', hb', Int.toNat_natCast, hyl, hset, hset, hset, hset]
        have nx : ∀ c, hstep w (b :: a :: r) m = c :: r → impl_holds.l0 k (w : Int) (r.reverse ++ [c]) l (l.length : Int) (wrap64 ((i : Int) + 1)) = some ((hrun w (b :: a :: r) (m :: l.drop (i + 1))).getLastD false) := by
          intro c hc
          have := next (c :: r) hc (by simp; omega) (by simp; omega)
          rw [List.reverse_cons] at this
          exact this
        have hs : hstep w (b :: a :: r) m = (if m.f0 = 3 then a && b else if m.f0 = 4 then a || b else a == b) :: r := by
          unfold hstep; rw [if_neg (by omega), if_neg (by omega), if_neg (by omega)]
        by_cases h3 : m.f0 = 3
        · rw [if_pos h3] at hs ⊢
          cases a with
          | true => rw [if_pos rfl, if_pos (by omega)]; exact nx b (by rw [hs]; simp)
          | false => rw [if_neg (by decide), if_pos (by omega)]; exact nx false (by rw [hs]; simp)
        · rw [if_neg h3] at hs ⊢
          by_cases h4 : m.f0 = 4
          · rw [if_pos h4] at hs ⊢
            cases a with
            | true => rw [if_pos rfl, if_pos (by omega)]; exact nx true (by rw [hs]; simp)
            | false => rw [if_neg (by decide), if_pos (by omega)]; exact nx b (by rw [hs]; simp)
          · rw [if_neg h4] at hs ⊢
            rw [if_pos (by omega)]
            exact nx (a == b) hs
theorem iholds {p : Int} (hp : p ≤ 4) (w : Nat) (hw : w < 16) (l : List S62) (hl : l.length ≤ 15) (ht : Tm p l) (k : Nat) (hk : 15 < k) : impl_holds.f k l (w : Int) = some (hv w l) := by
  unfold impl_holds.f
  have := iholds_loop hp w hw l hl l.length 0 [] 0 (by omega) (by simp) (by simp) ⟨1, ht, by omega⟩ k (by omega)
  rw [List.drop_zero, hrun_Tm w l ht] at this
  exact this

theorem imay (p : Int) (w : Nat) (hw : w < 16) (who : Nat) (t : List S62) (h : ClaimB p (who : Int) t) (k : Nat) (hk : 15 < k) : impl_maySay.f k (who : Int) t (w : Int) = some (may w who t) := by
  have hp := h.2.2.1.2.1
  have hw4 := h.2.1
  unfold impl_maySay.f may
  rw [iholds hp w hw t h.2.2.1.2.2.1 h.2.2.1.2.2.2 k hk, Option.bind_some, if_pos (by omega), ibit w who (by omega) (by omega)]

theorem people_eq (p : Int) : impl_peopleOk.f p = some (decide (1 ≤ p ∧ p ≤ 4)) := by
  unfold impl_peopleOk.f
  by_cases h : p ≥ 1
  · rw [if_pos h]; congr 1; rw [decide_eq_decide]; omega
  · rw [if_neg h]; congr 1; symm; rw [decide_eq_false_iff_not]; omega

theorem itermok_loop (p : Int) (hp : 1 ≤ p ∧ p ≤ 4) (l : List S62) (hn : l.length ≤ 15) (d : Nat) : ∀ (i : Nat) (n : Int), i + d = l.length → 0 ≤ n → n ≤ i → ∀ k, 2 * d < k →
    impl_TermOk.l0 k p n l (l.length : Int) ((i : Nat) : Int) = some (decide (tfold p n (l.drop i) = some 1)) := by
  induction d with
  | zero =>
    intro i n hi h0 h1 k hk
    obtain ⟨k, rfl⟩ : ∃ m, k = m + 1 := ⟨k - 1, by omega⟩
    rw [impl_TermOk.l0, if_neg (by omega), List.drop_of_length_le (by omega)]
    congr 1; rw [Bool.eq_iff_iff, beq_iff_eq, decide_eq_true_iff]; simp [tfold]
  | succ d ih =>
    intro i n hi h0 h1 k hk
    obtain ⟨k, rfl⟩ : ∃ m, k = m + 2 := ⟨k - 2, by omega⟩
    have hlt : i < l.length := by omega
    have next : ∀ (n' : Int) (k' : Nat), tstep p n l[i] = some n' → 0 ≤ n' → n' ≤ i + 1 → 2 * d < k' →
        impl_TermOk.l0 k' p n' l (l.length : Int) (wrap64 ((i : Int) + 1)) = some (decide (tfold p n (l.drop i) = some 1)) := by
      intro n' k' hs h0' h1' hk'
      have := ih (i + 1) n' (by omega) h0' (by omega) k' hk'
      rw [w64 (by omega) (by omega), show (i : Int) + 1 = ((i + 1 : Nat) : Int) by omega, this, List.drop_eq_getElem_cons hlt, tfold_some _ hs]
    have stop : tstep p n l[i] = none → some false = some (decide (tfold p n (l.drop i) = some 1)) := by
      intro hs
      rw [List.drop_eq_getElem_cons hlt, tfold_none _ hs]; simp
    generalize hgm : l[i] = m at *
    have hrd : rd_T62 l ((i : Nat) : Int) = m := by rw [rdm l i hlt]; exact hgm
    have g2 : ∀ b, (b = true ↔ (3 ≤ m.f0 ∧ m.f0 ≤ 5)) → m.f0 ≠ 0 → m.f0 ≠ 1 → m.f0 ≠ 2 → impl_TermOk.j2 (k + 1) p n l (l.length : Int) ((i : Nat) : Int) b m.f0 m.f1 = some (decide (tfold p n (l.drop i) = some 1)) := by
      intro b hb n0 n1 n2
      rw [impl_TermOk.j2]
      by_cases hbt : b = true
      · have h35 := hb.1 hbt
        rw [if_pos hbt]
        by_cases ha : m.f1 = 0
        · rw [if_pos ha]
          by_cases h2 : n < 2
          · rw [if_pos h2]
            exact stop (by unfold tstep; rw [if_neg n0, if_neg n1, if_neg n2, if_pos h35, if_neg (by omega)])
          · rw [if_neg h2, w64 (x := n - 1) (by omega) (by omega)]
            exact next (n - 1) k (by unfold tstep; rw [if_neg n0, if_neg n1, if_neg n2, if_pos h35, if_pos (by omega)]) (by omega) (by omega) (by omega)
        · rw [if_neg ha]
          exact stop (by unfold tstep; rw [if_neg n0, if_neg n1, if_neg n2, if_pos h35, if_neg (by omega)])
      · have h35 : ¬ (3 ≤ m.f0 ∧ m.f0 ≤ 5) := fun h => hbt (hb.2 h)
        rw [if_neg hbt]
        exact stop (by unfold tstep; rw [if_neg n0, if_neg n1, if_neg n2, if_neg h35])
    rw [show k + 2 = (k + 1) + 1 from rfl, impl_TermOk.l0, if_pos (by omega), if_pos (by omega), if_pos (by omega), hrd]
    by_cases e0 : m.f0 = 0
    · rw [if_pos e0]
      by_cases e1 : m.f1 < 0
      · rw [if_pos e1]; exact stop (by unfold tstep; rw [if_pos e0, if_neg (by omega)])
      · rw [if_neg e1]
        by_cases e2 : m.f1 ≥ p
        · rw [if_pos e2]; exact stop (by unfold tstep; rw [if_pos e0, if_neg (by omega)])
        · rw [if_neg e2, w64 (x := n + 1) (by omega) (by omega)]
          exact next (n + 1) (k + 1) (by unfold tstep; rw [if_pos e0, if_pos (by omega)]) (by omega) (by omega) (by omega)
    · rw [if_neg e0]
      by_cases e1 : m.f0 = 1
      · rw [if_pos e1]
        by_cases e2 : m.f1 < 0
        · rw [if_pos e2]; exact stop (by unfold tstep; rw [if_neg e0, if_pos e1, if_neg (by omega)])
        · rw [if_neg e2, w64 (x := p + 1) (by omega) (by omega)]
          by_cases e3 : m.f1 > p + 1
          · rw [if_pos e3]; exact stop (by unfold tstep; rw [if_neg e0, if_pos e1, if_neg (by omega)])
          · rw [if_neg e3, w64 (x := n + 1) (by omega) (by omega)]
            exact next (n + 1) (k + 1) (by unfold tstep; rw [if_neg e0, if_pos e1, if_pos (by omega)]) (by omega) (by omega) (by omega)
      · rw [if_neg e1]
        by_cases e2 : m.f0 = 2
        · rw [if_pos e2]
          by_cases e3 : m.f1 = 0
          · rw [if_pos e3]
            by_cases e4 : n < 1
            · rw [if_pos e4]; exact stop (by unfold tstep; rw [if_neg e0, if_neg e1, if_pos e2, if_neg (by omega)])
            · rw [if_neg e4]
              exact next n (k + 1) (by unfold tstep; rw [if_neg e0, if_neg e1, if_pos e2, if_pos (by omega)]) (by omega) (by omega) (by omega)
          · rw [if_neg e3]; exact stop (by unfold tstep; rw [if_neg e0, if_neg e1, if_pos e2, if_neg (by omega)])
        · rw [if_neg e2]
          by_cases e3 : m.f0 = 3
          · rw [if_pos e3]; exact g2 _ (by rw [beq_iff_eq]; omega) e0 e1 e2
          · rw [if_neg e3]
            by_cases e4 : m.f0 = 4
            · rw [if_pos e4]; exact g2 _ (by rw [beq_iff_eq]; omega) e0 e1 e2
            · rw [if_neg e4]; exact g2 _ (by rw [beq_iff_eq]; omega) e0 e1 e2
theorem itermok (p : Int) (l : List S62) (k : Nat) (hk : 32 < k) : impl_TermOk.f k p l = some (decide (TermB p l)) := by
  unfold impl_TermOk.f
  obtain ⟨k, rfl⟩ : ∃ m, k = m + 1 := ⟨k - 1, by omega⟩
  rw [people_eq, Option.bind_some]
  by_cases hp : 1 ≤ p ∧ p ≤ 4
  · rw [if_pos (by simpa using hp)]
    by_cases h1 : (l.length : Int) < 1
    · rw [if_pos h1, impl_TermOk.j0, if_pos rfl]
      congr 1; symm; rw [decide_eq_false_iff_not]; intro h; have := TermB_pos h; omega
    · rw [if_neg h1, impl_TermOk.j0]
      by_cases h2 : (l.length : Int) > 15
      · rw [if_pos (by simpa using h2)]
        congr 1; symm; rw [decide_eq_false_iff_not]; intro h; have := h.2.2.1; omega
      · rw [if_neg (by simpa using h2)]
        have := itermok_loop p hp l (by omega) l.length 0 0 (by omega) (by omega) (by omega) k (by omega)
        rw [show ((0 : Nat) : Int) = 0 from rfl] at this
        rw [this, List.drop_zero]
        congr 1; rw [decide_eq_decide]; unfold TermB
        constructor
        · intro h; exact ⟨hp.1, hp.2, by omega, h⟩
        · intro h; exact h.2.2.2
  · rw [if_neg (by simpa using hp), impl_TermOk.j0, if_pos rfl]
    congr 1; symm; rw [decide_eq_false_iff_not]; intro h; exact hp ⟨h.1, h.2.1⟩

theorem iclaimok (p : Int) (w : Int) (l : List S62) (k : Nat) (hk : 32 < k) : impl_ClaimOk.f k p w l = some (decide (ClaimB p w l)) := by
  unfold impl_ClaimOk.f
  rw [people_eq, Option.bind_some]
  by_cases hp : 1 ≤ p ∧ p ≤ 4
  · rw [if_pos (by simpa using hp)]
    by_cases h0 : w ≥ 0
    · rw [if_pos h0]
      by_cases h1 : w < p
      · rw [if_pos h1, itermok p l k hk, Option.bind_some]
        by_cases h : TermB p l
        · rw [if_pos (by simpa using h)]; congr 1; rw [decide_eq_decide]; unfold ClaimB
          constructor
          · intro hh; exact ⟨h0, h1, h, by omega⟩
          · intro hh; have := hh.2.2.2; omega
        · rw [if_neg (by simpa using h)]; congr 1; symm; rw [decide_eq_false_iff_not]; intro hh; exact h hh.2.2.1
      · rw [if_neg h1]; congr 1; symm; rw [decide_eq_false_iff_not]; intro hh; exact h1 hh.2.1
    · rw [if_neg h0]; congr 1; symm; rw [decide_eq_false_iff_not]; intro hh; exact h0 hh.1
  · rw [if_neg (by simpa using hp)]; congr 1; symm; rw [decide_eq_false_iff_not]; intro hh; exact hp ⟨hh.2.2.1.1, hh.2.2.1.2.1⟩

/-- The table of a claim. -/
def ctabN (p : Int) (who : Nat) (t : List S62) : Nat := tbN (fun w => may w who t) (pw p).toNat
theorem ictab (p : Int) (who : Nat) (t : List S62) (h : ClaimB p (who : Int) t) (k : Nat) (hk : 32 < k) : impl_ClaimTable.f k p (who : Int) t = some (ctabN p who t : Int) := by
  have hp : 1 ≤ p ∧ p ≤ 4 := ⟨h.2.2.1.1, h.2.2.1.2.1⟩
  have hb := pw_of hp.1 hp.2
  unfold impl_ClaimTable.f ctabN
  rw [iclaimok p _ t k hk, Option.bind_some, if_pos (by simpa using h)]
  exact tb_eq _ _ p hp (fun i hi => imay p i (by omega) who t h k (by omega))
theorem ctabN_bit (p : Int) (who : Nat) (t : List S62) (i : Nat) : (ctabN p who t).testBit i = (decide (i < (pw p).toNat) && may i who t) := by unfold ctabN; rw [tbN_bit]

/-- The table of a term. -/
def tabN (p : Int) (t : List S62) : Nat := tbN (fun w => hv w t) (pw p).toNat
def tabT (p : Int) (t : List S62) : Int := if TermB p t then (tabN p t : Int) else -1
theorem tabN_lt {p : Int} (hp : 1 ≤ p ∧ p ≤ 4) (t : List S62) : tabN p t < 65536 := by
  have h := tbN_lt (fun w => hv w t) (pw p).toNat
  have hb := pw_of hp.1 hp.2
  have h2 : 2 ^ (pw p).toNat ≤ 2 ^ 16 := Nat.pow_le_pow_right (by decide) (by omega)
  unfold tabN
  omega

theorem itab (p : Int) (t : List S62) (k : Nat) (hk : 32 < k) : impl_TableOf.f k p t = some (tabT p t) := by
  unfold impl_TableOf.f tabT
  rw [itermok p t k hk, Option.bind_some]
  by_cases h : TermB p t
  · have hb := pw_of h.1 h.2.1
    rw [if_pos (by simpa using h), if_pos h]
    exact tb_eq _ _ p ⟨h.1, h.2.1⟩ (fun i hi => iholds h.2.1 i (by omega) t h.2.2.1 h.2.2.2 k (by omega))
  · rw [if_neg (by simpa using h), if_neg h]

theorem tabN_bit (p : Int) (t : List S62) (i : Nat) : (tabN p t).testBit i = (decide (i < (pw p).toNat) && hv i t) := by unfold tabN; rw [tbN_bit]
theorem tab_eq_iff (p : Int) (a b : List S62) : tabN p a = tabN p b ↔ ∀ i, i < (pw p).toNat → hv i a = hv i b := by
  constructor
  · intro h i hi
    have h1 := tabN_bit p a i
    have h2 := tabN_bit p b i
    rw [h, h2, decide_eq_true hi, Bool.true_and, Bool.true_and] at h1
    exact h1.symm
  · intro h
    unfold tabN
    exact tbN_congr _ _ _ h
theorem tw_natA {p : Int} (h0 : 1 ≤ p) (h1 : p ≤ 4) : tw p = ((2 ^ (pw p).toNat : Nat) : Int) := by
  rcases p4 h0 h1 with rfl | rfl | rfl | rfl <;> decide
theorem always_iff {p : Int} (hp : 1 ≤ p ∧ p ≤ 4) (t : List S62) : (tabN p t : Int) = tw p - 1 ↔ ∀ i, i < (pw p).toNat → hv i t = true := by
  have e := tw_natA hp.1 hp.2
  have hpos : 0 < 2 ^ (pw p).toNat := Nat.two_pow_pos _
  have e2 : (tabN p t : Int) = tw p - 1 ↔ tabN p t = 2 ^ (pw p).toNat - 1 := by rw [e]; omega
  rw [e2]
  constructor
  · intro h i hi
    have := tabN_bit p t i
    rw [h, Nat.testBit_two_pow_sub_one, decide_eq_true hi] at this
    simpa using this.symm
  · intro h
    apply Nat.eq_of_testBit_eq
    intro i
    rw [tabN_bit, Nat.testBit_two_pow_sub_one]
    by_cases hi : i < (pw p).toNat
    · rw [decide_eq_true hi, h i hi]; rfl
    · rw [decide_eq_false hi]; rfl

theorem in_eq (a b c : Int) : spec_l1In.f a b c = some (decide (b ≤ a ∧ a ≤ c)) := by
  unfold spec_l1In.f
  by_cases h : a ≥ b
  · rw [if_pos h]; congr 1; rw [decide_eq_decide]; omega
  · rw [if_neg h]; congr 1; symm; rw [decide_eq_false_iff_not]; omega

theorem stermok_loop (p : Int) (hp : -9223372036854775808 ≤ p ∧ p ≤ 9223372036854775807) (l : List S62) (hn : l.length ≤ 1048576) (hw : ∀ m ∈ l, MarkW m) (d : Nat) : ∀ (i : Nat) (n : Int), i + d = l.length → 0 ≤ n → n ≤ i → ∀ k, 4 * d < k →
    spec_TermOk.l0 k p l n ((i : Nat) : Int) = some (decide (tfold p n (l.drop i) = some 1 ∧ 1 ≤ p ∧ p ≤ 4 ∧ l.length ≤ 15)) := by
  induction d with
  | zero =>
    intro i n hi h0 h1 k hk
    obtain ⟨k, rfl⟩ : ∃ m, k = m + 1 := ⟨k - 1, by omega⟩
    rw [spec_TermOk.l0, if_neg (by omega), in_eq, Option.bind_some, List.drop_of_length_le (by omega)]
    by_cases hpp : 1 ≤ p ∧ p ≤ 4
    · rw [if_pos (by simpa using hpp)]
      by_cases hn1 : n = 1
      · rw [if_pos hn1]; congr 1; rw [decide_eq_decide]; simp [tfold, hn1]; omega
      · rw [if_neg hn1]; congr 1; symm; rw [decide_eq_false_iff_not]; simp [tfold, hn1]
    · rw [if_neg (by simpa using hpp)]; congr 1; symm; rw [decide_eq_false_iff_not]; rintro ⟨_, a, b, _⟩; exact hpp ⟨a, b⟩
  | succ d ih =>
    intro i n hi h0 h1 k hk
    obtain ⟨k, rfl⟩ : ∃ m, k = m + 4 := ⟨k - 4, by omega⟩
    have hlt : i < l.length := by omega
    have hm := hw _ (List.getElem_mem hlt)
    unfold MarkW at hm
    have next : ∀ (n' : Int) (k' : Nat), tstep p n l[i] = some n' → 0 ≤ n' → n' ≤ i + 1 → 4 * d < k' →
        spec_TermOk.l0 k' p l n' (wrap64 ((i : Int) + 1)) = some (decide (tfold p n (l.drop i) = some 1 ∧ 1 ≤ p ∧ p ≤ 4 ∧ l.length ≤ 15)) := by
      intro n' k' hs h0' h1' hk'
      have := ih (i + 1) n' (by omega) h0' (by omega) k' hk'
      rw [w64 (by omega) (by omega), show (i : Int) + 1 = ((i + 1 : Nat) : Int) by omega, this, List.drop_eq_getElem_cons hlt, tfold_some _ hs]
    have stop : tstep p n l[i] = none → some false = some (decide (tfold p n (l.drop i) = some 1 ∧ 1 ≤ p ∧ p ≤ 4 ∧ l.length ≤ 15)) := by
      intro hs
      rw [List.drop_eq_getElem_cons hlt, tfold_none _ hs]; simp
    generalize hgm : l[i] = m at *
    have hrd : rd_T62 l ((i : Nat) : Int) = m := by rw [rdm l i hlt]; exact hgm
    -- the ways behind the first two tests
    have g3 : ∀ b, (b = true ↔ (m.f0 = 2 ∧ m.f1 = 0 ∧ n ≥ 1)) → ¬ (m.f0 = 0 ∧ m.f1 ≥ 0 ∧ m.f1 < p) → ¬ (m.f0 = 1 ∧ m.f1 ≥ 0 ∧ m.f1 ≤ p + 1) → spec_TermOk.j3 (k + 1) p l n ((i : Nat) : Int) b = some (decide (tfold p n (l.drop i) = some 1 ∧ 1 ≤ p ∧ p ≤ 4 ∧ l.length ≤ 15)) := by
      intro b hb n0 n1
      rw [spec_TermOk.j3]
      by_cases hbt : b = true
      · have := hb.1 hbt
        rw [if_pos hbt]
        exact next n k (by unfold tstep; rw [if_neg (by omega), if_neg (by omega), if_pos this.1, if_pos (by omega)]) (by omega) (by omega) (by omega)
      · have hb' : ¬ (m.f0 = 2 ∧ m.f1 = 0 ∧ n ≥ 1) := fun h => hbt (hb.2 h)
        rw [if_neg hbt, if_pos (by omega), if_pos (by omega), hrd, in_eq, Option.bind_some]
        by_cases h35 : 3 ≤ m.f0 ∧ m.f0 ≤ 5
        · rw [if_pos (by simpa using h35)]
          by_cases ha : m.f1 = 0
          · rw [if_pos ha]
            by_cases h2 : n ≥ 2
            · rw [if_pos h2, w64 (x := n - 1) (by omega) (by omega)]
              exact next (n - 1) k (by unfold tstep; rw [if_neg (by omega), if_neg (by omega), if_neg (by omega), if_pos h35, if_pos (by omega)]) (by omega) (by omega) (by omega)
            · rw [if_neg h2]
              exact stop (by unfold tstep; rw [if_neg (by omega), if_neg (by omega), if_neg (by omega), if_pos h35, if_neg (by omega)])
          · rw [if_neg ha]
            exact stop (by unfold tstep; rw [if_neg (by omega), if_neg (by omega), if_neg (by omega), if_pos h35, if_neg (by omega)])
        · rw [if_neg (by simpa using h35)]
          refine stop ?_
          unfold tstep
          by_cases e0 : m.f0 = 0
          · rw [if_pos e0, if_neg (by omega)]
          · rw [if_neg e0]
            by_cases e1 : m.f0 = 1
            · rw [if_pos e1, if_neg (by omega)]
            · rw [if_neg e1]
              by_cases e2 : m.f0 = 2
              · rw [if_pos e2, if_neg (by omega)]
              · rw [if_neg e2, if_neg h35]
    have g2 : ∀ b, (b = true ↔ (m.f0 = 1 ∧ m.f1 ≥ 0 ∧ m.f1 ≤ p + 1)) → ¬ (m.f0 = 0 ∧ m.f1 ≥ 0 ∧ m.f1 < p) → spec_TermOk.j2 (k + 2) p l n ((i : Nat) : Int) b = some (decide (tfold p n (l.drop i) = some 1 ∧ 1 ≤ p ∧ p ≤ 4 ∧ l.length ≤ 15)) := by
      intro b hb n0
      rw [spec_TermOk.j2]
      by_cases hbt : b = true
      · have := hb.1 hbt
        rw [if_pos hbt, w64 (x := n + 1) (by omega) (by omega)]
        exact next (n + 1) (k + 1) (by unfold tstep; rw [if_neg (by omega), if_pos this.1, if_pos (by omega)]) (by omega) (by omega) (by omega)
      · have hb' : ¬ (m.f0 = 1 ∧ m.f1 ≥ 0 ∧ m.f1 ≤ p + 1) := fun h => hbt (hb.2 h)
        rw [if_neg hbt, if_pos (by omega), if_pos (by omega), hrd]
        by_cases h2 : (m.f0 == 2 && m.f1 == 0) = true
        · rw [if_pos h2]
          rw [Bool.and_eq_true, beq_iff_eq, beq_iff_eq] at h2
          exact g3 _ (by rw [decide_eq_true_iff]; omega) n0 hb'
        · rw [if_neg h2]
          rw [Bool.and_eq_true, beq_iff_eq, beq_iff_eq] at h2
          exact g3 _ (by simp; omega) n0 hb'
    have g1 : ∀ b, (b = true ↔ (m.f0 = 0 ∧ m.f1 ≥ 0 ∧ m.f1 < p)) → spec_TermOk.j1 (k + 3) p l n ((i : Nat) : Int) b = some (decide (tfold p n (l.drop i) = some 1 ∧ 1 ≤ p ∧ p ≤ 4 ∧ l.length ≤ 15)) := by
      intro b hb
      rw [spec_TermOk.j1]
      by_cases hbt : b = true
      · have := hb.1 hbt
        rw [if_pos hbt, w64 (x := n + 1) (by omega) (by omega)]
        exact next (n + 1) (k + 2) (by unfold tstep; rw [if_pos this.1, if_pos (by omega)]) (by omega) (by omega) (by omega)
      · have hb' : ¬ (m.f0 = 0 ∧ m.f1 ≥ 0 ∧ m.f1 < p) := fun h => hbt (hb.2 h)
        rw [if_neg hbt, if_pos (by omega), if_pos (by omega), hrd]
        by_cases e1 : m.f0 = 1
        · rw [if_pos e1]
          by_cases e2 : m.f1 ≥ 0
          · rw [if_pos e2]
            by_cases e3 : m.f1 ≤ p
            · rw [if_pos e3]; exact g2 _ (by simp; omega) hb'
            · rw [if_neg e3, w64 (x := m.f1 - 1) (by omega) (by omega)]; exact g2 _ (by rw [beq_iff_eq]; omega) hb'
          · rw [if_neg e2]; exact g2 _ (by simp; omega) hb'
        · rw [if_neg e1]; exact g2 _ (by simp; omega) hb'
    rw [show k + 4 = (k + 3) + 1 from rfl, spec_TermOk.l0, if_pos (by omega), if_pos (by omega), hrd]
    by_cases e0 : m.f0 = 0
    · rw [if_pos e0]
      by_cases e1 : m.f1 ≥ 0
      · rw [if_pos e1]; exact g1 _ (by rw [decide_eq_true_iff]; omega)
      · rw [if_neg e1]; exact g1 _ (by simp; omega)
    · rw [if_neg e0]; exact g1 _ (by simp; omega)
theorem stermok (p : Int) (hp : -9223372036854775808 ≤ p ∧ p ≤ 9223372036854775807) (l : List S62) (hn : l.length ≤ 1048576) (hw : ∀ m ∈ l, MarkW m) (k : Nat) (hk : 4 * l.length < k) : spec_TermOk.f k p l = some (decide (TermB p l)) := by
  unfold spec_TermOk.f
  have := stermok_loop p hp l hn hw l.length 0 0 (by omega) (by omega) (by omega) k hk
  rw [show ((0 : Nat) : Int) = 0 from rfl] at this
  rw [this, List.drop_zero]
  congr 1; rw [decide_eq_decide]; unfold TermB
  constructor
  · rintro ⟨a, b, c, d⟩; exact ⟨b, c, d, a⟩
  · rintro ⟨a, b, c, d⟩; exact ⟨d, a, b, c⟩

theorem sclaimok (p : Int) (hp : -9223372036854775808 ≤ p ∧ p ≤ 9223372036854775807) (w : Int) (l : List S62) (hn : l.length ≤ 1048576) (hw : ∀ m ∈ l, MarkW m) (k : Nat) (hk : 4 * l.length < k) : spec_ClaimOk.f k p w l = some (decide (ClaimB p w l)) := by
  unfold spec_ClaimOk.f
  by_cases h0 : w ≥ 0
  · rw [if_pos h0]
    by_cases h1 : w < p
    · rw [if_pos h1, stermok p hp l hn hw k hk, Option.bind_some]
      by_cases h : TermB p l
      · rw [if_pos (by simpa using h)]; congr 1; rw [decide_eq_decide]; unfold ClaimB
        constructor
        · intro hh; exact ⟨h0, h1, h, by omega⟩
        · intro hh; have := hh.2.2.2; omega
      · rw [if_neg (by simpa using h)]; congr 1; symm; rw [decide_eq_false_iff_not]; intro hh; exact h hh.2.2.1
    · rw [if_neg h1]; congr 1; symm; rw [decide_eq_false_iff_not]; intro hh; exact h1 hh.2.1
  · rw [if_neg h0]; congr 1; symm; rw [decide_eq_false_iff_not]; intro hh; exact h0 hh.1

/-- The bytes that are drawn from. -/
def Bytes (l : List Int) : Prop := l.length ≤ 2000 ∧ ∀ x ∈ l, 0 ≤ x ∧ x ≤ 255
theorem open_ok (l : List Int) (h : ∀ x ∈ l, (Lit.int .u8 x).wf = true) : ∃ b, Bytes b ∧ spec_l20Open.f l = some (b, 0) := by
  unfold spec_l20Open.f
  by_cases hl : (l.length : Int) > 2000
  · refine ⟨l.take 2000, ⟨by simp; omega, fun x hx => wf8 (h x (List.mem_of_mem_take hx))⟩, ?_⟩
    rw [if_pos hl, if_pos (by omega)]
  · exact ⟨l, ⟨by omega, fun x hx => wf8 (h x hx)⟩, by rw [if_neg hl]⟩

theorem rd_byte {b : List Int} (h : Bytes b) (i : Int) : 0 ≤ rd b i ∧ rd b i ≤ 255 := by
  unfold rd
  rw [List.getD_eq_getElem?_getD]
  by_cases hi : i.toNat < b.length
  · rw [List.getElem?_eq_getElem hi, Option.getD_some]; exact h.2 _ (List.getElem_mem hi)
  · rw [List.getElem?_eq_none (by omega)]; decide
theorem pick_ok {b : List Int} (hb : Bytes b) (pos n : Int) (h0 : 0 ≤ pos) (h1 : pos ≤ 1000000000) :
    ∃ r, (0 ≤ r ∧ (1 ≤ n → r < n) ∧ (n < 1 → r = 0)) ∧ ∀ k, spec_l20Rd_pick.f (k + 1) b pos n = some (r, pos + 1) := by
  have hl := hb.1
  have e1 : wrap64 (pos + 1) = pos + 1 := w64 (by omega) (by omega)
  have e2 : wrap64 (pos + 1 - 1) = pos := by rw [w64 (by omega) (by omega)]; omega
  by_cases hn : n < 1
  · refine ⟨0, ⟨by omega, by omega, fun _ => rfl⟩, fun k => ?_⟩
    unfold spec_l20Rd_pick.f
    rw [if_pos hn, e1]; rw [spec_l20Rd_pick.j0]; rw [if_pos rfl]
  · by_cases hz : b.length = 0
    · refine ⟨0, ⟨by omega, by omega, fun _ => rfl⟩, fun k => ?_⟩
      unfold spec_l20Rd_pick.f
      rw [if_neg hn, e1]; rw [spec_l20Rd_pick.j0]; rw [if_pos (by simp; exact List.eq_nil_of_length_eq_zero hz)]
    · by_cases hp : pos < (b.length : Int)
      · have hr := rd_byte hb pos
        refine ⟨Int.tmod (rd b pos) n, ⟨Int.tmod_nonneg _ hr.1, fun _ => Int.tmod_lt_of_pos _ (by omega), by omega⟩, fun k => ?_⟩
        unfold spec_l20Rd_pick.f
        rw [if_neg hn, e1]; rw [spec_l20Rd_pick.j0]
        rw [if_neg (by simp; exact List.ne_nil_of_length_pos (by omega)), e2, if_pos hp, if_pos h0, if_neg (by omega), w64 (x := rd b pos) (by omega) (by omega)]
      · have hr1 := rd_byte hb (Int.tmod pos (b.length : Int))
        have em : wrap64 (wrap64 (pos * 7) + 3) = pos * 7 + 3 := by rw [w64 (x := pos * 7) (by omega) (by omega), w64 (by omega) (by omega)]
        have hr2 := rd_byte hb (Int.tmod (pos * 7 + 3) (b.length : Int))
        have hd : 0 ≤ Int.tdiv pos (b.length : Int) ∧ Int.tdiv pos (b.length : Int) ≤ pos := ⟨Int.tdiv_nonneg h0 (by omega), by rw [Int.tdiv_eq_ediv_of_nonneg h0]; exact Int.ediv_le_self _ h0⟩
        generalize hA : rd b (Int.tmod pos (b.length : Int)) = A at hr1
        generalize hB : rd b (Int.tmod (pos * 7 + 3) (b.length : Int)) = B at hr2
        generalize hD : Int.tdiv pos (b.length : Int) = D at hd
        obtain ⟨X, hX⟩ : ∃ X : Nat, A * 131 + B * 1117 + pos * 29 + D * 53 = (X : Int) := Int.eq_ofNat_of_zero_le (by omega)
        have hXb : (X : Int) < 4611686018427387904 := by omega
        refine ⟨Int.tmod ((X ^^^ (X / 64) : Nat) : Int) n, ⟨Int.tmod_nonneg _ (by omega), fun _ => Int.tmod_lt_of_pos _ (by omega), by omega⟩, fun k => ?_⟩
        unfold spec_l20Rd_pick.f
        rw [if_neg hn, e1]; rw [spec_l20Rd_pick.j0]
        rw [if_neg (by simp; exact List.ne_nil_of_length_pos (by omega)), e2, if_neg hp, if_neg (by omega), if_pos (Int.tmod_nonneg _ h0), if_pos (Int.tmod_lt_of_pos _ (by omega)), em, if_pos (Int.tmod_nonneg _ (by omega)), if_pos (Int.tmod_lt_of_pos _ (by omega)), if_neg (by omega), hA, hB, hD]
        have w1 : wrap64 (wrap64 A * 131) = A * 131 := by rw [w64 (x := A) (by omega) (by omega), w64 (by omega) (by omega)]
        have w2 : wrap64 (wrap64 B * 1117) = B * 1117 := by rw [w64 (x := B) (by omega) (by omega), w64 (by omega) (by omega)]
        have w3 : wrap64 (pos * 29) = pos * 29 := w64 (by omega) (by omega)
        have w4 : wrap64 (wrap64 D * 53) = D * 53 := by rw [w64 (x := D) (by omega) (by omega), w64 (by omega) (by omega)]
        have w5 : wrap64 (A * 131 + B * 1117) = A * 131 + B * 1117 := w64 (by omega) (by omega)
        have w6 : wrap64 (A * 131 + B * 1117 + pos * 29) = A * 131 + B * 1117 + pos * 29 := w64 (by omega) (by omega)
        have w7 : wrap64 (A * 131 + B * 1117 + pos * 29 + D * 53) = (X : Int) := by rw [w64 (by omega) (by omega)]; exact hX
        rw [w1, w2, w3, w4, w5, w6, w7]
        have w8 : wrap64 (Int.tdiv (X : Int) 64) = ((X / 64 : Nat) : Int) := by
          rw [Int.tdiv_eq_ediv_of_nonneg (by omega), w64 (by omega) (by omega)]; simp
        rw [w8, xor64 _ _ (by omega) (by omega)]

def WOk (p w : Int) : Prop := 1 ≤ p ∧ p ≤ 4 ∧ 0 ≤ w ∧ w < pw p
instance (p w : Int) : Decidable (WOk p w) := by unfold WOk; infer_instance
theorem iworld (p w : Int) : impl_WorldOk.f p w = some (decide (WOk p w)) := by
  unfold impl_WorldOk.f
  rw [people_eq, Option.bind_some]
  by_cases h : 1 ≤ p ∧ p ≤ 4
  · rw [if_pos (by simpa using h)]
    by_cases h2 : w ≥ 0
    · rw [if_pos h2, if_pos (by omega), shl_pw h.1 h.2]; congr 1; rw [decide_eq_decide]; unfold WOk; omega
    · rw [if_neg h2]; congr 1; symm; rw [decide_eq_false_iff_not]; unfold WOk; omega
  · rw [if_neg (by simpa using h)]; congr 1; symm; rw [decide_eq_false_iff_not]; unfold WOk; omega

theorem alive_eq : laws_alive.f = some true := by
  unfold laws_alive.f
  rw [iworld, Option.bind_some, if_pos (by decide), iworld, Option.bind_some]
  decide

/-! ### the law -/
theorem drawKind_ok (l : List Int) (h : ∀ x ∈ l, (Lit.int .u8 x).wf = true) : ∃ p a b c, ((1 ≤ p ∧ p ≤ 8) ∧ (0 ≤ a ∧ a ≤ 8) ∧ (-5 ≤ b ∧ b ≤ 4)) ∧ ∀ k, 16 < k → spec_DrawKindClaim.f k l = some (p, a, b, c) := by
  obtain ⟨b, hb, ho⟩ := open_ok l h
  obtain ⟨r0, h0, p0⟩ := pick_ok hb 0 4 (by omega) (by omega)
  obtain ⟨r1, h1, p1⟩ := pick_ok hb (0 + 1) 40 (by omega) (by omega)
  have a0 := h0.2.1 (by omega)
  have a1 := h1.2.1 (by omega)
  obtain ⟨r2, h2, p2⟩ := pick_ok hb (0 + 1 + 1) (1 + r0) (by omega) (by omega)
  obtain ⟨r3, h3, p3⟩ := pick_ok hb (0 + 1 + 1 + 1) 40 (by omega) (by omega)
  obtain ⟨r4, h4, p4⟩ := pick_ok hb (0 + 1 + 1 + 1 + 1) (1 + r0) (by omega) (by omega)
  obtain ⟨r5, h5, p5⟩ := pick_ok hb (0 + 1 + 1 + 1 + 1 + 1) 40 (by omega) (by omega)
  obtain ⟨r6, h6, p6⟩ := pick_ok hb (0 + 1 + 1 + 1 + 1 + 1 + 1) 2 (by omega) (by omega)
  have a2 := h2.2.1 (by omega)
  have a3 := h3.2.1 (by omega)
  have a4 := h4.2.1 (by omega)
  have a5 := h5.2.1 (by omega)
  have d1 : Int.tdiv r1 39 = r1 / 39 := Int.tdiv_eq_ediv_of_nonneg h1.1
  have d3 : Int.tdiv r3 39 = r3 / 39 := Int.tdiv_eq_ediv_of_nonneg h3.1
  have d5 : Int.tdiv r5 39 = r5 / 39 := Int.tdiv_eq_ediv_of_nonneg h5.1
  refine ⟨1 + r0 + r1 / 39 * 4, r2 + r3 / 39 * 5, r4 - r5 / 39 * 5, (r6 == 0), ⟨by omega, by omega, by omega⟩, fun k hk => ?_⟩
  obtain ⟨k, rfl⟩ : ∃ m, k = m + 1 := ⟨k - 1, by omega⟩
  unfold spec_DrawKindClaim.f
  rw [ho]; simp only [Option.bind_some]
  rw [p0 k]; simp only [Option.bind_some]
  rw [p1 k]; simp only [Option.bind_some]
  rw [w64 (x := 1 + r0) (by omega) (by omega), p2 k]; simp only [Option.bind_some]
  rw [p3 k]; simp only [Option.bind_some]
  rw [p4 k]; simp only [Option.bind_some]
  rw [p5 k]; simp only [Option.bind_some]
  rw [p6 k]; simp only [Option.bind_some]
  rw [d1, d3, d5, w64 (x := r1 / 39) (by omega) (by omega), w64 (x := r3 / 39) (by omega) (by omega), w64 (x := r5 / 39) (by omega) (by omega), w64 (x := r1 / 39 * 4) (by omega) (by omega), w64 (x := r3 / 39 * 5) (by omega) (by omega), w64 (x := r5 / 39 * 5) (by omega) (by omega), w64 (x := 1 + r0 + r1 / 39 * 4) (by omega) (by omega), w64 (x := r2 + r3 / 39 * 5) (by omega) (by omega), w64 (x := r4 - r5 / 39 * 5) (by omega) (by omega)]
theorem FnOwnKind : laws_FnOwnKind.Pure := by
  intro l _ _ h
  obtain ⟨p, a, b, c, hb, hk⟩ := drawKind_ok l h
  refine ⟨100, ?_⟩
  unfold laws_FnOwnKind.f
  by_cases hl : (l.length : Int) > 1048576
  · rw [if_pos hl]
  · have hm : ∀ m ∈ [(⟨0, a⟩ : S62), (⟨0, b⟩ : S62), (⟨5, 0⟩ : S62)], MarkW m := by
      intro m hm
      simp only [List.mem_cons, List.not_mem_nil, or_false] at hm
      rcases hm with rfl | rfl | rfl
      · show -9223372036854775808 ≤ (0 : Int) ∧ (0 : Int) ≤ 9223372036854775807 ∧ -9223372036854775808 ≤ a ∧ a ≤ 9223372036854775807
        omega
      · show -9223372036854775808 ≤ (0 : Int) ∧ (0 : Int) ≤ 9223372036854775807 ∧ -9223372036854775808 ≤ b ∧ b ≤ 9223372036854775807
        omega
      · show -9223372036854775808 ≤ (5 : Int) ∧ (5 : Int) ≤ 9223372036854775807 ∧ -9223372036854775808 ≤ (0 : Int) ∧ (0 : Int) ≤ 9223372036854775807
        omega
    rw [if_neg hl, hk 100 (by omega)]; simp only [Option.bind_some]
    rw [sclaimok p (by omega) a _ (by simp) hm 100 (by simp), Option.bind_some]
    by_cases hC : ClaimB p a [(⟨0, a⟩ : S62), (⟨0, b⟩ : S62), (⟨5, 0⟩ : S62)]
    · obtain ⟨who, rfl⟩ := Int.eq_ofNat_of_zero_le hC.1
      have hT := hC.2.2.1
      have hw := hC.2.1
      have hbk := TermB_ok hT (⟨0, b⟩ : S62) (by simp)
      have hbb : 0 ≤ b ∧ b < p := by
        unfold MOk at hbk
        have : (0 : Int) = 0 → 0 ≤ b ∧ b < p := by
          intro _
          simpa using hbk
        exact this rfl
      obtain ⟨whom, rfl⟩ := Int.eq_ofNat_of_zero_le hbb.1
      have la : Tm p [(⟨0, (who : Int)⟩ : S62)] := Tm_leaf (.inl ⟨rfl, by show (0 : Int) ≤ (who : Int); omega, by show (who : Int) < p; omega⟩)
      have lb : Tm p [(⟨0, (whom : Int)⟩ : S62)] := Tm_leaf (.inl ⟨rfl, by show (0 : Int) ≤ (whom : Int); omega, by show (whom : Int) < p; omega⟩)
      have hTb : TermB p [(⟨0, (whom : Int)⟩ : S62)] := ⟨hT.1, hT.2.1, by simp, lb⟩
      have e : ctabN p who [(⟨0, (who : Int)⟩ : S62), (⟨0, (whom : Int)⟩ : S62), (⟨5, 0⟩ : S62)] = tabN p [(⟨0, (whom : Int)⟩ : S62)] := by
        unfold ctabN tabN
        apply tbN_congr
        intro i _
        have e1 : hv i [(⟨0, (who : Int)⟩ : S62), (⟨0, (whom : Int)⟩ : S62), (⟨5, 0⟩ : S62)] = (i.testBit who == i.testBit whom) := by
          have := hv_bin i [(⟨0, (who : Int)⟩ : S62)] [(⟨0, (whom : Int)⟩ : S62)] (⟨5, 0⟩ : S62) la lb (by show (3 : Int) ≤ 5; omega)
          rw [hv_tells (p := p) _ _ rfl, hv_tells (p := p) _ _ rfl] at this
          exact this
        unfold may
        rw [e1, hv_tells (p := p) _ _ rfl]
        show ((i.testBit who == i.testBit whom) == i.testBit who) = i.testBit whom
        cases i.testBit who <;> cases i.testBit whom <;> rfl
      have et : tabT p [(⟨0, (whom : Int)⟩ : S62)] = (tabN p [(⟨0, (whom : Int)⟩ : S62)] : Int) := by unfold tabT; rw [if_pos hTb]
      rw [if_pos (by simpa using hC), alive_eq, Option.bind_some, if_pos rfl, ictab p who _ hC 100 (by omega), Option.bind_some, itab p _ 100 (by omega), Option.bind_some, et, e]
      simp
    · rw [if_neg (by simpa using hC), iclaimok p a _ 100 (by omega), Option.bind_some, if_neg (by simpa using hC), alive_eq]; rfl

end Go.Proofs.Ytfhmafmfaoknlaa.Pure
