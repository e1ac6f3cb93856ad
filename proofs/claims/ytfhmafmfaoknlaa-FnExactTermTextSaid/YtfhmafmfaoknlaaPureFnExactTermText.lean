/- Proved: FnExactTermText returns true for every number of people and every list of marks. No condition. -/
import Derived.Test.YtfhmafmfaoknlaaPFnExactTermTextx7
import Derived.Laws.BitsLemmas
import Derived.Laws.BitsAllLaws
namespace Go.Proofs.Ytfhmafmfaoknlaa.Pure
open Go.RowKit Go.Proofs.Ytfhmafmfaoknlaa.PFnExactTermText Go.Proofs.YtfhmafmfaoknlaaW.PrintWords Go.Proofs.YtfhmafmfaoknlaaW.PrintLast Go.Proofs.YtfhmafmfaoknlaaW.PrintMore
set_option linter.unusedVariables false
set_option linter.unusedSimpArgs false

/-! ### base: whole numbers -/
theorem w64 {x : Int} (h0 : -9223372036854775808 ≤ x) (h1 : x ≤ 9223372036854775807) : wrap64 x = x := by
  unfold wrap64; omega
theorem wf64 {x : Int} (h : (Lit.int .i64 x).wf = true) : -9223372036854775808 ≤ x ∧ x ≤ 9223372036854775807 := by
  simp only [Lit.wf, IntKind.min, IntKind.max, IntKind.signed, IntKind.bits, Bool.and_eq_true, decide_eq_true_eq, if_true] at h
  omega
theorem wf8 {x : Int} (h : (Lit.int .u8 x).wf = true) : 0 ≤ x ∧ x ≤ 255 := by
  simp only [Lit.wf, IntKind.min, IntKind.max, IntKind.signed, IntKind.bits, Bool.and_eq_true, decide_eq_true_eq] at h
  simpa using h
theorem ofInt_i64 (a : Nat) (ha : a < 18446744073709551616) : (BitVec.ofInt 64 (a : Int)).toNat = a := by
  rw [BitVec.ofInt_natCast, BitVec.toNat_ofNat]; exact Nat.mod_eq_of_lt (by omega)
theorem wrapi (x : Nat) (h : x < 9223372036854775808) : IntKind.i64.wrap (x : Int) = x := by
  rw [IntKind.wrap_i64]; omega
theorem or64 (a b : Nat) (ha : a < 4611686018427387904) (hb : b < 4611686018427387904) : Go.bits .or .i64 (a : Int) (b : Int) = ((a ||| b : Nat) : Int) := by
  have hx : a ||| b < 2 ^ 62 := Nat.or_lt_two_pow (by omega) (by omega)
  show IntKind.i64.wrap ((BitVec.ofInt 64 (a : Int) ||| BitVec.ofInt 64 (b : Int)).toNat : Int) = _
  rw [BitVec.toNat_or, ofInt_i64 a (by omega), ofInt_i64 b (by omega), wrapi _ (by omega)]
theorem and64 (a b : Nat) (ha : a < 4611686018427387904) (hb : b < 4611686018427387904) : Go.bits .and .i64 (a : Int) (b : Int) = ((a &&& b : Nat) : Int) := by
  have hx : a &&& b < 2 ^ 62 := Nat.and_lt_two_pow _ (by omega)
  show IntKind.i64.wrap ((BitVec.ofInt 64 (a : Int) &&& BitVec.ofInt 64 (b : Int)).toNat : Int) = _
  rw [BitVec.toNat_and, ofInt_i64 a (by omega), ofInt_i64 b (by omega), wrapi _ (by omega)]
theorem xor64 (a b : Nat) (ha : a < 4611686018427387904) (hb : b < 4611686018427387904) : Go.bits .xor .i64 (a : Int) (b : Int) = ((a ^^^ b : Nat) : Int) := by
  have hx : a ^^^ b < 2 ^ 62 := Nat.xor_lt_two_pow (by omega) (by omega)
  show IntKind.i64.wrap ((BitVec.ofInt 64 (a : Int) ^^^ BitVec.ofInt 64 (b : Int)).toNat : Int) = _
  rw [BitVec.toNat_xor, ofInt_i64 a (by omega), ofInt_i64 b (by omega), wrapi _ (by omega)]
theorem andnot64 (a b : Nat) (ha : a < 4611686018427387904) (hb : b < 4611686018427387904) : Go.bits .andNot .i64 (a : Int) (b : Int) = ((a &&& (18446744073709551615 - b) : Nat) : Int) := by
  have hx : a &&& (18446744073709551615 - b) < 2 ^ 62 := Nat.lt_of_le_of_lt Nat.and_le_left (by omega)
  show IntKind.i64.wrap ((BitVec.ofInt 64 (a : Int) &&& ~~~BitVec.ofInt 64 (b : Int)).toNat : Int) = _
  rw [BitVec.toNat_and, BitVec.toNat_not, ofInt_i64 a (by omega), ofInt_i64 b (by omega)]
  have e : 2 ^ 64 - 1 - b = 18446744073709551615 - b := by omega
  rw [e, wrapi _ (by omega)]
/-- So many worlds; so many tables. -/
def pw (p : Int) : Int := 2 ^ p.toNat
def tw (p : Int) : Int := 2 ^ (2 ^ p.toNat)
theorem p4 {p : Int} (h0 : 1 ≤ p) (h1 : p ≤ 4) : p = 1 ∨ p = 2 ∨ p = 3 ∨ p = 4 := by omega
theorem pw_of {p : Int} (h0 : 1 ≤ p) (h1 : p ≤ 4) : 2 ≤ pw p ∧ pw p ≤ 16 := by
  rcases p4 h0 h1 with rfl | rfl | rfl | rfl <;> decide
theorem tw_of {p : Int} (h0 : 1 ≤ p) (h1 : p ≤ 4) : 4 ≤ tw p ∧ tw p ≤ 65536 := by
  rcases p4 h0 h1 with rfl | rfl | rfl | rfl <;> decide
theorem tw_pw {p : Int} (h0 : 1 ≤ p) (h1 : p ≤ 4) : tw p = 2 ^ (pw p).toNat := by
  rcases p4 h0 h1 with rfl | rfl | rfl | rfl <;> decide
theorem shl_pw {p : Int} (h0 : 1 ≤ p) (h1 : p ≤ 4) : shl .i64 1 p = pw p := by
  rcases p4 h0 h1 with rfl | rfl | rfl | rfl <;> decide
theorem shlu_pw {p : Int} (h0 : 1 ≤ p) (h1 : p ≤ 4) : shl .u64 1 p = pw p := by
  rcases p4 h0 h1 with rfl | rfl | rfl | rfl <;> decide
theorem shl_tw {p : Int} (h0 : 1 ≤ p) (h1 : p ≤ 4) : shl .i64 1 (pw p) = tw p := by
  rcases p4 h0 h1 with rfl | rfl | rfl | rfl <;> decide
/-- A shift of a small number by a small count. -/
theorem shl_nat (x n : Nat) (hn : n ≤ 16) (hx : x ≤ 65536) : shl .i64 (x : Int) (n : Int) = ((x * 2 ^ n : Nat) : Int) := by
  unfold shl
  have e : min ((n : Int).toNat) (IntKind.i64.bits) = n := by simp [IntKind.bits]; omega
  rw [e]
  have hp : 2 ^ n ≤ 2 ^ 16 := Nat.pow_le_pow_right (by decide) hn
  have hm : x * 2 ^ n ≤ 65536 * 2 ^ 16 := Nat.mul_le_mul hx hp
  have e2 : (x : Int) * 2 ^ n = ((x * 2 ^ n : Nat) : Int) := by simp
  rw [e2, wrapi _ (by omega)]
theorem shr_nat (x n : Nat) (hn : n ≤ 16) : shr .i64 (x : Int) (n : Int) = ((x / 2 ^ n : Nat) : Int) := by
  unfold shr
  have e : min ((n : Int).toNat) (IntKind.i64.bits) = n := by simp [IntKind.bits]; omega
  rw [e]
  simp

/-- Terms: how the number of parts goes on at a mark. -/
def tstep (p n : Int) (m : S62) : Option Int :=
  if m.f0 = 0 then (if 0 ≤ m.f1 ∧ m.f1 < p then some (n + 1) else none)
  else if m.f0 = 1 then (if 0 ≤ m.f1 ∧ m.f1 ≤ p + 1 then some (n + 1) else none)
  else if m.f0 = 2 then (if m.f1 = 0 ∧ 1 ≤ n then some n else none)
  else if 3 ≤ m.f0 ∧ m.f0 ≤ 5 then (if m.f1 = 0 ∧ 2 ≤ n then some (n - 1) else none)
  else none
def tfold (p : Int) : Int → List S62 → Option Int
  | n, [] => some n
  | n, m :: t => (tstep p n m).bind fun n' => tfold p n' t
theorem tfold_cons (p n : Int) (m : S62) (t : List S62) : tfold p n (m :: t) = (tstep p n m).bind fun n' => tfold p n' t := rfl
theorem tfold_none {p n : Int} {m : S62} (t : List S62) (h : tstep p n m = none) : tfold p n (m :: t) = none := by rw [tfold_cons, h]; rfl
theorem tfold_some {p n n' : Int} {m : S62} (t : List S62) (h : tstep p n m = some n') : tfold p n (m :: t) = tfold p n' t := by rw [tfold_cons, h]; rfl
def TermB (p : Int) (t : List S62) : Prop := 1 ≤ p ∧ p ≤ 4 ∧ t.length ≤ 15 ∧ tfold p 0 t = some 1
instance (p : Int) (t : List S62) : Decidable (TermB p t) := by unfold TermB; infer_instance
theorem TermB_pos {p : Int} {t : List S62} (h : TermB p t) : 1 ≤ t.length := by
  cases t with
  | nil => have := h.2.2.2; simp [tfold] at this
  | cons => simp
/-- What is known of marks that came in. -/
def MarkW (m : S62) : Prop := -9223372036854775808 ≤ m.f0 ∧ m.f0 ≤ 9223372036854775807 ∧ -9223372036854775808 ≤ m.f1 ∧ m.f1 ≤ 9223372036854775807
theorem rdm (l : List S62) (i : Nat) (h : i < l.length) : rd_T62 l ((i : Nat) : Int) = l[i] := by
  unfold rd_T62
  rw [Int.toNat_natCast, List.getD_eq_getElem?_getD, List.getElem?_eq_getElem h]; rfl
theorem rdm_mid (x r l : List S62) (m : S62) (hl : l = x ++ m :: r) (n : Int) (hn : n = (x.length : Int)) : rd_T62 l n = m := by
  subst hl
  subst hn
  rw [rdm _ _ (by simp), List.getElem_append_right (Nat.le_refl _)]
  simp

/-- A mark of a term. -/
def MOk (p : Int) (m : S62) : Prop := (m.f0 = 0 ∧ 0 ≤ m.f1 ∧ m.f1 < p) ∨ (m.f0 = 1 ∧ 0 ≤ m.f1 ∧ m.f1 ≤ p + 1) ∨ (2 ≤ m.f0 ∧ m.f0 ≤ 5 ∧ m.f1 = 0)
theorem tstep_ok {p n n' : Int} {m : S62} (h : tstep p n m = some n') : MOk p m := by
  unfold tstep at h
  unfold MOk
  by_cases e0 : m.f0 = 0
  · rw [if_pos e0] at h
    by_cases e : 0 ≤ m.f1 ∧ m.f1 < p
    · exact .inl ⟨e0, e.1, e.2⟩
    · rw [if_neg e] at h; cases h
  · rw [if_neg e0] at h
    by_cases e1 : m.f0 = 1
    · rw [if_pos e1] at h
      by_cases e : 0 ≤ m.f1 ∧ m.f1 ≤ p + 1
      · exact .inr (.inl ⟨e1, e.1, e.2⟩)
      · rw [if_neg e] at h; cases h
    · rw [if_neg e1] at h
      by_cases e2 : m.f0 = 2
      · rw [if_pos e2] at h
        by_cases e : m.f1 = 0 ∧ 1 ≤ n
        · exact .inr (.inr ⟨by omega, by omega, e.1⟩)
        · rw [if_neg e] at h; cases h
      · rw [if_neg e2] at h
        by_cases e3 : 3 ≤ m.f0 ∧ m.f0 ≤ 5
        · rw [if_pos e3] at h
          by_cases e : m.f1 = 0 ∧ 2 ≤ n
          · exact .inr (.inr ⟨by omega, by omega, e.1⟩)
          · rw [if_neg e] at h; cases h
        · rw [if_neg e3] at h; cases h
theorem tfold_ok {p : Int} : ∀ {t : List S62} {n n' : Int}, tfold p n t = some n' → ∀ m ∈ t, MOk p m
  | [], _, _, _ => by simp
  | a :: t, n, n', h => by
    rw [tfold_cons] at h
    obtain ⟨q, h1, h2⟩ := Option.bind_eq_some_iff.1 h
    intro m hm
    rcases List.mem_cons.1 hm with rfl | hm
    · exact tstep_ok h1
    · exact tfold_ok h2 m hm
theorem TermB_ok {p : Int} {t : List S62} (h : TermB p t) : ∀ m ∈ t, MOk p m := tfold_ok h.2.2.2

/-! ### terms, part by part -/
theorem tfold_append (p : Int) (a b : List S62) (n : Int) : tfold p n (a ++ b) = (tfold p n a).bind fun n' => tfold p n' b := by
  induction a generalizing n with
  | nil => rfl
  | cons m a ih =>
    rw [List.cons_append, tfold_cons, tfold_cons]
    cases tstep p n m with
    | none => rfl
    | some q => rw [Option.bind_some, Option.bind_some]; exact ih q
theorem tstep_shift {p n n' : Int} {m : S62} (j : Int) (hj : 0 ≤ j) (h : tstep p n m = some n') : tstep p (n + j) m = some (n' + j) := by
  unfold tstep at h ⊢
  by_cases e0 : m.f0 = 0
  · rw [if_pos e0] at h ⊢
    by_cases e : 0 ≤ m.f1 ∧ m.f1 < p
    · rw [if_pos e] at h ⊢
      have := Option.some.inj h
      congr 1; omega
    · rw [if_neg e] at h; cases h
  · rw [if_neg e0] at h ⊢
    by_cases e1 : m.f0 = 1
    · rw [if_pos e1] at h ⊢
      by_cases e : 0 ≤ m.f1 ∧ m.f1 ≤ p + 1
      · rw [if_pos e] at h ⊢
        have := Option.some.inj h
        congr 1; omega
      · rw [if_neg e] at h; cases h
    · rw [if_neg e1] at h ⊢
      by_cases e2 : m.f0 = 2
      · rw [if_pos e2] at h ⊢
        by_cases e : m.f1 = 0 ∧ 1 ≤ n
        · rw [if_pos e] at h
          have := Option.some.inj h
          rw [if_pos (by omega)]; congr 1; omega
        · rw [if_neg e] at h; cases h
      · rw [if_neg e2] at h ⊢
        by_cases e3 : 3 ≤ m.f0 ∧ m.f0 ≤ 5
        · rw [if_pos e3] at h ⊢
          by_cases e : m.f1 = 0 ∧ 2 ≤ n
          · rw [if_pos e] at h
            have := Option.some.inj h
            rw [if_pos (by omega)]; congr 1; omega
          · rw [if_neg e] at h; cases h
        · rw [if_neg e3] at h; cases h
theorem tfold_shift {p : Int} (j : Int) (hj : 0 ≤ j) : ∀ {t : List S62} {n n' : Int}, tfold p n t = some n' → tfold p (n + j) t = some (n' + j)
  | [], n, n', h => by
    have := Option.some.inj (show some n = some n' from h)
    show some (n + j) = some (n' + j)
    rw [this]
  | m :: t, n, n', h => by
    rw [tfold_cons] at h
    obtain ⟨q, h1, h2⟩ := Option.bind_eq_some_iff.1 h
    rw [tfold_cons, tstep_shift j hj h1, Option.bind_some]
    exact tfold_shift j hj h2
/-- One whole term. -/
def Tm (p : Int) (t : List S62) : Prop := tfold p 0 t = some 1
theorem Tm_on {p : Int} {t : List S62} (h : Tm p t) (n : Int) (hn : 0 ≤ n) : tfold p n t = some (n + 1) := by
  have := tfold_shift n hn h
  rwa [Int.zero_add, Int.add_comm 1 n] at this
theorem tstep_cases {p n n' : Int} {m : S62} (h : tstep p n m = some n') :
    (((m.f0 = 0 ∧ 0 ≤ m.f1 ∧ m.f1 < p) ∨ (m.f0 = 1 ∧ 0 ≤ m.f1 ∧ m.f1 ≤ p + 1)) ∧ n' = n + 1) ∨ (m.f0 = 2 ∧ m.f1 = 0 ∧ 1 ≤ n ∧ n' = n) ∨ (3 ≤ m.f0 ∧ m.f0 ≤ 5 ∧ m.f1 = 0 ∧ 2 ≤ n ∧ n' = n - 1) := by
  unfold tstep at h
  by_cases e0 : m.f0 = 0
  · rw [if_pos e0] at h
    by_cases e : 0 ≤ m.f1 ∧ m.f1 < p
    · rw [if_pos e] at h; exact .inl ⟨.inl ⟨e0, e⟩, (Option.some.inj h).symm⟩
    · rw [if_neg e] at h; cases h
  · rw [if_neg e0] at h
    by_cases e1 : m.f0 = 1
    · rw [if_pos e1] at h
      by_cases e : 0 ≤ m.f1 ∧ m.f1 ≤ p + 1
      · rw [if_pos e] at h; exact .inl ⟨.inr ⟨e1, e⟩, (Option.some.inj h).symm⟩
      · rw [if_neg e] at h; cases h
    · rw [if_neg e1] at h
      by_cases e2 : m.f0 = 2
      · rw [if_pos e2] at h
        by_cases e : m.f1 = 0 ∧ 1 ≤ n
        · rw [if_pos e] at h; exact .inr (.inl ⟨e2, e.1, e.2, (Option.some.inj h).symm⟩)
        · rw [if_neg e] at h; cases h
      · rw [if_neg e2] at h
        by_cases e3 : 3 ≤ m.f0 ∧ m.f0 ≤ 5
        · rw [if_pos e3] at h
          by_cases e : m.f1 = 0 ∧ 2 ≤ n
          · rw [if_pos e] at h; exact .inr (.inr ⟨e3.1, e3.2, e.1, e.2, (Option.some.inj h).symm⟩)
          · rw [if_neg e] at h; cases h
        · rw [if_neg e3] at h; cases h
def Leaf (p : Int) (m : S62) : Prop := (m.f0 = 0 ∧ 0 ≤ m.f1 ∧ m.f1 < p) ∨ (m.f0 = 1 ∧ 0 ≤ m.f1 ∧ m.f1 ≤ p + 1)
theorem leaf_step {p : Int} {m : S62} (h : Leaf p m) (n : Int) : tstep p n m = some (n + 1) := by
  unfold tstep
  rcases h with ⟨e, h⟩ | ⟨e, h⟩
  · rw [if_pos e, if_pos h]
  · rw [if_neg (by omega), if_pos e, if_pos h]
theorem not_step {p : Int} {m : S62} (h : m.f0 = 2) (h0 : m.f1 = 0) (n : Int) (hn : 1 ≤ n) : tstep p n m = some n := by
  unfold tstep
  rw [if_neg (by omega), if_neg (by omega), if_pos h, if_pos ⟨h0, hn⟩]
theorem bin_step {p : Int} {m : S62} (h : 3 ≤ m.f0) (h5 : m.f0 ≤ 5) (h0 : m.f1 = 0) (n : Int) (hn : 2 ≤ n) : tstep p n m = some (n - 1) := by
  unfold tstep
  rw [if_neg (by omega), if_neg (by omega), if_neg (by omega), if_pos ⟨h, h5⟩, if_pos ⟨h0, hn⟩]
theorem Tm_leaf {p : Int} {m : S62} (h : Leaf p m) : Tm p [m] := by
  unfold Tm
  rw [tfold_cons, leaf_step h 0]; rfl
theorem Tm_not {p : Int} {a : List S62} {m : S62} (ha : Tm p a) (h : m.f0 = 2) (h0 : m.f1 = 0) : Tm p (a ++ [m]) := by
  unfold Tm at ha ⊢
  rw [tfold_append, ha, Option.bind_some, tfold_cons, not_step h h0 1 (by omega)]; rfl
theorem Tm_bin {p : Int} {a b : List S62} {m : S62} (ha : Tm p a) (hb : Tm p b) (h : 3 ≤ m.f0) (h5 : m.f0 ≤ 5) (h0 : m.f1 = 0) : Tm p (a ++ b ++ [m]) := by
  have h2 := Tm_on hb 1 (by omega)
  unfold Tm at ha ⊢
  rw [tfold_append, tfold_append, ha, Option.bind_some, h2, Option.bind_some, tfold_cons, bin_step h h5 h0 (1 + 1) (by omega)]; rfl
theorem tfold_nonneg {p : Int} : ∀ {t : List S62} {n n' : Int}, 0 ≤ n → tfold p n t = some n' → 0 ≤ n' ∧ (1 ≤ n → 1 ≤ n')
  | [], n, n', h0, h => by
    have := Option.some.inj (show some n = some n' from h)
    omega
  | m :: t, n, n', h0, h => by
    rw [tfold_cons] at h
    obtain ⟨q, h1, h2⟩ := Option.bind_eq_some_iff.1 h
    have hq : 1 ≤ q := by rcases tstep_cases h1 with h | h | h <;> omega
    have := tfold_nonneg (by omega) h2
    exact ⟨this.1, fun _ => this.2 hq⟩
theorem tfold_zero {p : Int} {t : List S62} (h : tfold p 0 t = some 0) : t = [] := by
  cases t with
  | nil => rfl
  | cons m t =>
    rw [tfold_cons] at h
    obtain ⟨q, h1, h2⟩ := Option.bind_eq_some_iff.1 h
    have hq : 1 ≤ q := by rcases tstep_cases h1 with h | h | h <;> omega
    have := (tfold_nonneg (by omega) h2).2 hq
    omega
theorem tfold_last {p n' : Int} {a : List S62} {m : S62} (h : tfold p 0 (a ++ [m]) = some n') : ∃ n, tfold p 0 a = some n ∧ tstep p n m = some n' := by
  rw [tfold_append] at h
  obtain ⟨q, h1, h2⟩ := Option.bind_eq_some_iff.1 h
  refine ⟨q, h1, ?_⟩
  rw [tfold_cons] at h2
  obtain ⟨q2, h3, h4⟩ := Option.bind_eq_some_iff.1 h2
  rw [h3, Option.some.inj (show some q2 = some n' from h4)]
/-- The last term of some. -/
theorem tfold_split {p : Int} (L : Nat) : ∀ (a : List S62) (n : Int), a.length ≤ L → 0 ≤ n → tfold p 0 a = some (n + 1) → ∃ a1 a2, a = a1 ++ a2 ∧ tfold p 0 a1 = some n ∧ Tm p a2 ∧ 0 < a2.length := by
  induction L with
  | zero =>
    intro a n hl hn h
    have : a = [] := List.eq_nil_of_length_eq_zero (by omega)
    subst this
    have := Option.some.inj (show some (0 : Int) = some (n + 1) from h)
    omega
  | succ L ih =>
    intro a n hl hn h
    rcases List.eq_nil_or_concat a with rfl | ⟨b, m, rfl⟩
    · have := Option.some.inj (show some (0 : Int) = some (n + 1) from h)
      omega
    · rw [List.concat_eq_append] at h hl ⊢
      rw [List.length_append, List.length_singleton] at hl
      obtain ⟨q, h1, h2⟩ := tfold_last h
      rcases tstep_cases h2 with ⟨hf, hq⟩ | ⟨e, e0, hn1, hq⟩ | ⟨e3, e5, e0, hn2, hq⟩
      · exact ⟨b, [m], rfl, by rw [h1]; congr 1; omega, Tm_leaf hf, by simp⟩
      · obtain ⟨a1, a2, rfl, ha1, ha2, hp⟩ := ih b n (by omega) hn (by rw [h1]; congr 1; omega)
        exact ⟨a1, a2 ++ [m], by rw [List.append_assoc], ha1, Tm_not ha2 e e0, by simp⟩
      · obtain ⟨b1, b2, rfl, hb1, hb2, hp⟩ := ih b (n + 1) (by omega) (by omega) (by rw [h1]; congr 1; omega)
        rw [List.length_append] at hl
        obtain ⟨c1, c2, rfl, hc1, hc2, hp2⟩ := ih b1 n (by omega) hn hb1
        exact ⟨c1, c2 ++ b2 ++ [m], by simp only [List.append_assoc], hc1, Tm_bin hc2 hb2 e3 e5 e0, by rw [List.length_append, List.length_append, List.length_singleton]; omega⟩
/-- What a term may be. -/
theorem Tm_cases {p : Int} {t : List S62} (h : Tm p t) : (∃ m, t = [m] ∧ Leaf p m) ∨ (∃ a m, t = a ++ [m] ∧ Tm p a ∧ m.f0 = 2 ∧ m.f1 = 0) ∨ (∃ a b m, t = a ++ b ++ [m] ∧ Tm p a ∧ Tm p b ∧ 3 ≤ m.f0 ∧ m.f0 ≤ 5 ∧ m.f1 = 0) := by
  unfold Tm at h
  rcases List.eq_nil_or_concat t with rfl | ⟨b, m, rfl⟩
  · have := Option.some.inj (show some (0 : Int) = some 1 from h)
    omega
  · rw [List.concat_eq_append] at h ⊢
    obtain ⟨q, h1, h2⟩ := tfold_last h
    rcases tstep_cases h2 with ⟨hf, hq⟩ | ⟨e, e0, hn1, hq⟩ | ⟨e3, e5, e0, hn2, hq⟩
    · have : q = 0 := by omega
      subst this
      rw [tfold_zero h1]
      exact .inl ⟨m, rfl, hf⟩
    · have : q = 1 := by omega
      subst this
      exact .inr (.inl ⟨b, m, rfl, h1, e, e0⟩)
    · obtain ⟨a1, a2, rfl, ha1, ha2, _⟩ := tfold_split b.length b 1 (Nat.le_refl _) (by omega) (by rw [h1]; congr 1; omega)
      exact .inr (.inr ⟨a1, a2, m, rfl, ha1, ha2, e3, e5, e0⟩)
theorem Tm_ne {p : Int} {t : List S62} (h : Tm p t) : 0 < t.length := by
  rcases Tm_cases h with ⟨m, rfl, _⟩ | ⟨a, m, rfl, _⟩ | ⟨a, b, m, rfl, _⟩
  · simp
  · simp
  · rw [List.length_append, List.length_append, List.length_singleton]; omega
/-- Induction over terms. -/
theorem Tm_ind {p : Int} (P : List S62 → Prop) (hl : ∀ m, Leaf p m → P [m]) (hn : ∀ a m, Tm p a → m.f0 = 2 → m.f1 = 0 → P a → P (a ++ [m])) (hb : ∀ a b m, Tm p a → Tm p b → 3 ≤ m.f0 → m.f0 ≤ 5 → m.f1 = 0 → P a → P b → P (a ++ b ++ [m])) : ∀ t, Tm p t → P t := by
  have key : ∀ L (t : List S62), t.length ≤ L → Tm p t → P t := by
    intro L
    induction L with
    | zero => intro t h1 h2; have := Tm_ne h2; omega
    | succ L ih =>
      intro t h1 h2
      rcases Tm_cases h2 with ⟨m, rfl, hm⟩ | ⟨a, m, rfl, ha, e, e0⟩ | ⟨a, b, m, rfl, ha, hb', e3, e5, e0⟩
      · exact hl m hm
      · rw [List.length_append, List.length_singleton] at h1
        exact hn a m ha e e0 (ih a (by omega) ha)
      · rw [List.length_append, List.length_append, List.length_singleton] at h1
        have := Tm_ne ha
        have := Tm_ne hb'
        exact hb a b m ha hb' e3 e5 e0 (ih a (by omega) ha) (ih b (by omega) hb')
  exact fun t ht => key t.length t (Nat.le_refl _) ht

/-! ### texts of terms -/
def sw (j k : Int) (s : ByteArray) : ByteArray := if mn (5 - k) 3 < j then (⟨#[40]⟩ : ByteArray) ++ s ++ (⟨#[41]⟩ : ByteArray) else s
def sg (k : Int) : ByteArray := if k = 3 then ⟨#[38]⟩ else if k = 4 then ⟨#[124]⟩ else ⟨#[61]⟩
/-- The text of a mark's part behind the texts of the parts before it, top first, each with its last mark's kind. -/
def xstep (st : List (ByteArray × Int)) (m : S62) : List (ByteArray × Int) :=
  if m.f0 = 0 then (strOfNums [97 + m.f1], 0) :: st
  else if m.f0 = 1 then (strOfNums [48 + m.f1], 1) :: st
  else if m.f0 = 2 then (match st with | s :: r => ((⟨#[33]⟩ : ByteArray) ++ sw 3 s.2 s.1, 2) :: r | [] => [])
  else match st with
    | b :: a :: r => (sw (5 - m.f0) a.2 a.1 ++ sg m.f0 ++ sw (5 - m.f0 + 1) b.2 b.1, m.f0) :: r
    | _ => []
def xrun (st : List (ByteArray × Int)) (t : List S62) : List (ByteArray × Int) := t.foldl xstep st
def tx (t : List S62) : ByteArray × Int := (xrun [] t).headD (⟨#[]⟩, 0)
theorem xrun_append (st : List (ByteArray × Int)) (a b : List S62) : xrun st (a ++ b) = xrun (xrun st a) b := List.foldl_append ..
theorem xrun_Tm {p : Int} : ∀ t : List S62, Tm p t → ∀ st, xrun st t = tx t :: st := by
  apply Tm_ind
  · intro m hm st
    unfold tx xrun
    simp only [List.foldl_cons, List.foldl_nil]
    unfold xstep
    rcases hm with ⟨e, _⟩ | ⟨e, _⟩
    · simp [e]
    · simp [e]
  · intro a m ha e e0 ih st
    unfold tx
    rw [xrun_append, xrun_append, ih st, ih []]
    unfold xrun
    simp only [List.foldl_cons, List.foldl_nil]
    unfold xstep
    simp [e]
  · intro a b m ha hb e3 e5 e0 iha ihb st
    unfold tx
    rw [xrun_append, xrun_append, xrun_append, xrun_append, iha st, iha [], ihb, ihb]
    unfold xrun
    simp only [List.foldl_cons, List.foldl_nil]
    unfold xstep
    simp only [if_neg (show ¬ m.f0 = 0 by omega), if_neg (show ¬ m.f0 = 1 by omega), if_neg (show ¬ m.f0 = 2 by omega)]
    rfl
theorem tx_tells (m : S62) (h : m.f0 = 0) : tx [m] = (strOfNums [97 + m.f1], 0) := by simp [tx, xrun, xstep, h]
theorem tx_count (m : S62) (h : m.f0 = 1) : tx [m] = (strOfNums [48 + m.f1], 1) := by simp [tx, xrun, xstep, h]
theorem tx_not {p : Int} (a : List S62) (m : S62) (ha : Tm p a) (h : m.f0 = 2) : tx (a ++ [m]) = ((⟨#[33]⟩ : ByteArray) ++ sw 3 (tx a).2 (tx a).1, 2) := by
  have := xrun_Tm a ha []
  unfold tx at this ⊢
  rw [xrun_append, this]
  simp [xrun, xstep, h]
theorem tx_bin {p : Int} (a b : List S62) (m : S62) (ha : Tm p a) (hb : Tm p b) (h3 : 3 ≤ m.f0) : tx (a ++ b ++ [m]) = (sw (5 - m.f0) (tx a).2 (tx a).1 ++ sg m.f0 ++ sw (5 - m.f0 + 1) (tx b).2 (tx b).1, m.f0) := by
  have h1 := xrun_Tm a ha []
  have h2 := xrun_Tm b hb (tx a :: [])
  have e : tx (a ++ b ++ [m]) = (xrun [] (a ++ b ++ [m])).headD (⟨#[]⟩, 0) := rfl
  rw [e, xrun_append, xrun_append, h1, h2]
  unfold xrun
  simp only [List.foldl_cons, List.foldl_nil]
  unfold xstep
  simp only [if_neg (show ¬ m.f0 = 0 by omega), if_neg (show ¬ m.f0 = 1 by omega), if_neg (show ¬ m.f0 = 2 by omega)]
  rfl
theorem lastm (x : List S62) (m : S62) : rd_T62 (x ++ [m]) (x.length : Int) = m := rdm_mid x [] (x ++ [m]) m rfl _ rfl
/-- The last mark's kind. -/
theorem tx_kind {p : Int} : ∀ t : List S62, Tm p t → ∃ x m, t = x ++ [m] ∧ (tx t).2 = m.f0 ∧ 0 ≤ m.f0 ∧ m.f0 ≤ 5 := by
  apply Tm_ind
  · intro m hm
    rcases hm with ⟨e, _⟩ | ⟨e, _⟩
    · exact ⟨[], m, rfl, by rw [tx_tells m e]; exact e.symm, by omega, by omega⟩
    · exact ⟨[], m, rfl, by rw [tx_count m e]; exact e.symm, by omega, by omega⟩
  · intro a m ha e e0 _
    exact ⟨a, m, rfl, by rw [tx_not a m ha e]; exact e.symm, by omega, by omega⟩
  · intro a b m ha hb e3 e5 e0 _ _
    exact ⟨a ++ b, m, rfl, by rw [tx_bin a b m ha hb e3], by omega, by omega⟩
theorem sw_size (j k : Int) (s : ByteArray) : (sw j k s).size ≤ s.size + 2 := by
  unfold sw
  split
  · rw [ByteArray.size_append, ByteArray.size_append]
    have e1 : (⟨#[40]⟩ : ByteArray).size = 1 := rfl
    have e2 : (⟨#[41]⟩ : ByteArray).size = 1 := rfl
    omega
  · omega
theorem sg_size (k : Int) : (sg k).size = 1 := by
  unfold sg
  split
  · rfl
  · split <;> rfl
theorem one_size (x : Int) : (strOfNums [x]).size = 1 := rfl
theorem tx_size {p : Int} : ∀ t : List S62, Tm p t → (tx t).1.size ≤ 5 * t.length := by
  apply Tm_ind
  · intro m hm
    rcases hm with ⟨e, _⟩ | ⟨e, _⟩
    · rw [tx_tells m e]; show (strOfNums [97 + m.f1]).size ≤ 5 * 1; rw [one_size]; omega
    · rw [tx_count m e]; show (strOfNums [48 + m.f1]).size ≤ 5 * 1; rw [one_size]; omega
  · intro a m ha e e0 ih
    rw [tx_not a m ha e]
    show ((⟨#[33]⟩ : ByteArray) ++ sw 3 (tx a).2 (tx a).1).size ≤ _
    have e1 : (⟨#[33]⟩ : ByteArray).size = 1 := rfl
    have := sw_size 3 (tx a).2 (tx a).1
    rw [ByteArray.size_append, List.length_append, List.length_singleton]; omega
  · intro a b m ha hb e3 e5 e0 iha ihb
    rw [tx_bin a b m ha hb e3]
    show (sw (5 - m.f0) (tx a).2 (tx a).1 ++ sg m.f0 ++ sw (5 - m.f0 + 1) (tx b).2 (tx b).1).size ≤ _
    have h1 := sw_size (5 - m.f0) (tx a).2 (tx a).1
    have h2 := sw_size (5 - m.f0 + 1) (tx b).2 (tx b).1
    have h3 := sg_size m.f0
    rw [ByteArray.size_append, ByteArray.size_append, List.length_append, List.length_append, List.length_singleton]; omega

/-- The text of a term. -/
def txT (p : Int) (t : List S62) : ByteArray := if TermB p t then (tx t).1 else ⟨#[]⟩

theorem rdh2 (l : List Int) (i : Nat) (h : i < l.length) : rd l ((i : Nat) : Int) = l[i] := by
  unfold rd
  rw [Int.toNat_natCast, List.getD_eq_getElem?_getD, List.getElem?_eq_getElem h]; rfl

theorem people_eq (p : Int) : impl_peopleOk.f p = some (decide (1 ≤ p ∧ p ≤ 4)) := by
  unfold impl_peopleOk.f
  by_cases h : p ≥ 1
  · rw [if_pos h]; congr 1; rw [decide_eq_decide]; omega
  · rw [if_neg h]; congr 1; symm; rw [decide_eq_false_iff_not]; omega

theorem itermok_loop (p : Int) (hp : 1 ≤ p ∧ p ≤ 4) (l : List S62) (hn : l.length ≤ 15) (d : Nat) : ∀ (i : Nat) (n : Int), i + d = l.length → 0 ≤ n → n ≤ i → ∀ k, 2 * d < k →
    impl_TermOk.l0 k p n l (l.length : Int) ((i : Nat) : Int) = some (decide (tfold p n (l.drop i) = some 1)) := by
  induction d with
  | zero =>
    intro i n hi h0 h1 k hk
    obtain ⟨k, rfl⟩ : ∃ m, k = m + 1 := ⟨k - 1, by omega⟩
    rw [impl_TermOk.l0, if_neg (by omega), List.drop_of_length_le (by omega)]
    congr 1; rw [Bool.eq_iff_iff, beq_iff_eq, decide_eq_true_iff]; simp [tfold]
  | succ d ih =>
    intro i n hi h0 h1 k hk
    obtain ⟨k, rfl⟩ : ∃ m, k = m + 2 := ⟨k - 2, by omega⟩
    have hlt : i < l.length := by omega
    have next : ∀ (n' : Int) (k' : Nat), tstep p n l[i] = some n' → 0 ≤ n' → n' ≤ i + 1 → 2 * d < k' →
        impl_TermOk.l0 k' p n' l (l.length : Int) (wrap64 ((i : Int) + 1)) = some (decide (tfold p n (l.drop i) = some 1)) := by
      intro n' k' hs h0' h1' hk'
      have := ih (i + 1) n' (by omega) h0' (by omega) k' hk'
      rw [w64 (by omega) (by omega), show (i : Int) + 1 = ((i + 1 : Nat) : Int) by omega, this, List.drop_eq_getElem_cons hlt, tfold_some _ hs]
    have stop : tstep p n l[i] = none → some false = some (decide (tfold p n (l.drop i) = some 1)) := by
      intro hs
      rw [List.drop_eq_getElem_cons hlt, tfold_none _ hs]; simp
    generalize hgm : l[i] = m at *
    have hrd : rd_T62 l ((i : Nat) : Int) = m := by rw [rdm l i hlt]; exact hgm
    have g2 : ∀ b, (b = true ↔ (3 ≤ m.f0 ∧ m.f0 ≤ 5)) → m.f0 ≠ 0 → m.f0 ≠ 1 → m.f0 ≠ 2 → impl_TermOk.j2 (k + 1) p n l (l.length : Int) ((i : Nat) : Int) b m.f0 m.f1 = some (decide (tfold p n (l.drop i) = some 1)) := by
      intro b hb n0 n1 n2
      rw [impl_TermOk.j2]
      by_cases hbt : b = true
      · have h35 := hb.1 hbt
        rw [if_pos hbt]
        by_cases ha : m.f1 = 0
        · rw [if_pos ha]
          by_cases h2 : n < 2
          · rw [if_pos h2]
            exact stop (by unfold tstep; rw [if_neg n0, if_neg n1, if_neg n2, if_pos h35, if_neg (by omega)])
          · rw [if_neg h2, w64 (x := n - 1) (by omega) (by omega)]
            exact next (n - 1) k (by unfold tstep; rw [if_neg n0, if_neg n1, if_neg n2, if_pos h35, if_pos (by omega)]) (by omega) (by omega) (by omega)
        · rw [if_neg ha]
          exact stop (by unfold tstep; rw [if_neg n0, if_neg n1, if_neg n2, if_pos h35, if_neg (by omega)])
      · have h35 : ¬ (3 ≤ m.f0 ∧ m.f0 ≤ 5) := fun h => hbt (hb.2 h)
        rw [if_neg hbt]
        exact stop (by unfold tstep; rw [if_neg n0, if_neg n1, if_neg n2, if_neg h35])
    rw [show k + 2 = (k + 1) + 1 from rfl, impl_TermOk.l0, if_pos (by omega), if_pos (by omega), if_pos (by omega), hrd]
    by_cases e0 : m.f0 = 0
    · rw [if_pos e0]
      by_cases e1 : m.f1 < 0
      · rw [if_pos e1]; exact stop (by unfold tstep; rw [if_pos e0, if_neg (by omega)])
      · rw [if_neg e1]
        by_cases e2 : m.f1 ≥ p
        · rw [if_pos e2]; exact stop (by unfold tstep; rw [if_pos e0, if_neg (by omega)])
        · rw [if_neg e2, w64 (x := n + 1) (by omega) (by omega)]
          exact next (n + 1) (k + 1) (by unfold tstep; rw [if_pos e0, if_pos (by omega)]) (by omega) (by omega) (by omega)
    · rw [if_neg e0]
      by_cases e1 : m.f0 = 1
      · rw [if_pos e1]
        by_cases e2 : m.f1 < 0
        · rw [if_pos e2]; exact stop (by unfold tstep; rw [if_neg e0, if_pos e1, if_neg (by omega)])
        · rw [if_neg e2, w64 (x := p + 1) (by omega) (by omega)]
          by_cases e3 : m.f1 > p + 1
          · rw [if_pos e3]; exact stop (by unfold tstep; rw [if_neg e0, if_pos e1, if_neg (by omega)])
          · rw [if_neg e3, w64 (x := n + 1) (by omega) (by omega)]
            exact next (n + 1) (k + 1) (by unfold tstep; rw [if_neg e0, if_pos e1, if_pos (by omega)]) (by omega) (by omega) (by omega)
      · rw [if_neg e1]
        by_cases e2 : m.f0 = 2
        · rw [if_pos e2]
          by_cases e3 : m.f1 = 0
          · rw [if_pos e3]
            by_cases e4 : n < 1
            · rw [if_pos e4]; exact stop (by unfold tstep; rw [if_neg e0, if_neg e1, if_pos e2, if_neg (by omega)])
            · rw [if_neg e4]
              exact next n (k + 1) (by unfold tstep; rw [if_neg e0, if_neg e1, if_pos e2, if_pos (by omega)]) (by omega) (by omega) (by omega)
          · rw [if_neg e3]; exact stop (by unfold tstep; rw [if_neg e0, if_neg e1, if_pos e2, if_neg (by omega)])
        · rw [if_neg e2]
          by_cases e3 : m.f0 = 3
          · rw [if_pos e3]; exact g2 _ (by rw [beq_iff_eq]; omega) e0 e1 e2
          · rw [if_neg e3]
            by_cases e4 : m.f0 = 4
            · rw [if_pos e4]; exact g2 _ (by rw [beq_iff_eq]; omega) e0 e1 e2
            · rw [if_neg e4]; exact g2 _ (by rw [beq_iff_eq]; omega) e0 e1 e2
theorem itermok (p : Int) (l : List S62) (k : Nat) (hk : 32 < k) : impl_TermOk.f k p l = some (decide (TermB p l)) := by
  unfold impl_TermOk.f
  obtain ⟨k, rfl⟩ : ∃ m, k = m + 1 := ⟨k - 1, by omega⟩
  rw [people_eq, Option.bind_some]
  by_cases hp : 1 ≤ p ∧ p ≤ 4
  · rw [if_pos (by simpa using hp)]
    by_cases h1 : (l.length : Int) < 1
    · rw [if_pos h1, impl_TermOk.j0, if_pos rfl]
      congr 1; symm; rw [decide_eq_false_iff_not]; intro h; have := TermB_pos h; omega
    · rw [if_neg h1, impl_TermOk.j0]
      by_cases h2 : (l.length : Int) > 15
      · rw [if_pos (by simpa using h2)]
        congr 1; symm; rw [decide_eq_false_iff_not]; intro h; have := h.2.2.1; omega
      · rw [if_neg (by simpa using h2)]
        have := itermok_loop p hp l (by omega) l.length 0 0 (by omega) (by omega) (by omega) k (by omega)
        rw [show ((0 : Nat) : Int) = 0 from rfl] at this
        rw [this, List.drop_zero]
        congr 1; rw [decide_eq_decide]; unfold TermB
        constructor
        · intro h; exact ⟨hp.1, hp.2, by omega, h⟩
        · intro h; exact h.2.2.2
  · rw [if_neg (by simpa using hp), impl_TermOk.j0, if_pos rfl]
    congr 1; symm; rw [decide_eq_false_iff_not]; intro h; exact hp ⟨h.1, h.2.1⟩

/-- Backwards over one part. -/
theorem lpart {p : Int} : ∀ b : List S62, Tm p b → ∃ c, c ≤ 3 * b.length ∧ ∀ (x y : List S62) (n : Int) (K : Nat), 1 ≤ n → n ≤ 1000 - (b.length : Int) → x.length + b.length ≤ 1000 →
    impl_lastPart.l0 (K + c) (x ++ b ++ y) n ((x.length + b.length : Nat) - 1 : Int) = if n = 1 then some (x.length : Int) else impl_lastPart.l0 K (x ++ b ++ y) (n - 1) ((x.length : Int) - 1) := by
  apply Tm_ind
  · intro m hm
    refine ⟨2, by simp, fun x y n K h1 h2 h3 => ?_⟩
    have hr : rd_T62 (x ++ [m] ++ y) ((x.length + [m].length : Nat) - 1 : Int) = m := rdm_mid x y _ m (by simp) _ (by simp)
    have hl : (x ++ [m] ++ y).length = x.length + 1 + y.length := by simp only [List.length_append, List.length_singleton]
    have hb1 : [m].length = 1 := rfl
    rw [impl_lastPart.l0, if_pos (by omega), if_pos (by omega), hr]
    have fin : impl_lastPart.j1 (K + 1) (x ++ [m] ++ y) n ((x.length + [m].length : Nat) - 1 : Int) m.f0 true = if n = 1 then some (x.length : Int) else impl_lastPart.l0 K (x ++ [m] ++ y) (n - 1) ((x.length : Int) - 1) := by
      rw [impl_lastPart.j1, if_pos rfl, w64 (x := n - 1) (by omega) (by omega)]
      by_cases c : n = 1
      · rw [if_pos c, if_pos (by omega)]; congr 1; omega
      · rw [if_neg c, if_neg (by omega), w64 (by omega) (by omega)]; congr 1; omega
    rcases hm with ⟨e, _⟩ | ⟨e, _⟩
    · have e2 : (m.f0 == 0) = true := by rw [beq_iff_eq]; exact e
      rw [if_pos e, e2]; exact fin
    · have e2 : (m.f0 == 1) = true := by rw [beq_iff_eq]; exact e
      rw [if_neg (by omega), e2]; exact fin
  · intro a m ha e e0 ih
    obtain ⟨c, hc, ih⟩ := ih
    have hn1 : (a ++ [m]).length = a.length + 1 := by simp
    refine ⟨c + 3, by omega, fun x y n K h1 h2 h3 => ?_⟩
    have hr : rd_T62 (x ++ (a ++ [m]) ++ y) ((x.length + (a ++ [m]).length : Nat) - 1 : Int) = m := rdm_mid (x ++ a) y _ m (by simp) _ (by rw [hn1, List.length_append]; omega)
    have hl : (x ++ (a ++ [m]) ++ y).length = x.length + (a.length + 1) + y.length := by simp only [List.length_append, List.length_singleton]
    have e1 : (m.f0 == 1) = false := by rw [beq_eq_false_iff_ne]; omega
    have e5 : (m.f0 == 5) = false := by rw [beq_eq_false_iff_ne]; omega
    have := ih x ([m] ++ y) n K h1 (by omega) (by omega)
    have el : x ++ a ++ ([m] ++ y) = x ++ (a ++ [m]) ++ y := by simp
    rw [el] at this
    rw [show K + (c + 3) = (K + c + 2) + 1 by omega, impl_lastPart.l0, if_pos (by omega), if_pos (by omega), hr, if_neg (by omega), e1, impl_lastPart.j1, if_neg (by decide), if_neg (by omega), if_neg (by omega), e5, impl_lastPart.j2, if_neg (by decide), if_neg (by omega), w64 (by omega) (by omega), ← this]
    congr 1; omega
  · intro a b m ha hb e3 e5 e0 iha ihb
    obtain ⟨ca, hca, iha⟩ := iha
    obtain ⟨cb, hcb, ihb⟩ := ihb
    have hn1 : (a ++ b ++ [m]).length = a.length + b.length + 1 := by simp only [List.length_append, List.length_singleton]
    refine ⟨cb + ca + 3, by omega, fun x y n K h1 h2 h3 => ?_⟩
    have hr : rd_T62 (x ++ (a ++ b ++ [m]) ++ y) ((x.length + (a ++ b ++ [m]).length : Nat) - 1 : Int) = m := rdm_mid (x ++ a ++ b) y _ m (by simp) _ (by rw [hn1, List.length_append, List.length_append]; omega)
    have hl : (x ++ (a ++ b ++ [m]) ++ y).length = x.length + (a.length + b.length + 1) + y.length := by simp only [List.length_append, List.length_singleton]
    have e1 : (m.f0 == 1) = false := by rw [beq_eq_false_iff_ne]; omega
    have hxa : (x ++ a).length = x.length + a.length := List.length_append ..
    have tb := ihb (x ++ a) ([m] ++ y) (n + 1) (K + ca) (by omega) (by omega) (by omega)
    have ta := iha x (b ++ ([m] ++ y)) n K h1 (by omega) (by omega)
    have el : x ++ a ++ b ++ ([m] ++ y) = x ++ (a ++ b ++ [m]) ++ y := by simp
    have el2 : x ++ a ++ (b ++ ([m] ++ y)) = x ++ (a ++ b ++ [m]) ++ y := by simp
    rw [el, if_neg (by omega)] at tb
    rw [el2] at ta
    have fin : impl_lastPart.j2 (K + ca + cb + 1) (x ++ (a ++ b ++ [m]) ++ y) n ((x.length + (a ++ b ++ [m]).length : Nat) - 1 : Int) true = if n = 1 then some (x.length : Int) else impl_lastPart.l0 K (x ++ (a ++ b ++ [m]) ++ y) (n - 1) ((x.length : Int) - 1) := by
      rw [impl_lastPart.j2, if_pos rfl, w64 (x := n + 1) (by omega) (by omega), if_neg (by omega), w64 (by omega) (by omega), ← ta, show ((x.length + (a ++ b ++ [m]).length : Nat) - 1 - 1 : Int) = (((x ++ a).length + b.length : Nat) - 1 : Int) by omega, tb]
      congr 1 <;> omega
    rw [show K + (cb + ca + 3) = (K + ca + cb + 2) + 1 by omega, impl_lastPart.l0, if_pos (by omega), if_pos (by omega), hr, if_neg (by omega), e1, impl_lastPart.j1, if_neg (by decide)]
    by_cases c3 : m.f0 = 3
    · have : (m.f0 == 3) = true := by rw [beq_iff_eq]; exact c3
      rw [if_pos c3, this]; exact fin
    · by_cases c4 : m.f0 = 4
      · have : (m.f0 == 4) = true := by rw [beq_iff_eq]; exact c4
        rw [if_neg c3, if_pos c4, this]; exact fin
      · have : (m.f0 == 5) = true := by rw [beq_iff_eq]; omega
        rw [if_neg c3, if_neg c4, this]; exact fin
theorem ilast {p : Int} (a b : List S62) (hb : Tm p b) (hl : a.length + b.length ≤ 900) (k : Nat) (hk : 3 * b.length < k) : impl_lastPart.f k (a ++ b) = some (a.length : Int) := by
  obtain ⟨c, hc, h⟩ := lpart b hb
  have := h a [] 1 (k - c) (by omega) (by omega) (by omega)
  rw [if_pos rfl, List.append_nil, show k - c + c = k by omega] at this
  unfold impl_lastPart.f
  have hn : (a ++ b).length = a.length + b.length := List.length_append ..
  rw [w64 (by omega) (by omega), hn]
  exact this
/-- In brackets, if the last mark is one of some kinds. -/
theorem iheld_loop (x : List S62) (m : S62) (s : ByteArray) (L : List Int) (hs : s.size ≤ 1000) (hx : x.length ≤ 1000) (hL : L.length ≤ 10) (d : Nat) : ∀ (i : Nat), i + d = L.length → ∀ k, d < k →
    impl_held.l0 k (x ++ [m]) s L (L.length : Int) (i : Int) = some (if m.f0 ∈ L.drop i then (⟨#[40]⟩ : ByteArray) ++ s ++ (⟨#[41]⟩ : ByteArray) else s) := by
  have hn : (x ++ [m]).length = x.length + 1 := by simp
  have hr : rd_T62 (x ++ [m]) (wrap64 (((x ++ [m]).length : Int) - 1)) = m := by
    rw [w64 (by omega) (by omega), show (((x ++ [m]).length : Int) - 1) = (x.length : Int) by omega]; exact lastm x m
  have hw : wrap64 (((x ++ [m]).length : Int) - 1) = (x.length : Int) := by rw [w64 (by omega) (by omega)]; omega
  induction d with
  | zero =>
    intro i hi k hk
    obtain ⟨k, rfl⟩ : ∃ m, k = m + 1 := ⟨k - 1, by omega⟩
    rw [impl_held.l0, if_neg (by omega), List.drop_of_length_le (by omega)]; simp
  | succ d ih =>
    intro i hi k hk
    obtain ⟨k, rfl⟩ : ∃ m, k = m + 1 := ⟨k - 1, by omega⟩
    have e1 : (⟨#[40]⟩ : ByteArray).size = 1 := rfl
    have hw2 : wrap64 ((i : Int) + 1) = ((i + 1 : Nat) : Int) := by rw [w64 (by omega) (by omega)]; omega
    rw [impl_held.l0, if_pos (by omega), if_pos (by omega), if_pos (by omega), hr, hw, if_pos (by omega), if_pos (by omega), rdh2 L i (by omega), List.drop_eq_getElem_cons (by omega)]
    by_cases h : m.f0 = L[i]'(by omega)
    · rw [if_pos h, if_pos (by omega), if_pos (by rw [ByteArray.size_append]; omega), if_pos (by rw [h]; exact List.mem_cons_self)]
    · rw [if_neg h, hw2, ih (i + 1) (by omega) k (by omega)]
      have e : (m.f0 ∈ L[i]'(by omega) :: L.drop (i + 1)) ↔ m.f0 ∈ L.drop (i + 1) := by
        rw [List.mem_cons]; exact ⟨fun h' => h'.elim (fun e => absurd e h) id, Or.inr⟩
      by_cases c : m.f0 ∈ L.drop (i + 1)
      · rw [if_pos c, if_pos (e.2 c)]
      · rw [if_neg c, if_neg (fun h' => c (e.1 h'))]
theorem iheld {p : Int} (t : List S62) (ht : Tm p t) (hl : t.length ≤ 100) (L : List Int) (hL : L.length ≤ 3) (j : Int) (hj : ∀ q, 0 ≤ q → q ≤ 5 → (q ∈ L ↔ mn (5 - q) 3 < j)) (k : Nat) (hk : 4 ≤ k) (h : impl_textOf.f k t = some (tx t).1) : impl_held.f (k + 1) t L = some (sw j (tx t).2 (tx t).1) := by
  obtain ⟨x, m, e, ek, h0, h5⟩ := tx_kind t ht
  have hs := tx_size t ht
  have hn : t.length = x.length + 1 := by rw [e]; simp
  rw [impl_held.f, h, Option.bind_some]
  have := iheld_loop x m (tx t).1 L (by omega) (by omega) (by omega) L.length 0 (by omega) k (by omega)
  rw [← e] at this
  rw [show (0 : Int) = ((0 : Nat) : Int) from rfl, this, List.drop_zero]
  unfold sw
  rw [ek]
  by_cases c : m.f0 ∈ L
  · rw [if_pos c, if_pos ((hj _ h0 h5).1 c)]
  · rw [if_neg c, if_neg (fun hh => c ((hj _ h0 h5).2 hh))]
theorem k345 : ∀ q : Int, 0 ≤ q → q ≤ 5 → (q ∈ [(3 : Int), 4, 5] ↔ mn (5 - q) 3 < 3) := by
  intro q h0 h5
  simp only [List.mem_cons, List.not_mem_nil, or_false]
  unfold mn
  split <;> omega
theorem k45 : ∀ q : Int, 0 ≤ q → q ≤ 5 → (q ∈ [(4 : Int), 5] ↔ mn (5 - q) 3 < 2) := by
  intro q h0 h5
  simp only [List.mem_cons, List.not_mem_nil, or_false]
  unfold mn
  split <;> omega
theorem k5 : ∀ q : Int, 0 ≤ q → q ≤ 5 → (q ∈ [(5 : Int)] ↔ mn (5 - q) 3 < 1) := by
  intro q h0 h5
  simp only [List.mem_cons, List.not_mem_nil, or_false]
  unfold mn
  split <;> omega
theorem sw0 {p : Int} (t : List S62) (ht : Tm p t) : sw 0 (tx t).2 (tx t).1 = (tx t).1 := by
  obtain ⟨x, m, e, ek, h0, h5⟩ := tx_kind t ht
  unfold sw
  rw [if_neg]
  rw [ek]; unfold mn; split <;> omega
theorem itext {p : Int} (hp : p ≤ 4) : ∀ t : List S62, Tm p t → t.length ≤ 100 → ∀ k, 6 * t.length + 10 < k → impl_textOf.f k t = some (tx t).1 := by
  apply Tm_ind
  · intro m hm hl k hk
    obtain ⟨k, rfl⟩ : ∃ m, k = m + 1 := ⟨k - 1, by omega⟩
    have hn : ([m].length : Int) = 1 := rfl
    have hr : rd_T62 [m] 0 = m := rfl
    rw [impl_textOf.f, hn, w64 (by omega) (by omega), show (1 : Int) - 1 = 0 from rfl, if_pos (by omega), if_pos (by omega), hr]
    rcases hm with ⟨e, h0, h1⟩ | ⟨e, h0, h1⟩
    · rw [if_pos e, tx_tells m e, w64 (by omega) (by omega), show (97 + m.f1) % 256 = 97 + m.f1 by omega]
    · rw [if_neg (by omega), if_pos e, tx_count m e, w64 (by omega) (by omega), show (48 + m.f1) % 256 = 48 + m.f1 by omega]
  · intro a m ha e e0 ih hl k hk
    have hn1 : (a ++ [m]).length = a.length + 1 := by simp
    obtain ⟨k, rfl⟩ : ∃ m, k = m + 1 + 1 := ⟨k - 2, by omega⟩
    have hw : wrap64 (((a ++ [m]).length : Int) - 1) = (a.length : Int) := by rw [w64 (by omega) (by omega)]; omega
    have hs := tx_size a ha
    have hs2 := sw_size 3 (tx a).2 (tx a).1
    rw [impl_textOf.f, hw, if_pos (by omega), if_pos (by omega), lastm a m, if_neg (by omega), if_neg (by omega), if_pos e, if_pos (by omega), Int.toNat_natCast, List.take_left, iheld a ha (by omega) [3, 4, 5] (by simp) 3 k345 k (by omega) (ih (by omega) k (by omega)), Option.bind_some, if_pos (by omega), tx_not a m ha e]
  · intro a b m ha hb e3 e5 e0 iha ihb hl k hk
    have hn1 : (a ++ b ++ [m]).length = a.length + b.length + 1 := by simp only [List.length_append, List.length_singleton]
    have hab : (a ++ b).length = a.length + b.length := List.length_append ..
    obtain ⟨k, rfl⟩ : ∃ m, k = m + 1 + 1 := ⟨k - 2, by omega⟩
    have hw : wrap64 (((a ++ b ++ [m]).length : Int) - 1) = ((a ++ b).length : Int) := by rw [w64 (by omega) (by omega)]; omega
    have tk : (a ++ b ++ [m]).take (a ++ b).length = a ++ b := List.take_left
    have tk2 : (a ++ b ++ [m]).take a.length = a := by rw [List.append_assoc]; exact List.take_left
    have dr : (a ++ b).drop a.length = b := List.drop_left
    have na := Tm_ne ha
    have nb := Tm_ne hb
    have sa := tx_size a ha
    have sb := tx_size b hb
    have hA := iha (by omega) k (by omega)
    have hA1 := iha (by omega) (k + 1) (by omega)
    have hB := ihb (by omega) k (by omega)
    have z1 := sw_size (5 - m.f0) (tx a).2 (tx a).1
    have z2 := sw_size (5 - m.f0 + 1) (tx b).2 (tx b).1
    have q1 : (⟨#[38]⟩ : ByteArray).size = 1 := rfl
    have q2 : (⟨#[124]⟩ : ByteArray).size = 1 := rfl
    have q3 : (⟨#[61]⟩ : ByteArray).size = 1 := rfl
    rw [impl_textOf.f, hw, if_pos (by omega), if_pos (by omega), lastm (a ++ b) m, if_neg (by omega), if_neg (by omega), if_neg (by omega), if_pos (by omega)]
    simp only [Int.toNat_natCast]
    rw [tk, ilast a b hb (by omega) (k + 1) (by omega)]
    simp only [Option.bind_some, Int.toNat_natCast]
    rw [if_pos (by omega), if_pos (by omega), if_pos (by omega), tk2, dr, tx_bin a b m ha hb e3]
    by_cases c3 : m.f0 = 3
    · have s2 : (5 : Int) - m.f0 = 2 := by omega
      rw [s2] at z1 z2 ⊢
      rw [show (2 : Int) + 1 = 3 from rfl] at z2 ⊢
      rw [if_pos c3, iheld a ha (by omega) [4, 5] (by simp) 2 k45 k (by omega) hA, Option.bind_some, if_pos (by omega), iheld b hb (by omega) [3, 4, 5] (by simp) 3 k345 k (by omega) hB, Option.bind_some, if_pos (by rw [ByteArray.size_append]; omega)]
      congr 2
      unfold sg; rw [if_pos c3]
    · by_cases c4 : m.f0 = 4
      · have s2 : (5 : Int) - m.f0 = 1 := by omega
        rw [s2] at z1 z2 ⊢
        rw [show (1 : Int) + 1 = 2 from rfl] at z2 ⊢
        rw [if_neg c3, if_pos c4, iheld a ha (by omega) [5] (by simp) 1 k5 k (by omega) hA, Option.bind_some, if_pos (by omega), iheld b hb (by omega) [4, 5] (by simp) 2 k45 k (by omega) hB, Option.bind_some, if_pos (by rw [ByteArray.size_append]; omega)]
        congr 2
        unfold sg; rw [if_neg c3, if_pos c4]
      · have s2 : (5 : Int) - m.f0 = 0 := by omega
        rw [s2] at z1 z2 ⊢
        rw [show (0 : Int) + 1 = 1 from rfl] at z2 ⊢
        rw [sw0 a ha, if_neg c3, if_neg c4, hA1, Option.bind_some, if_pos (by omega), iheld b hb (by omega) [5] (by simp) 1 k5 k (by omega) hB, Option.bind_some, if_pos (by rw [ByteArray.size_append]; omega)]
        congr 2
        unfold sg; rw [if_neg c3, if_neg c4]
theorem itermtext (p : Int) (t : List S62) (k : Nat) (hk : 110 < k) : impl_TermText.f k p t = some (txT p t) := by
  unfold impl_TermText.f txT
  rw [itermok p t k (by omega), Option.bind_some]
  by_cases hT : TermB p t
  · have h15 := hT.2.2.1
    rw [if_pos (by simpa using hT), if_pos hT, itext hT.2.1 t hT.2.2.2 (by omega) k (by omega)]; rfl
  · rw [if_neg (by simpa using hT), if_neg hT]

theorem starts_ {p : Int} : ∀ b : List S62, Tm p b → ∀ (x y : List S62) (n : Int) (K : Nat), 1 ≤ n → n ≤ 1000 - (b.length : Int) → x.length + b.length ≤ 1000 →
    spec_l2Starts.l0 (K + b.length) (x ++ b ++ y) n ((x.length + b.length : Nat) - 1 : Int) = spec_l2Starts.l0 K (x ++ b ++ y) (n - 1) ((x.length : Int) - 1) := by
  apply Tm_ind
  · intro m hm x y n K h1 h2 h3
    have hr : rd_T62 (x ++ [m] ++ y) ((x.length + [m].length : Nat) - 1 : Int) = m := rdm_mid x y _ m (by simp) _ (by simp)
    have hl : (x ++ [m] ++ y).length = x.length + 1 + y.length := by simp only [List.length_append, List.length_singleton]
    have hb1 : [m].length = 1 := rfl
    have hk : m.f0 ≤ 1 := by rcases hm with ⟨e, _⟩ | ⟨e, _⟩ <;> omega
    rw [show K + [m].length = K + 1 from rfl, spec_l2Starts.l0, if_pos (by omega), if_pos (by omega), if_pos (by omega), hr, if_pos hk, w64 (x := n - 1) (by omega) (by omega), w64 (by omega) (by omega)]
    congr 1; omega
  · intro a m ha e e0 ih x y n K h1 h2 h3
    have hn1 : (a ++ [m]).length = a.length + 1 := by simp
    have hr : rd_T62 (x ++ (a ++ [m]) ++ y) ((x.length + (a ++ [m]).length : Nat) - 1 : Int) = m := rdm_mid (x ++ a) y _ m (by simp) _ (by rw [hn1, List.length_append]; omega)
    have hl : (x ++ (a ++ [m]) ++ y).length = x.length + (a.length + 1) + y.length := by simp only [List.length_append, List.length_singleton]
    have := ih x ([m] ++ y) n K h1 (by omega) (by omega)
    have el : x ++ a ++ ([m] ++ y) = x ++ (a ++ [m]) ++ y := by simp
    rw [el] at this
    rw [show K + (a ++ [m]).length = K + a.length + 1 by omega, spec_l2Starts.l0, if_pos (by omega), if_pos (by omega), if_pos (by omega), hr, if_neg (by omega), if_neg (by omega), w64 (by omega) (by omega), ← this]
    congr 1; omega
  · intro a b m ha hb e3 e5 e0 iha ihb x y n K h1 h2 h3
    have hn1 : (a ++ b ++ [m]).length = a.length + b.length + 1 := by simp only [List.length_append, List.length_singleton]
    have hr : rd_T62 (x ++ (a ++ b ++ [m]) ++ y) ((x.length + (a ++ b ++ [m]).length : Nat) - 1 : Int) = m := rdm_mid (x ++ a ++ b) y _ m (by simp) _ (by rw [hn1, List.length_append, List.length_append]; omega)
    have hl : (x ++ (a ++ b ++ [m]) ++ y).length = x.length + (a.length + b.length + 1) + y.length := by simp only [List.length_append, List.length_singleton]
    have hxa : (x ++ a).length = x.length + a.length := List.length_append ..
    have tb := ihb (x ++ a) ([m] ++ y) (n + 1) (K + a.length) (by omega) (by omega) (by omega)
    have ta := iha x (b ++ ([m] ++ y)) n K h1 (by omega) (by omega)
    have el : x ++ a ++ b ++ ([m] ++ y) = x ++ (a ++ b ++ [m]) ++ y := by simp
    have el2 : x ++ a ++ (b ++ ([m] ++ y)) = x ++ (a ++ b ++ [m]) ++ y := by simp
    rw [el] at tb
    rw [el2] at ta
    rw [show K + (a ++ b ++ [m]).length = K + a.length + b.length + 1 by omega, spec_l2Starts.l0, if_pos (by omega), if_pos (by omega), if_pos (by omega), hr, if_neg (by omega), if_pos (by omega), w64 (x := n + 1) (by omega) (by omega), w64 (by omega) (by omega), ← ta, show ((x.length + (a ++ b ++ [m]).length : Nat) - 1 - 1 : Int) = (((x ++ a).length + b.length : Nat) - 1 : Int) by omega, tb]
    congr 1 <;> omega
theorem starts_eq {p : Int} (a b : List S62) (m : S62) (hb : Tm p b) (hl : a.length + b.length ≤ 900) (k : Nat) (hk : b.length + 1 < k) : spec_l2Starts.f k (a ++ b ++ [m]) ((a.length + b.length : Nat) - 1 : Int) = some (a.length : Int) := by
  have := starts_ b hb a [m] 1 (k - b.length) (by omega) (by omega) (by omega)
  rw [show k - b.length + b.length = k by omega] at this
  unfold spec_l2Starts.f
  rw [this]
  obtain ⟨q, hq⟩ : ∃ q, k - b.length = q + 1 := ⟨k - b.length - 1, by omega⟩
  rw [hq, spec_l2Starts.l0, if_neg (by omega), w64 (by omega) (by omega)]
  congr 1; omega
theorem binds_eq (x : List S62) (m : S62) (h0 : 0 ≤ m.f0 ∧ m.f0 ≤ 5) (hl : x.length ≤ 1000) : spec_l2Binds.f (x ++ [m]) = some (mn (5 - m.f0) 3) := by
  have hn : (x ++ [m]).length = x.length + 1 := by simp
  have hw : wrap64 (((x ++ [m]).length : Int) - 1) = (x.length : Int) := by rw [w64 (by omega) (by omega)]; omega
  unfold spec_l2Binds.f
  rw [hw, if_pos (by omega), if_pos (by omega), lastm, w64 (by omega) (by omega)]
theorem sheld {p : Int} (t : List S62) (ht : Tm p t) (hl : t.length ≤ 100) (j : Int) (k : Nat) (h : spec_l2Text.f k t = some (tx t).1) : spec_l2Held.f (k + 1) t j = some (sw j (tx t).2 (tx t).1) := by
  obtain ⟨x, m, e, ek, h0, h5⟩ := tx_kind t ht
  have hs := tx_size t ht
  have hn : t.length = x.length + 1 := by rw [e]; simp
  have e1 : (⟨#[40]⟩ : ByteArray).size = 1 := rfl
  have hb := binds_eq x m ⟨h0, h5⟩ (by omega)
  rw [← e] at hb
  rw [spec_l2Held.f, hb, Option.bind_some, h]
  unfold sw
  rw [ek]
  by_cases c : mn (5 - m.f0) 3 < j
  · rw [if_pos c, if_pos c, Option.bind_some, if_pos (by omega), if_pos (by rw [ByteArray.size_append]; omega)]
  · rw [if_neg c, if_neg c, Option.bind_some]
theorem letter_eq {x : Int} (h0 : 0 ≤ x) (h1 : x < 4) : (⟨#[97, 98, 99, 100]⟩ : ByteArray).extract x.toNat (x + 1).toNat = strOfNums [97 + x] := by
  rcases (by omega : x = 0 ∨ x = 1 ∨ x = 2 ∨ x = 3) with rfl | rfl | rfl | rfl <;> decide
theorem sign_eq {m : S62} (h3 : 3 ≤ m.f0) (h5 : m.f0 ≤ 5) : (⟨#[38, 124, 61]⟩ : ByteArray).extract (2 - (5 - m.f0)).toNat (3 - (5 - m.f0)).toNat = sg m.f0 := by
  rcases (by omega : m.f0 = 3 ∨ m.f0 = 4 ∨ m.f0 = 5) with e | e | e <;> rw [e] <;> decide
theorem stext {p : Int} (hp : p ≤ 4) : ∀ t : List S62, Tm p t → t.length ≤ 100 → ∀ k, 6 * t.length + 10 < k → spec_l2Text.f k t = some (tx t).1 := by
  apply Tm_ind
  · intro m hm hl k hk
    obtain ⟨k, rfl⟩ : ∃ m, k = m + 1 + 1 := ⟨k - 2, by omega⟩
    have hn : ([m].length : Int) = 1 := rfl
    have hr : rd_T62 [m] 0 = m := rfl
    rw [spec_l2Text.f, hn, w64 (x := (1 : Int) - 1) (by omega) (by omega), show (1 : Int) - 1 = 0 from rfl, if_pos (by omega), if_pos (by omega), hr]
    rcases hm with ⟨e, h0, h1⟩ | ⟨e, h0, h1⟩
    · rw [if_pos e, tx_tells m e, w64 (by omega) (by omega), if_pos h0, if_pos (by omega), if_pos (by omega), letter_eq h0 (by omega)]
    · have hx : mx m.f1 0 = m.f1 := by unfold mx; split <;> omega
      rw [if_neg (by omega), if_pos e, tx_count m e, spec_l1Number.f, if_pos (by omega), hx, w64 (by omega) (by omega), show (48 + m.f1) % 256 = 48 + m.f1 by omega]; rfl
  · intro a m ha e e0 ih hl k hk
    have hn1 : (a ++ [m]).length = a.length + 1 := by simp
    obtain ⟨k, rfl⟩ : ∃ m, k = m + 1 + 1 := ⟨k - 2, by omega⟩
    have hw : wrap64 (((a ++ [m]).length : Int) - 1) = (a.length : Int) := by rw [w64 (by omega) (by omega)]; omega
    have hs := tx_size a ha
    have hs2 := sw_size 3 (tx a).2 (tx a).1
    rw [spec_l2Text.f, hw, if_pos (by omega), if_pos (by omega), lastm a m, if_neg (by omega), if_neg (by omega), if_pos e, if_pos (by omega), Int.toNat_natCast, List.take_left, sheld a ha (by omega) 3 k (ih (by omega) k (by omega)), Option.bind_some, if_pos (by omega), tx_not a m ha e]
  · intro a b m ha hb e3 e5 e0 iha ihb hl k hk
    have hn1 : (a ++ b ++ [m]).length = a.length + b.length + 1 := by simp only [List.length_append, List.length_singleton]
    have hab : (a ++ b).length = a.length + b.length := List.length_append ..
    obtain ⟨k, rfl⟩ : ∃ m, k = m + 1 + 1 := ⟨k - 2, by omega⟩
    have hw : wrap64 (((a ++ b ++ [m]).length : Int) - 1) = ((a ++ b).length : Int) := by rw [w64 (by omega) (by omega)]; omega
    have hw2 : wrap64 (((a ++ b).length : Int) - 1) = ((a.length + b.length : Nat) - 1 : Int) := by rw [w64 (by omega) (by omega)]; omega
    have tk : (a ++ b ++ [m]).take (a ++ b).length = a ++ b := List.take_left
    have tk2 : (a ++ b ++ [m]).take a.length = a := by rw [List.append_assoc]; exact List.take_left
    have dr : (a ++ b).drop a.length = b := List.drop_left
    have na := Tm_ne ha
    have nb := Tm_ne hb
    have sa := tx_size a ha
    have sb := tx_size b hb
    have hA := iha (by omega) k (by omega)
    have hB := ihb (by omega) k (by omega)
    have z1 := sw_size (5 - m.f0) (tx a).2 (tx a).1
    have z2 := sw_size (5 - m.f0 + 1) (tx b).2 (tx b).1
    have z3 := sg_size m.f0
    have eb : mn (5 - m.f0) 3 = 5 - m.f0 := by unfold mn; split <;> omega
    rw [spec_l2Text.f, hw, if_pos (by omega), if_pos (by omega), lastm (a ++ b) m, if_neg (by omega), if_neg (by omega), if_neg (by omega), hw2, starts_eq a b m hb (by omega) (k + 1) (by omega), Option.bind_some, binds_eq (a ++ b) m (by omega) (by omega), Option.bind_some, eb, if_pos (by omega), if_pos (by omega)]
    simp only [Int.toNat_natCast]
    rw [tk2, tk, dr, sheld a ha (by omega) (5 - m.f0) k hA, Option.bind_some, w64 (x := 2 - (5 - m.f0)) (by omega) (by omega), w64 (x := 3 - (5 - m.f0)) (by omega) (by omega), w64 (x := 5 - m.f0 + 1) (by omega) (by omega), sign_eq e3 e5, if_pos (by omega), if_pos (by omega), if_pos (by omega), if_pos (by omega), if_pos (by omega), if_pos (by omega), sheld b hb (by omega) (5 - m.f0 + 1) k hB, Option.bind_some, if_pos (by rw [ByteArray.size_append]; omega), tx_bin a b m ha hb e3]

theorem in_eq (a b c : Int) : spec_l1In.f a b c = some (decide (b ≤ a ∧ a ≤ c)) := by
  unfold spec_l1In.f
  by_cases h : a ≥ b
  · rw [if_pos h]; congr 1; rw [decide_eq_decide]; omega
  · rw [if_neg h]; congr 1; symm; rw [decide_eq_false_iff_not]; omega

theorem stermok_loop (p : Int) (hp : -9223372036854775808 ≤ p ∧ p ≤ 9223372036854775807) (l : List S62) (hn : l.length ≤ 1048576) (hw : ∀ m ∈ l, MarkW m) (d : Nat) : ∀ (i : Nat) (n : Int), i + d = l.length → 0 ≤ n → n ≤ i → ∀ k, 4 * d < k →
    spec_TermOk.l0 k p l n ((i : Nat) : Int) = some (decide (tfold p n (l.drop i) = some 1 ∧ 1 ≤ p ∧ p ≤ 4 ∧ l.length ≤ 15)) := by
  induction d with
  | zero =>
    intro i n hi h0 h1 k hk
    obtain ⟨k, rfl⟩ : ∃ m, k = m + 1 := ⟨k - 1, by omega⟩
    rw [spec_TermOk.l0, if_neg (by omega), in_eq, Option.bind_some, List.drop_of_length_le (by omega)]
    by_cases hpp : 1 ≤ p ∧ p ≤ 4
    · rw [if_pos (by simpa using hpp)]
      by_cases hn1 : n = 1
      · rw [if_pos hn1]; congr 1; rw [decide_eq_decide]; simp [tfold, hn1]; omega
      · rw [if_neg hn1]; congr 1; symm; rw [decide_eq_false_iff_not]; simp [tfold, hn1]
    · rw [if_neg (by simpa using hpp)]; congr 1; symm; rw [decide_eq_false_iff_not]; rintro ⟨_, a, b, _⟩; exact hpp ⟨a, b⟩
  | succ d ih =>
    intro i n hi h0 h1 k hk
    obtain ⟨k, rfl⟩ : ∃ m, k = m + 4 := ⟨k - 4, by omega⟩
    have hlt : i < l.length := by omega
    have hm := hw _ (List.getElem_mem hlt)
    unfold MarkW at hm
    have next : ∀ (n' : Int) (k' : Nat), tstep p n l[i] = some n' → 0 ≤ n' → n' ≤ i + 1 → 4 * d < k' →
        spec_TermOk.l0 k' p l n' (wrap64 ((i : Int) + 1)) = some (decide (tfold p n (l.drop i) = some 1 ∧ 1 ≤ p ∧ p ≤ 4 ∧ l.length ≤ 15)) := by
      intro n' k' hs h0' h1' hk'
      have := ih (i + 1) n' (by omega) h0' (by omega) k' hk'
      rw [w64 (by omega) (by omega), show (i : Int) + 1 = ((i + 1 : Nat) : Int) by omega, this, List.drop_eq_getElem_cons hlt, tfold_some _ hs]
    have stop : tstep p n l[i] = none → some false = some (decide (tfold p n (l.drop i) = some 1 ∧ 1 ≤ p ∧ p ≤ 4 ∧ l.length ≤ 15)) := by
      intro hs
      rw [List.drop_eq_getElem_cons hlt, tfold_none _ hs]; simp
    generalize hgm : l[i] = m at *
    have hrd : rd_T62 l ((i : Nat) : Int) = m := by rw [rdm l i hlt]; exact hgm
    -- the ways behind the first two tests
    have g3 : ∀ b, (b = true ↔ (m.f0 = 2 ∧ m.f1 = 0 ∧ n ≥ 1)) → ¬ (m.f0 = 0 ∧ m.f1 ≥ 0 ∧ m.f1 < p) → ¬ (m.f0 = 1 ∧ m.f1 ≥ 0 ∧ m.f1 ≤ p + 1) → spec_TermOk.j3 (k + 1) p l n ((i : Nat) : Int) b = some (decide (tfold p n (l.drop i) = some 1 ∧ 1 ≤ p ∧ p ≤ 4 ∧ l.length ≤ 15)) := by
      intro b hb n0 n1
      rw [spec_TermOk.j3]
      by_cases hbt : b = true
      · have := hb.1 hbt
        rw [if_pos hbt]
        exact next n k (by unfold tstep; rw [if_neg (by omega), if_neg (by omega), if_pos this.1, if_pos (by omega)]) (by omega) (by omega) (by omega)
      · have hb' : ¬ (m.f0 = 2 ∧ m.f1 = 0 ∧ n ≥ 1) := fun h => hbt (hb.2 h)
        rw [if_neg hbt, if_pos (by omega), if_pos (by omega), hrd, in_eq, Option.bind_some]
        by_cases h35 : 3 ≤ m.f0 ∧ m.f0 ≤ 5
        · rw [if_pos (by simpa using h35)]
          by_cases ha : m.f1 = 0
          · rw [if_pos ha]
            by_cases h2 : n ≥ 2
            · rw [if_pos h2, w64 (x := n - 1) (by omega) (by omega)]
              exact next (n - 1) k (by unfold tstep; rw [if_neg (by omega), if_neg (by omega), if_neg (by omega), if_pos h35, if_pos (by omega)]) (by omega) (by omega) (by omega)
            · rw [if_neg h2]
              exact stop (by unfold tstep; rw [if_neg (by omega), if_neg (by omega), if_neg (by omega), if_pos h35, if_neg (by omega)])
          · rw [if_neg ha]
            exact stop (by unfold tstep; rw [if_neg (by omega), if_neg (by omega), if_neg (by omega), if_pos h35, if_neg (by omega)])
        · rw [if_neg (by simpa using h35)]
          refine stop ?_
          unfold tstep
          by_cases e0 : m.f0 = 0
          · rw [if_pos e0, if_neg (by omega)]
          · rw [if_neg e0]
            by_cases e1 : m.f0 = 1
            · rw [if_pos e1, if_neg (by omega)]
            · rw [if_neg e1]
              by_cases e2 : m.f0 = 2
              · rw [if_pos e2, if_neg (by omega)]
              · rw [if_neg e2, if_neg h35]
    have g2 : ∀ b, (b = true ↔ (m.f0 = 1 ∧ m.f1 ≥ 0 ∧ m.f1 ≤ p + 1)) → ¬ (m.f0 = 0 ∧ m.f1 ≥ 0 ∧ m.f1 < p) → spec_TermOk.j2 (k + 2) p l n ((i : Nat) : Int) b = some (decide (tfold p n (l.drop i) = some 1 ∧ 1 ≤ p ∧ p ≤ 4 ∧ l.length ≤ 15)) := by
      intro b hb n0
      rw [spec_TermOk.j2]
      by_cases hbt : b = true
      · have := hb.1 hbt
        rw [if_pos hbt, w64 (x := n + 1) (by omega) (by omega)]
        exact next (n + 1) (k + 1) (by unfold tstep; rw [if_neg (by omega), if_pos this.1, if_pos (by omega)]) (by omega) (by omega) (by omega)
      · have hb' : ¬ (m.f0 = 1 ∧ m.f1 ≥ 0 ∧ m.f1 ≤ p + 1) := fun h => hbt (hb.2 h)
        rw [if_neg hbt, if_pos (by omega), if_pos (by omega), hrd]
        by_cases h2 : (m.f0 == 2 && m.f1 == 0) = true
        · rw [if_pos h2]
          rw [Bool.and_eq_true, beq_iff_eq, beq_iff_eq] at h2
          exact g3 _ (by rw [decide_eq_true_iff]; omega) n0 hb'
        · rw [if_neg h2]
          rw [Bool.and_eq_true, beq_iff_eq, beq_iff_eq] at h2
          exact g3 _ (by simp; omega) n0 hb'
    have g1 : ∀ b, (b = true ↔ (m.f0 = 0 ∧ m.f1 ≥ 0 ∧ m.f1 < p)) → spec_TermOk.j1 (k + 3) p l n ((i : Nat) : Int) b = some (decide (tfold p n (l.drop i) = some 1 ∧ 1 ≤ p ∧ p ≤ 4 ∧ l.length ≤ 15)) := by
      intro b hb
      rw [spec_TermOk.j1]
      by_cases hbt : b = true
      · have := hb.1 hbt
        rw [if_pos hbt, w64 (x := n + 1) (by omega) (by omega)]
        exact next (n + 1) (k + 2) (by unfold tstep; rw [if_pos this.1, if_pos (by omega)]) (by omega) (by omega) (by omega)
      · have hb' : ¬ (m.f0 = 0 ∧ m.f1 ≥ 0 ∧ m.f1 < p) := fun h => hbt (hb.2 h)
        rw [if_neg hbt, if_pos (by omega), if_pos (by omega), hrd]
        by_cases e1 : m.f0 = 1
        · rw [if_pos e1]
          by_cases e2 : m.f1 ≥ 0
          · rw [if_pos e2]
            by_cases e3 : m.f1 ≤ p
            · rw [if_pos e3]; exact g2 _ (by simp; omega) hb'
            · rw [if_neg e3, w64 (x := m.f1 - 1) (by omega) (by omega)]; exact g2 _ (by rw [beq_iff_eq]; omega) hb'
          · rw [if_neg e2]; exact g2 _ (by simp; omega) hb'
        · rw [if_neg e1]; exact g2 _ (by simp; omega) hb'
    rw [show k + 4 = (k + 3) + 1 from rfl, spec_TermOk.l0, if_pos (by omega), if_pos (by omega), hrd]
    by_cases e0 : m.f0 = 0
    · rw [if_pos e0]
      by_cases e1 : m.f1 ≥ 0
      · rw [if_pos e1]; exact g1 _ (by rw [decide_eq_true_iff]; omega)
      · rw [if_neg e1]; exact g1 _ (by simp; omega)
    · rw [if_neg e0]; exact g1 _ (by simp; omega)
theorem stermok (p : Int) (hp : -9223372036854775808 ≤ p ∧ p ≤ 9223372036854775807) (l : List S62) (hn : l.length ≤ 1048576) (hw : ∀ m ∈ l, MarkW m) (k : Nat) (hk : 4 * l.length < k) : spec_TermOk.f k p l = some (decide (TermB p l)) := by
  unfold spec_TermOk.f
  have := stermok_loop p hp l hn hw l.length 0 0 (by omega) (by omega) (by omega) k hk
  rw [show ((0 : Nat) : Int) = 0 from rfl] at this
  rw [this, List.drop_zero]
  congr 1; rw [decide_eq_decide]; unfold TermB
  constructor
  · rintro ⟨a, b, c, d⟩; exact ⟨b, c, d, a⟩
  · rintro ⟨a, b, c, d⟩; exact ⟨d, a, b, c⟩

theorem stermtext (p : Int) (hp : -9223372036854775808 ≤ p ∧ p ≤ 9223372036854775807) (t : List S62) (hn : t.length ≤ 1048576) (hw : ∀ m ∈ t, MarkW m) (k : Nat) (hk : 4 * t.length + 110 < k) : spec_TermText.f k p t = some (txT p t) := by
  unfold spec_TermText.f txT
  rw [stermok p hp t hn hw k (by omega), Option.bind_some]
  by_cases hT : TermB p t
  · have h15 := hT.2.2.1
    rw [if_pos (by simpa using hT), if_pos hT, stext hT.2.1 t hT.2.2.2 (by omega) k (by omega)]; rfl
  · rw [if_neg (by simpa using hT), if_neg hT]

def conv (m : S90) : S62 := ⟨m.f0, m.f1⟩
theorem rdlm (l : List S90) (i : Nat) (h : i < l.length) : rd_T90 l ((i : Nat) : Int) = l[i] := by
  unfold rd_T90
  rw [Int.toNat_natCast, List.getD_eq_getElem?_getD, List.getElem?_eq_getElem h]; rfl
theorem tomarks_loop (l : List S90) (hn : l.length ≤ 1048576) (d : Nat) : ∀ (i : Nat) (o : List S62), i + d = l.length → o.length = l.length → (∀ j, j < i → o[j]? = (l.map conv)[j]?) → ∀ k, d < k → laws_toMarkS.l0 k l o ((i : Nat) : Int) = some (l.map conv) := by
  induction d with
  | zero =>
    intro i o hi ho hj k hk
    obtain ⟨k, rfl⟩ : ∃ m, k = m + 1 := ⟨k - 1, by omega⟩
    rw [laws_toMarkS.l0, if_neg (by omega)]
    congr 1
    apply List.ext_getElem?
    intro j
    by_cases h : j < i
    · exact hj j h
    · rw [List.getElem?_eq_none (by omega), List.getElem?_eq_none (by rw [List.length_map]; omega)]
  | succ d ih =>
    intro i o hi ho hj k hk
    obtain ⟨k, rfl⟩ : ∃ m, k = m + 1 := ⟨k - 1, by omega⟩
    rw [laws_toMarkS.l0, if_pos (by omega), if_pos (by omega), rdlm l i (by omega)]
    unfold laws_toMark.f
    simp only [Option.bind_some]
    rw [if_pos (by omega), w64 (by omega) (by omega), Int.toNat_natCast]
    have := ih (i + 1) (o.set i ⟨l[i].f0, l[i].f1⟩) (by omega) (by rw [List.length_set]; exact ho) (fun j h => by
      rw [List.getElem?_set]
      by_cases e : i = j
      · subst e; rw [if_pos rfl, if_pos (by omega), List.getElem?_map, List.getElem?_eq_getElem (by omega)]; rfl
      · rw [if_neg e]; exact hj j (by omega)) k (by omega)
    rw [show ((i + 1 : Nat) : Int) = (i : Int) + 1 by omega] at this
    exact this
theorem tomarks (l : List S90) (hn : l.length ≤ 1048576) (k : Nat) (hk : l.length < k) : laws_toMarkS.f k l = some (l.map conv) := by
  unfold laws_toMarkS.f
  rw [if_pos (by omega), if_pos (by omega)]
  exact tomarks_loop l hn l.length 0 _ (by omega) (by simp) (fun j h => by omega) k hk

theorem szmarks (l : List S90) (hl : l.length ≤ 9223372036854775807) (a : Int) (ha : 0 ≤ a ∧ a ≤ 1048576) : laws_szMarkS.f l a = some (if a < l.length then -1 else a - l.length) := by
  unfold laws_szMarkS.f
  rw [w64 (by omega) (by omega)]
  by_cases h : a < l.length
  · rw [if_pos (by omega), if_pos h]
  · rw [if_neg (by omega), if_neg h]

theorem eqmarks_loop (l : List S62) (hn : l.length ≤ 1048576) (d : Nat) : ∀ (i : Nat), i + d = l.length → ∀ k, d < k → laws_eqMarkS.l0 k l l ((i : Nat) : Int) = some true := by
  induction d with
  | zero =>
    intro i hi k hk
    obtain ⟨k, rfl⟩ : ∃ m, k = m + 1 := ⟨k - 1, by omega⟩
    rw [laws_eqMarkS.l0, if_neg (by omega)]
  | succ d ih =>
    intro i hi k hk
    obtain ⟨k, rfl⟩ : ∃ m, k = m + 1 := ⟨k - 1, by omega⟩
    have := ih (i + 1) (by omega) k (by omega)
    rw [show ((i + 1 : Nat) : Int) = (i : Int) + 1 by omega] at this
    rw [laws_eqMarkS.l0, if_pos (by omega), if_pos (by omega), if_pos (by omega)]
    unfold laws_eqMark.f
    rw [if_pos rfl, if_pos rfl, Option.bind_some, if_pos rfl, w64 (by omega) (by omega)]
    exact this
theorem eqmarks_self (l : List S62) (hn : l.length ≤ 1048576) (k : Nat) (hk : l.length < k) : laws_eqMarkS.f k l l = some true := by
  unfold laws_eqMarkS.f
  rw [if_pos rfl]
  exact eqmarks_loop l hn l.length 0 (by omega) k hk

theorem conv_w (l : List S90) (hw : ∀ x ∈ l, (Lit.int .i64 x.f0).wf = true ∧ (Lit.int .i64 x.f1).wf = true) : ∀ m ∈ l.map conv, MarkW m := by
  intro m hm
  obtain ⟨x, hx, rfl⟩ := List.mem_map.1 hm
  have := hw x hx
  have h0 := wf64 this.1
  have h1 := wf64 this.2
  exact ⟨h0.1, h0.2, h1.1, h1.2⟩

/-! ### the law -/
theorem FnExactTermText (a0 : Int) (l1 : List S90) (w0 : (Lit.int .i64 a0).wf = true) (hl : l1.length ≤ 9223372036854775807) (hw : ∀ x ∈ l1, (Lit.int .i64 x.f0).wf = true ∧ (Lit.int .i64 x.f1).wf = true) : ∃ k, laws_FnExactTermText.f k a0 l1 = some true := by
  refine ⟨4 * l1.length + 160, ?_⟩
  unfold laws_FnExactTermText.f
  rw [szmarks l1 hl 1048576 (by omega), Option.bind_some]
  by_cases h : (1048576 : Int) < l1.length
  · rw [if_pos h, if_pos (by omega)]
  · have hn : l1.length ≤ 1048576 := by omega
    have hc : (l1.map conv).length = l1.length := List.length_map ..
    rw [if_neg h, if_neg (by omega), tomarks l1 hn _ (by omega)]
    simp only [Option.bind_some]
    rw [stermtext a0 (wf64 w0) _ (by omega) (conv_w l1 hw) _ (by omega)]
    simp only [Option.bind_some]
    rw [itermtext a0 _ _ (by omega)]
    simp only [Option.bind_some]
    rw [if_pos trivial, eqmarks_self _ (by omega) _ (by omega), Option.bind_some, if_pos rfl]

end Go.Proofs.Ytfhmafmfaoknlaa.Pure
