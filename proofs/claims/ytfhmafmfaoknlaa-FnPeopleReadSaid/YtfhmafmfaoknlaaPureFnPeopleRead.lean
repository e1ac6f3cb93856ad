/- Proved: FnPeopleRead returns true for every code of bytes. No condition. -/
import Derived.Test.YtfhmafmfaoknlaaPFnPeopleReadx8
import Derived.Laws.BitsLemmas
import Derived.Laws.BitsAllLaws
namespace Go.Proofs.Ytfhmafmfaoknlaa.Pure
open Go.RowKit Go.Proofs.Ytfhmafmfaoknlaa.PFnPeopleRead Go.Proofs.YtfhmafmfaoknlaaW.PrintWords Go.Proofs.YtfhmafmfaoknlaaW.PrintLast Go.Proofs.YtfhmafmfaoknlaaW.PrintMore
set_option linter.unusedVariables false
set_option linter.unusedSimpArgs false

/-! ### base: whole numbers -/
theorem w64 {x : Int} (h0 : -9223372036854775808 ≤ x) (h1 : x ≤ 9223372036854775807) : wrap64 x = x := by
  unfold wrap64; omega
theorem wf64 {x : Int} (h : (Lit.int .i64 x).wf = true) : -9223372036854775808 ≤ x ∧ x ≤ 9223372036854775807 := by
  simp only [Lit.wf, IntKind.min, IntKind.max, IntKind.signed, IntKind.bits, Bool.and_eq_true, decide_eq_true_eq, if_true] at h
  omega
theorem wf8 {x : Int} (h : (Lit.int .u8 x).wf = true) : 0 ≤ x ∧ x ≤ 255 := by
  simp only [Lit.wf, IntKind.min, IntKind.max, IntKind.signed, IntKind.bits, Bool.and_eq_true, decide_eq_true_eq] at h
  simpa using h
theorem ofInt_i64 (a : Nat) (ha : a < 18446744073709551616) : (BitVec.ofInt 64 (a : Int)).toNat = a := by
  rw [BitVec.ofInt_natCast, BitVec.toNat_ofNat]; exact Nat.mod_eq_of_lt (by omega)
theorem wrapi (x : Nat) (h : x < 9223372036854775808) : IntKind.i64.wrap (x : Int) = x := by
  rw [IntKind.wrap_i64]; omega
theorem or64 (a b : Nat) (ha : a < 4611686018427387904) (hb : b < 4611686018427387904) : Go.bits .or .i64 (a : Int) (b : Int) = ((a ||| b : Nat) : Int) := by
  have hx : a ||| b < 2 ^ 62 := Nat.or_lt_two_pow (by omega) (by omega)
  show IntKind.i64.wrap ((BitVec.ofInt 64 (a : Int) ||| BitVec.ofInt 64 (b : Int)).toNat : Int) = _
  rw [BitVec.toNat_or, ofInt_i64 a (by omega), ofInt_i64 b (by omega), wrapi _ (by omega)]
theorem and64 (a b : Nat) (ha : a < 4611686018427387904) (hb : b < 4611686018427387904) : Go.bits .and .i64 (a : Int) (b : Int) = ((a &&& b : Nat) : Int) := by
  have hx : a &&& b < 2 ^ 62 := Nat.and_lt_two_pow _ (by omega)
  show IntKind.i64.wrap ((BitVec.ofInt 64 (a : Int) &&& BitVec.ofInt 64 (b : Int)).toNat : Int) = _
  rw [BitVec.toNat_and, ofInt_i64 a (by omega), ofInt_i64 b (by omega), wrapi _ (by omega)]
theorem xor64 (a b : Nat) (ha : a < 4611686018427387904) (hb : b < 4611686018427387904) : Go.bits .xor .i64 (a : Int) (b : Int) = ((a ^^^ b : Nat) : Int) := by
  have hx : a ^^^ b < 2 ^ 62 := Nat.xor_lt_two_pow (by omega) (by omega)
  show IntKind.i64.wrap ((BitVec.ofInt 64 (a : Int) ^^^ BitVec.ofInt 64 (b : Int)).toNat : Int) = _
  rw [BitVec.toNat_xor, ofInt_i64 a (by omega), ofInt_i64 b (by omega), wrapi _ (by omega)]
theorem andnot64 (a b : Nat) (ha : a < 4611686018427387904) (hb : b < 4611686018427387904) : Go.bits .andNot .i64 (a : Int) (b : Int) = ((a &&& (18446744073709551615 - b) : Nat) : Int) := by
  have hx : a &&& (18446744073709551615 - b) < 2 ^ 62 := Nat.lt_of_le_of_lt Nat.and_le_left (by omega)
  show IntKind.i64.wrap ((BitVec.ofInt 64 (a : Int) &&& ~~~BitVec.ofInt 64 (b : Int)).toNat : Int) = _
  rw [BitVec.toNat_and, BitVec.toNat_not, ofInt_i64 a (by omega), ofInt_i64 b (by omega)]
  have e : 2 ^ 64 - 1 - b = 18446744073709551615 - b := by omega
  rw [e, wrapi _ (by omega)]
/-- So many worlds; so many tables. -/
def pw (p : Int) : Int := 2 ^ p.toNat
def tw (p : Int) : Int := 2 ^ (2 ^ p.toNat)
theorem p4 {p : Int} (h0 : 1 ≤ p) (h1 : p ≤ 4) : p = 1 ∨ p = 2 ∨ p = 3 ∨ p = 4 := by omega
theorem pw_of {p : Int} (h0 : 1 ≤ p) (h1 : p ≤ 4) : 2 ≤ pw p ∧ pw p ≤ 16 := by
  rcases p4 h0 h1 with rfl | rfl | rfl | rfl <;> decide
theorem tw_of {p : Int} (h0 : 1 ≤ p) (h1 : p ≤ 4) : 4 ≤ tw p ∧ tw p ≤ 65536 := by
  rcases p4 h0 h1 with rfl | rfl | rfl | rfl <;> decide
theorem tw_pw {p : Int} (h0 : 1 ≤ p) (h1 : p ≤ 4) : tw p = 2 ^ (pw p).toNat := by
  rcases p4 h0 h1 with rfl | rfl | rfl | rfl <;> decide
theorem shl_pw {p : Int} (h0 : 1 ≤ p) (h1 : p ≤ 4) : shl .i64 1 p = pw p := by
  rcases p4 h0 h1 with rfl | rfl | rfl | rfl <;> decide
theorem shlu_pw {p : Int} (h0 : 1 ≤ p) (h1 : p ≤ 4) : shl .u64 1 p = pw p := by
  rcases p4 h0 h1 with rfl | rfl | rfl | rfl <;> decide
theorem shl_tw {p : Int} (h0 : 1 ≤ p) (h1 : p ≤ 4) : shl .i64 1 (pw p) = tw p := by
  rcases p4 h0 h1 with rfl | rfl | rfl | rfl <;> decide
/-- A shift of a small number by a small count. -/
theorem shl_nat (x n : Nat) (hn : n ≤ 16) (hx : x ≤ 65536) : shl .i64 (x : Int) (n : Int) = ((x * 2 ^ n : Nat) : Int) := by
  unfold shl
  have e : min ((n : Int).toNat) (IntKind.i64.bits) = n := by simp [IntKind.bits]; omega
  rw [e]
  have hp : 2 ^ n ≤ 2 ^ 16 := Nat.pow_le_pow_right (by decide) hn
  have hm : x * 2 ^ n ≤ 65536 * 2 ^ 16 := Nat.mul_le_mul hx hp
  have e2 : (x : Int) * 2 ^ n = ((x * 2 ^ n : Nat) : Int) := by simp
  rw [e2, wrapi _ (by omega)]
theorem shr_nat (x n : Nat) (hn : n ≤ 16) : shr .i64 (x : Int) (n : Int) = ((x / 2 ^ n : Nat) : Int) := by
  unfold shr
  have e : min ((n : Int).toNat) (IntKind.i64.bits) = n := by simp [IntKind.bits]; omega
  rw [e]
  simp

/-- Terms: how the number of parts goes on at a mark. -/
def tstep (p n : Int) (m : S62) : Option Int :=
  if m.f0 = 0 then (if 0 ≤ m.f1 ∧ m.f1 < p then some (n + 1) else none)
  else if m.f0 = 1 then (if 0 ≤ m.f1 ∧ m.f1 ≤ p + 1 then some (n + 1) else none)
  else if m.f0 = 2 then (if m.f1 = 0 ∧ 1 ≤ n then some n else none)
  else if 3 ≤ m.f0 ∧ m.f0 ≤ 5 then (if m.f1 = 0 ∧ 2 ≤ n then some (n - 1) else none)
  else none
def tfold (p : Int) : Int → List S62 → Option Int
  | n, [] => some n
  | n, m :: t => (tstep p n m).bind fun n' => tfold p n' t
theorem tfold_cons (p n : Int) (m : S62) (t : List S62) : tfold p n (m :: t) = (tstep p n m).bind fun n' => tfold p n' t := rfl
theorem tfold_none {p n : Int} {m : S62} (t : List S62) (h : tstep p n m = none) : tfold p n (m :: t) = none := by rw [tfold_cons, h]; rfl
theorem tfold_some {p n n' : Int} {m : S62} (t : List S62) (h : tstep p n m = some n') : tfold p n (m :: t) = tfold p n' t := by rw [tfold_cons, h]; rfl
def TermB (p : Int) (t : List S62) : Prop := 1 ≤ p ∧ p ≤ 4 ∧ t.length ≤ 15 ∧ tfold p 0 t = some 1
instance (p : Int) (t : List S62) : Decidable (TermB p t) := by unfold TermB; infer_instance
theorem TermB_pos {p : Int} {t : List S62} (h : TermB p t) : 1 ≤ t.length := by
  cases t with
  | nil => have := h.2.2.2; simp [tfold] at this
  | cons => simp
/-- What is known of marks that came in. -/
def MarkW (m : S62) : Prop := -9223372036854775808 ≤ m.f0 ∧ m.f0 ≤ 9223372036854775807 ∧ -9223372036854775808 ≤ m.f1 ∧ m.f1 ≤ 9223372036854775807
theorem rdm (l : List S62) (i : Nat) (h : i < l.length) : rd_T62 l ((i : Nat) : Int) = l[i] := by
  unfold rd_T62
  rw [Int.toNat_natCast, List.getD_eq_getElem?_getD, List.getElem?_eq_getElem h]; rfl
theorem rdm_mid (x r l : List S62) (m : S62) (hl : l = x ++ m :: r) (n : Int) (hn : n = (x.length : Int)) : rd_T62 l n = m := by
  subst hl
  subst hn
  rw [rdm _ _ (by simp), List.getElem_append_right (Nat.le_refl _)]
  simp

/-- A mark of a term. -/
def MOk (p : Int) (m : S62) : Prop := (m.f0 = 0 ∧ 0 ≤ m.f1 ∧ m.f1 < p) ∨ (m.f0 = 1 ∧ 0 ≤ m.f1 ∧ m.f1 ≤ p + 1) ∨ (2 ≤ m.f0 ∧ m.f0 ≤ 5 ∧ m.f1 = 0)
theorem tstep_ok {p n n' : Int} {m : S62} (h : tstep p n m = some n') : MOk p m := by
  unfold tstep at h
  unfold MOk
  by_cases e0 : m.f0 = 0
  · rw [if_pos e0] at h
    by_cases e : 0 ≤ m.f1 ∧ m.f1 < p
    · exact .inl ⟨e0, e.1, e.2⟩
    · rw [if_neg e] at h; cases h
  · rw [if_neg e0] at h
    by_cases e1 : m.f0 = 1
    · rw [if_pos e1] at h
      by_cases e : 0 ≤ m.f1 ∧ m.f1 ≤ p + 1
      · exact .inr (.inl ⟨e1, e.1, e.2⟩)
      · rw [if_neg e] at h; cases h
    · rw [if_neg e1] at h
      by_cases e2 : m.f0 = 2
      · rw [if_pos e2] at h
        by_cases e : m.f1 = 0 ∧ 1 ≤ n
        · exact .inr (.inr ⟨by omega, by omega, e.1⟩)
        · rw [if_neg e] at h; cases h
      · rw [if_neg e2] at h
        by_cases e3 : 3 ≤ m.f0 ∧ m.f0 ≤ 5
        · rw [if_pos e3] at h
          by_cases e : m.f1 = 0 ∧ 2 ≤ n
          · exact .inr (.inr ⟨by omega, by omega, e.1⟩)
          · rw [if_neg e] at h; cases h
        · rw [if_neg e3] at h; cases h
theorem tfold_ok {p : Int} : ∀ {t : List S62} {n n' : Int}, tfold p n t = some n' → ∀ m ∈ t, MOk p m
  | [], _, _, _ => by simp
  | a :: t, n, n', h => by
    rw [tfold_cons] at h
    obtain ⟨q, h1, h2⟩ := Option.bind_eq_some_iff.1 h
    intro m hm
    rcases List.mem_cons.1 hm with rfl | hm
    · exact tstep_ok h1
    · exact tfold_ok h2 m hm
theorem TermB_ok {p : Int} {t : List S62} (h : TermB p t) : ∀ m ∈ t, MOk p m := tfold_ok h.2.2.2

/-! ### terms, part by part -/
theorem tfold_append (p : Int) (a b : List S62) (n : Int) : tfold p n (a ++ b) = (tfold p n a).bind fun n' => tfold p n' b := by
  induction a generalizing n with
  | nil => rfl
  | cons m a ih =>
    rw [List.cons_append, tfold_cons, tfold_cons]
    cases tstep p n m with
    | none => rfl
    | some q => rw [Option.bind_some, Option.bind_some]; exact ih q
theorem tstep_shift {p n n' : Int} {m : S62} (j : Int) (hj : 0 ≤ j) (h : tstep p n m = some n') : tstep p (n + j) m = some (n' + j) := by
  unfold tstep at h ⊢
  by_cases e0 : m.f0 = 0
  · rw [if_pos e0] at h ⊢
    by_cases e : 0 ≤ m.f1 ∧ m.f1 < p
    · rw [if_pos e] at h ⊢
      have := Option.some.inj h
      congr 1; omega
    · rw [if_neg e] at h; cases h
  · rw [if_neg e0] at h ⊢
    by_cases e1 : m.f0 = 1
    · rw [if_pos e1] at h ⊢
      by_cases e : 0 ≤ m.f1 ∧ m.f1 ≤ p + 1
      · rw [if_pos e] at h ⊢
        have := Option.some.inj h
        congr 1; omega
      · rw [if_neg e] at h; cases h
    · rw [if_neg e1] at h ⊢
      by_cases e2 : m.f0 = 2
      · rw [if_pos e2] at h ⊢
        by_cases e : m.f1 = 0 ∧ 1 ≤ n
        · rw [if_pos e] at h
          have := Option.some.inj h
          rw [if_pos (by omega)]; congr 1; omega
        · rw [if_neg e] at h; cases h
      · rw [if_neg e2] at h ⊢
        by_cases e3 : 3 ≤ m.f0 ∧ m.f0 ≤ 5
        · rw [if_pos e3] at h ⊢
          by_cases e : m.f1 = 0 ∧ 2 ≤ n
          · rw [if_pos e] at h
            have := Option.some.inj h
            rw [if_pos (by omega)]; congr 1; omega
          · rw [if_neg e] at h; cases h
        · rw [if_neg e3] at h; cases h
theorem tfold_shift {p : Int} (j : Int) (hj : 0 ≤ j) : ∀ {t : List S62} {n n' : Int}, tfold p n t = some n' → tfold p (n + j) t = some (n' + j)
  | [], n, n', h => by
    have := Option.some.inj (show some n = some n' from h)
    show some (n + j) = some (n' + j)
    rw [this]
  | m :: t, n, n', h => by
    rw [tfold_cons] at h
    obtain ⟨q, h1, h2⟩ := Option.bind_eq_some_iff.1 h
    rw [tfold_cons, tstep_shift j hj h1, Option.bind_some]
    exact tfold_shift j hj h2
/-- One whole term. -/
def Tm (p : Int) (t : List S62) : Prop := tfold p 0 t = some 1
theorem Tm_on {p : Int} {t : List S62} (h : Tm p t) (n : Int) (hn : 0 ≤ n) : tfold p n t = some (n + 1) := by
  have := tfold_shift n hn h
  rwa [Int.zero_add, Int.add_comm 1 n] at this
theorem tstep_cases {p n n' : Int} {m : S62} (h : tstep p n m = some n') :
    (((m.f0 = 0 ∧ 0 ≤ m.f1 ∧ m.f1 < p) ∨ (m.f0 = 1 ∧ 0 ≤ m.f1 ∧ m.f1 ≤ p + 1)) ∧ n' = n + 1) ∨ (m.f0 = 2 ∧ m.f1 = 0 ∧ 1 ≤ n ∧ n' = n) ∨ (3 ≤ m.f0 ∧ m.f0 ≤ 5 ∧ m.f1 = 0 ∧ 2 ≤ n ∧ n' = n - 1) := by
  unfold tstep at h
  by_cases e0 : m.f0 = 0
  · rw [if_pos e0] at h
    by_cases e : 0 ≤ m.f1 ∧ m.f1 < p
    · rw [if_pos e] at h; exact .inl ⟨.inl ⟨e0, e⟩, (Option.some.inj h).symm⟩
    · rw [if_neg e] at h; cases h
  · rw [if_neg e0] at h
    by_cases e1 : m.f0 = 1
    · rw [if_pos e1] at h
      by_cases e : 0 ≤ m.f1 ∧ m.f1 ≤ p + 1
      · rw [if_pos e] at h; exact .inl ⟨.inr ⟨e1, e⟩, (Option.some.inj h).symm⟩
      · rw [if_neg e] at h; cases h
    · rw [if_neg e1] at h
      by_cases e2 : m.f0 = 2
      · rw [if_pos e2] at h
        by_cases e : m.f1 = 0 ∧ 1 ≤ n
        · rw [if_pos e] at h; exact .inr (.inl ⟨e2, e.1, e.2, (Option.some.inj h).symm⟩)
        · rw [if_neg e] at h; cases h
      · rw [if_neg e2] at h
        by_cases e3 : 3 ≤ m.f0 ∧ m.f0 ≤ 5
        · rw [if_pos e3] at h
          by_cases e : m.f1 = 0 ∧ 2 ≤ n
          · rw [if_pos e] at h; exact .inr (.inr ⟨e3.1, e3.2, e.1, e.2, (Option.some.inj h).symm⟩)
          · rw [if_neg e] at h; cases h
        · rw [if_neg e3] at h; cases h
def Leaf (p : Int) (m : S62) : Prop := (m.f0 = 0 ∧ 0 ≤ m.f1 ∧ m.f1 < p) ∨ (m.f0 = 1 ∧ 0 ≤ m.f1 ∧ m.f1 ≤ p + 1)
theorem leaf_step {p : Int} {m : S62} (h : Leaf p m) (n : Int) : tstep p n m = some (n + 1) := by
  unfold tstep
  rcases h with ⟨e, h⟩ | ⟨e, h⟩
  · rw [if_pos e, if_pos h]
  · rw [if_neg (by omega), if_pos e, if_pos h]
theorem not_step {p : Int} {m : S62} (h : m.f0 = 2) (h0 : m.f1 = 0) (n : Int) (hn : 1 ≤ n) : tstep p n m = some n := by
  unfold tstep
  rw [if_neg (by omega), if_neg (by omega), if_pos h, if_pos ⟨h0, hn⟩]
theorem bin_step {p : Int} {m : S62} (h : 3 ≤ m.f0) (h5 : m.f0 ≤ 5) (h0 : m.f1 = 0) (n : Int) (hn : 2 ≤ n) : tstep p n m = some (n - 1) := by
  unfold tstep
  rw [if_neg (by omega), if_neg (by omega), if_neg (by omega), if_pos ⟨h, h5⟩, if_pos ⟨h0, hn⟩]
theorem Tm_leaf {p : Int} {m : S62} (h : Leaf p m) : Tm p [m] := by
  unfold Tm
  rw [tfold_cons, leaf_step h 0]; rfl
theorem Tm_not {p : Int} {a : List S62} {m : S62} (ha : Tm p a) (h : m.f0 = 2) (h0 : m.f1 = 0) : Tm p (a ++ [m]) := by
  unfold Tm at ha ⊢
  rw [tfold_append, ha, Option.bind_some, tfold_cons, not_step h h0 1 (by omega)]; rfl
theorem Tm_bin {p : Int} {a b : List S62} {m : S62} (ha : Tm p a) (hb : Tm p b) (h : 3 ≤ m.f0) (h5 : m.f0 ≤ 5) (h0 : m.f1 = 0) : Tm p (a ++ b ++ [m]) := by
  have h2 := Tm_on hb 1 (by omega)
  unfold Tm at ha ⊢
  rw [tfold_append, tfold_append, ha, Option.bind_some, h2, Option.bind_some, tfold_cons, bin_step h h5 h0 (1 + 1) (by omega)]; rfl
theorem tfold_nonneg {p : Int} : ∀ {t : List S62} {n n' : Int}, 0 ≤ n → tfold p n t = some n' → 0 ≤ n' ∧ (1 ≤ n → 1 ≤ n')
  | [], n, n', h0, h => by
    have := Option.some.inj (show some n = some n' from h)
    omega
  | m :: t, n, n', h0, h => by
    rw [tfold_cons] at h
    obtain ⟨q, h1, h2⟩ := Option.bind_eq_some_iff.1 h
    have hq : 1 ≤ q := by rcases tstep_cases h1 with h | h | h <;> omega
    have := tfold_nonneg (by omega) h2
    exact ⟨this.1, fun _ => this.2 hq⟩
theorem tfold_zero {p : Int} {t : List S62} (h : tfold p 0 t = some 0) : t = [] := by
  cases t with
  | nil => rfl
  | cons m t =>
    rw [tfold_cons] at h
    obtain ⟨q, h1, h2⟩ := Option.bind_eq_some_iff.1 h
    have hq : 1 ≤ q := by rcases tstep_cases h1 with h | h | h <;> omega
    have := (tfold_nonneg (by omega) h2).2 hq
    omega
theorem tfold_last {p n' : Int} {a : List S62} {m : S62} (h : tfold p 0 (a ++ [m]) = some n') : ∃ n, tfold p 0 a = some n ∧ tstep p n m = some n' := by
  rw [tfold_append] at h
  obtain ⟨q, h1, h2⟩ := Option.bind_eq_some_iff.1 h
  refine ⟨q, h1, ?_⟩
  rw [tfold_cons] at h2
  obtain ⟨q2, h3, h4⟩ := Option.bind_eq_some_iff.1 h2
  rw [h3, Option.some.inj (show some q2 = some n' from h4)]
/-- The last term of some. -/
theorem tfold_split {p : Int} (L : Nat) : ∀ (a : List S62) (n : Int), a.length ≤ L → 0 ≤ n → tfold p 0 a = some (n + 1) → ∃ a1 a2, a = a1 ++ a2 ∧ tfold p 0 a1 = some n ∧ Tm p a2 ∧ 0 < a2.length := by
  induction L with
  | zero =>
    intro a n hl hn h
    have : a = [] := List.eq_nil_of_length_eq_zero (by omega)
    subst this
    have := Option.some.inj (show some (0 : Int) = some (n + 1) from h)
    omega
  | succ L ih =>
    intro a n hl hn h
    rcases List.eq_nil_or_concat a with rfl | ⟨b, m, rfl⟩
    · have := Option.some.inj (show some (0 : Int) = some (n + 1) from h)
      omega
    · rw [List.concat_eq_append] at h hl ⊢
      rw [List.length_append, List.length_singleton] at hl
      obtain ⟨q, h1, h2⟩ := tfold_last h
      rcases tstep_cases h2 with ⟨hf, hq⟩ | ⟨e, e0, hn1, hq⟩ | ⟨e3, e5, e0, hn2, hq⟩
      · exact ⟨b, [m], rfl, by rw [h1]; congr 1; omega, Tm_leaf hf, by simp⟩
      · obtain ⟨a1, a2, rfl, ha1, ha2, hp⟩ := ih b n (by omega) hn (by rw [h1]; congr 1; omega)
        exact ⟨a1, a2 ++ [m], by rw [List.append_assoc], ha1, Tm_not ha2 e e0, by simp⟩
      · obtain ⟨b1, b2, rfl, hb1, hb2, hp⟩ := ih b (n + 1) (by omega) (by omega) (by rw [h1]; congr 1; omega)
        rw [List.length_append] at hl
        obtain ⟨c1, c2, rfl, hc1, hc2, hp2⟩ := ih b1 n (by omega) hn hb1
        exact ⟨c1, c2 ++ b2 ++ [m], by simp only [List.append_assoc], hc1, Tm_bin hc2 hb2 e3 e5 e0, by rw [List.length_append, List.length_append, List.length_singleton]; omega⟩
/-- What a term may be. -/
theorem Tm_cases {p : Int} {t : List S62} (h : Tm p t) : (∃ m, t = [m] ∧ Leaf p m) ∨ (∃ a m, t = a ++ [m] ∧ Tm p a ∧ m.f0 = 2 ∧ m.f1 = 0) ∨ (∃ a b m, t = a ++ b ++ [m] ∧ Tm p a ∧ Tm p b ∧ 3 ≤ m.f0 ∧ m.f0 ≤ 5 ∧ m.f1 = 0) := by
  unfold Tm at h
  rcases List.eq_nil_or_concat t with rfl | ⟨b, m, rfl⟩
  · have := Option.some.inj (show some (0 : Int) = some 1 from h)
    omega
  · rw [List.concat_eq_append] at h ⊢
    obtain ⟨q, h1, h2⟩ := tfold_last h
    rcases tstep_cases h2 with ⟨hf, hq⟩ | ⟨e, e0, hn1, hq⟩ | ⟨e3, e5, e0, hn2, hq⟩
    · have : q = 0 := by omega
      subst this
      rw [tfold_zero h1]
      exact .inl ⟨m, rfl, hf⟩
    · have : q = 1 := by omega
      subst this
      exact .inr (.inl ⟨b, m, rfl, h1, e, e0⟩)
    · obtain ⟨a1, a2, rfl, ha1, ha2, _⟩ := tfold_split b.length b 1 (Nat.le_refl _) (by omega) (by rw [h1]; congr 1; omega)
      exact .inr (.inr ⟨a1, a2, m, rfl, ha1, ha2, e3, e5, e0⟩)
theorem Tm_ne {p : Int} {t : List S62} (h : Tm p t) : 0 < t.length := by
  rcases Tm_cases h with ⟨m, rfl, _⟩ | ⟨a, m, rfl, _⟩ | ⟨a, b, m, rfl, _⟩
  · simp
  · simp
  · rw [List.length_append, List.length_append, List.length_singleton]; omega
/-- Induction over terms. -/
theorem Tm_ind {p : Int} (P : List S62 → Prop) (hl : ∀ m, Leaf p m → P [m]) (hn : ∀ a m, Tm p a → m.f0 = 2 → m.f1 = 0 → P a → P (a ++ [m])) (hb : ∀ a b m, Tm p a → Tm p b → 3 ≤ m.f0 → m.f0 ≤ 5 → m.f1 = 0 → P a → P b → P (a ++ b ++ [m])) : ∀ t, Tm p t → P t := by
  have key : ∀ L (t : List S62), t.length ≤ L → Tm p t → P t := by
    intro L
    induction L with
    | zero => intro t h1 h2; have := Tm_ne h2; omega
    | succ L ih =>
      intro t h1 h2
      rcases Tm_cases h2 with ⟨m, rfl, hm⟩ | ⟨a, m, rfl, ha, e, e0⟩ | ⟨a, b, m, rfl, ha, hb', e3, e5, e0⟩
      · exact hl m hm
      · rw [List.length_append, List.length_singleton] at h1
        exact hn a m ha e e0 (ih a (by omega) ha)
      · rw [List.length_append, List.length_append, List.length_singleton] at h1
        have := Tm_ne ha
        have := Tm_ne hb'
        exact hb a b m ha hb' e3 e5 e0 (ih a (by omega) ha) (ih b (by omega) hb')
  exact fun t ht => key t.length t (Nat.le_refl _) ht

/-! ### texts of terms -/
def sw (j k : Int) (s : ByteArray) : ByteArray := if mn (5 - k) 3 < j then (⟨#[40]⟩ : ByteArray) ++ s ++ (⟨#[41]⟩ : ByteArray) else s
def sg (k : Int) : ByteArray := if k = 3 then ⟨#[38]⟩ else if k = 4 then ⟨#[124]⟩ else ⟨#[61]⟩
/-- The text of a mark's part behind the texts of the parts before it, top first, each with its last mark's kind. -/
def xstep (st : List (ByteArray × Int)) (m : S62) : List (ByteArray × Int) :=
  if m.f0 = 0 then (strOfNums [97 + m.f1], 0) :: st
  else if m.f0 = 1 then (strOfNums [48 + m.f1], 1) :: st
  else if m.f0 = 2 then (match st with | s :: r => ((⟨#[33]⟩ : ByteArray) ++ sw 3 s.2 s.1, 2) :: r | [] => [])
  else match st with
    | b :: a :: r => (sw (5 - m.f0) a.2 a.1 ++ sg m.f0 ++ sw (5 - m.f0 + 1) b.2 b.1, m.f0) :: r
    | _ => []
def xrun (st : List (ByteArray × Int)) (t : List S62) : List (ByteArray × Int) := t.foldl xstep st
def tx (t : List S62) : ByteArray × Int := (xrun [] t).headD (⟨#[]⟩, 0)
theorem xrun_append (st : List (ByteArray × Int)) (a b : List S62) : xrun st (a ++ b) = xrun (xrun st a) b := List.foldl_append ..
theorem xrun_Tm {p : Int} : ∀ t : List S62, Tm p t → ∀ st, xrun st t = tx t :: st := by
  apply Tm_ind
  · intro m hm st
    unfold tx xrun
    simp only [List.foldl_cons, List.foldl_nil]
    unfold xstep
    rcases hm with ⟨e, _⟩ | ⟨e, _⟩
    · simp [e]
    · simp [e]
  · intro a m ha e e0 ih st
    unfold tx
    rw [xrun_append, xrun_append, ih st, ih []]
    unfold xrun
    simp only [List.foldl_cons, List.foldl_nil]
    unfold xstep
    simp [e]
  · intro a b m ha hb e3 e5 e0 iha ihb st
    unfold tx
    rw [xrun_append, xrun_append, xrun_append, xrun_append, iha st, iha [], ihb, ihb]
    unfold xrun
    simp only [List.foldl_cons, List.foldl_nil]
    unfold xstep
    simp only [if_neg (show ¬ m.f0 = 0 by omega), if_neg (show ¬ m.f0 = 1 by omega), if_neg (show ¬ m.f0 = 2 by omega)]
    rfl
theorem tx_tells (m : S62) (h : m.f0 = 0) : tx [m] = (strOfNums [97 + m.f1], 0) := by simp [tx, xrun, xstep, h]
theorem tx_count (m : S62) (h : m.f0 = 1) : tx [m] = (strOfNums [48 + m.f1], 1) := by simp [tx, xrun, xstep, h]
theorem tx_not {p : Int} (a : List S62) (m : S62) (ha : Tm p a) (h : m.f0 = 2) : tx (a ++ [m]) = ((⟨#[33]⟩ : ByteArray) ++ sw 3 (tx a).2 (tx a).1, 2) := by
  have := xrun_Tm a ha []
  unfold tx at this ⊢
  rw [xrun_append, this]
  simp [xrun, xstep, h]
theorem tx_bin {p : Int} (a b : List S62) (m : S62) (ha : Tm p a) (hb : Tm p b) (h3 : 3 ≤ m.f0) : tx (a ++ b ++ [m]) = (sw (5 - m.f0) (tx a).2 (tx a).1 ++ sg m.f0 ++ sw (5 - m.f0 + 1) (tx b).2 (tx b).1, m.f0) := by
  have h1 := xrun_Tm a ha []
  have h2 := xrun_Tm b hb (tx a :: [])
  have e : tx (a ++ b ++ [m]) = (xrun [] (a ++ b ++ [m])).headD (⟨#[]⟩, 0) := rfl
  rw [e, xrun_append, xrun_append, h1, h2]
  unfold xrun
  simp only [List.foldl_cons, List.foldl_nil]
  unfold xstep
  simp only [if_neg (show ¬ m.f0 = 0 by omega), if_neg (show ¬ m.f0 = 1 by omega), if_neg (show ¬ m.f0 = 2 by omega)]
  rfl
theorem lastm (x : List S62) (m : S62) : rd_T62 (x ++ [m]) (x.length : Int) = m := rdm_mid x [] (x ++ [m]) m rfl _ rfl
/-- The last mark's kind. -/
theorem tx_kind {p : Int} : ∀ t : List S62, Tm p t → ∃ x m, t = x ++ [m] ∧ (tx t).2 = m.f0 ∧ 0 ≤ m.f0 ∧ m.f0 ≤ 5 := by
  apply Tm_ind
  · intro m hm
    rcases hm with ⟨e, _⟩ | ⟨e, _⟩
    · exact ⟨[], m, rfl, by rw [tx_tells m e]; exact e.symm, by omega, by omega⟩
    · exact ⟨[], m, rfl, by rw [tx_count m e]; exact e.symm, by omega, by omega⟩
  · intro a m ha e e0 _
    exact ⟨a, m, rfl, by rw [tx_not a m ha e]; exact e.symm, by omega, by omega⟩
  · intro a b m ha hb e3 e5 e0 _ _
    exact ⟨a ++ b, m, rfl, by rw [tx_bin a b m ha hb e3], by omega, by omega⟩
theorem sw_size (j k : Int) (s : ByteArray) : (sw j k s).size ≤ s.size + 2 := by
  unfold sw
  split
  · rw [ByteArray.size_append, ByteArray.size_append]
    have e1 : (⟨#[40]⟩ : ByteArray).size = 1 := rfl
    have e2 : (⟨#[41]⟩ : ByteArray).size = 1 := rfl
    omega
  · omega
theorem sg_size (k : Int) : (sg k).size = 1 := by
  unfold sg
  split
  · rfl
  · split <;> rfl
theorem one_size (x : Int) : (strOfNums [x]).size = 1 := rfl
theorem tx_size {p : Int} : ∀ t : List S62, Tm p t → (tx t).1.size ≤ 5 * t.length := by
  apply Tm_ind
  · intro m hm
    rcases hm with ⟨e, _⟩ | ⟨e, _⟩
    · rw [tx_tells m e]; show (strOfNums [97 + m.f1]).size ≤ 5 * 1; rw [one_size]; omega
    · rw [tx_count m e]; show (strOfNums [48 + m.f1]).size ≤ 5 * 1; rw [one_size]; omega
  · intro a m ha e e0 ih
    rw [tx_not a m ha e]
    show ((⟨#[33]⟩ : ByteArray) ++ sw 3 (tx a).2 (tx a).1).size ≤ _
    have e1 : (⟨#[33]⟩ : ByteArray).size = 1 := rfl
    have := sw_size 3 (tx a).2 (tx a).1
    rw [ByteArray.size_append, List.length_append, List.length_singleton]; omega
  · intro a b m ha hb e3 e5 e0 iha ihb
    rw [tx_bin a b m ha hb e3]
    show (sw (5 - m.f0) (tx a).2 (tx a).1 ++ sg m.f0 ++ sw (5 - m.f0 + 1) (tx b).2 (tx b).1).size ≤ _
    have h1 := sw_size (5 - m.f0) (tx a).2 (tx a).1
    have h2 := sw_size (5 - m.f0 + 1) (tx b).2 (tx b).1
    have h3 := sg_size m.f0
    rw [ByteArray.size_append, ByteArray.size_append, List.length_append, List.length_append, List.length_singleton]; omega

/-- The text of a term. -/
def txT (p : Int) (t : List S62) : ByteArray := if TermB p t then (tx t).1 else ⟨#[]⟩

theorem rdh2 (l : List Int) (i : Nat) (h : i < l.length) : rd l ((i : Nat) : Int) = l[i] := by
  unfold rd
  rw [Int.toNat_natCast, List.getD_eq_getElem?_getD, List.getElem?_eq_getElem h]; rfl

theorem people_eq (p : Int) : impl_peopleOk.f p = some (decide (1 ≤ p ∧ p ≤ 4)) := by
  unfold impl_peopleOk.f
  by_cases h : p ≥ 1
  · rw [if_pos h]; congr 1; rw [decide_eq_decide]; omega
  · rw [if_neg h]; congr 1; symm; rw [decide_eq_false_iff_not]; omega

theorem itermok_loop (p : Int) (hp : 1 ≤ p ∧ p ≤ 4) (l : List S62) (hn : l.length ≤ 15) (d : Nat) : ∀ (i : Nat) (n : Int), i + d = l.length → 0 ≤ n → n ≤ i → ∀ k, 2 * d < k →
    impl_TermOk.l0 k p n l (l.length : Int) ((i : Nat) : Int) = some (decide (tfold p n (l.drop i) = some 1)) := by
  induction d with
  | zero =>
    intro i n hi h0 h1 k hk
    obtain ⟨k, rfl⟩ : ∃ m, k = m + 1 := ⟨k - 1, by omega⟩
    rw [impl_TermOk.l0, if_neg (by omega), List.drop_of_length_le (by omega)]
    congr 1; rw [Bool.eq_iff_iff, beq_iff_eq, decide_eq_true_iff]; simp [tfold]
  | succ d ih =>
    intro i n hi h0 h1 k hk
    obtain ⟨k, rfl⟩ : ∃ m, k = m + 2 := ⟨k - 2, by omega⟩
    have hlt : i < l.length := by omega
    have next : ∀ (n' : Int) (k' : Nat), tstep p n l[i] = some n' → 0 ≤ n' → n' ≤ i + 1 → 2 * d < k' →
        impl_TermOk.l0 k' p n' l (l.length : Int) (wrap64 ((i : Int) + 1)) = some (decide (tfold p n (l.drop i) = some 1)) := by
      intro n' k' hs h0' h1' hk'
      have := ih (i + 1) n' (by omega) h0' (by omega) k' hk'
      rw [w64 (by omega) (by omega), show (i : Int) + 1 = ((i + 1 : Nat) : Int) by omega, this, List.drop_eq_getElem_cons hlt, tfold_some _ hs]
    have stop : tstep p n l[i] = none → some false = some (decide (tfold p n (l.drop i) = some 1)) := by
      intro hs
      rw [List.drop_eq_getElem_cons hlt, tfold_none _ hs]; simp
    generalize hgm : l[i] = m at *
    have hrd : rd_T62 l ((i : Nat) : Int) = m := by rw [rdm l i hlt]; exact hgm
    have g2 : ∀ b, (b = true ↔ (3 ≤ m.f0 ∧ m.f0 ≤ 5)) → m.f0 ≠ 0 → m.f0 ≠ 1 → m.f0 ≠ 2 → impl_TermOk.j2 (k + 1) p n l (l.length : Int) ((i : Nat) : Int) b m.f0 m.f1 = some (decide (tfold p n (l.drop i) = some 1)) := by
      intro b hb n0 n1 n2
      rw [impl_TermOk.j2]
      by_cases hbt : b = true
      · have h35 := hb.1 hbt
        rw [if_pos hbt]
        by_cases ha : m.f1 = 0
        · rw [if_pos ha]
          by_cases h2 : n < 2
          · rw [if_pos h2]
            exact stop (by unfold tstep; rw [if_neg n0, if_neg n1, if_neg n2, if_pos h35, if_neg (by omega)])
          · rw [if_neg h2, w64 (x := n - 1) (by omega) (by omega)]
            exact next (n - 1) k (by unfold tstep; rw [if_neg n0, if_neg n1, if_neg n2, if_pos h35, if_pos (by omega)]) (by omega) (by omega) (by omega)
        · rw [if_neg ha]
          exact stop (by unfold tstep; rw [if_neg n0, if_neg n1, if_neg n2, if_pos h35, if_neg (by omega)])
      · have h35 : ¬ (3 ≤ m.f0 ∧ m.f0 ≤ 5) := fun h => hbt (hb.2 h)
        rw [if_neg hbt]
        exact stop (by unfold tstep; rw [if_neg n0, if_neg n1, if_neg n2, if_neg h35])
    rw [show k + 2 = (k + 1) + 1 from rfl, impl_TermOk.l0, if_pos (by omega), if_pos (by omega), if_pos (by omega), hrd]
    by_cases e0 : m.f0 = 0
    · rw [if_pos e0]
      by_cases e1 : m.f1 < 0
      · rw [if_pos e1]; exact stop (by unfold tstep; rw [if_pos e0, if_neg (by omega)])
      · rw [if_neg e1]
        by_cases e2 : m.f1 ≥ p
        · rw [if_pos e2]; exact stop (by unfold tstep; rw [if_pos e0, if_neg (by omega)])
        · rw [if_neg e2, w64 (x := n + 1) (by omega) (by omega)]
          exact next (n + 1) (k + 1) (by unfold tstep; rw [if_pos e0, if_pos (by omega)]) (by omega) (by omega) (by omega)
    · rw [if_neg e0]
      by_cases e1 : m.f0 = 1
      · rw [if_pos e1]
        by_cases e2 : m.f1 < 0
        · rw [if_pos e2]; exact stop (by unfold tstep; rw [if_neg e0, if_pos e1, if_neg (by omega)])
        · rw [if_neg e2, w64 (x := p + 1) (by omega) (by omega)]
          by_cases e3 : m.f1 > p + 1
          · rw [if_pos e3]; exact stop (by unfold tstep; rw [if_neg e0, if_pos e1, if_neg (by omega)])
          · rw [if_neg e3, w64 (x := n + 1) (by omega) (by omega)]
            exact next (n + 1) (k + 1) (by unfold tstep; rw [if_neg e0, if_pos e1, if_pos (by omega)]) (by omega) (by omega) (by omega)
      · rw [if_neg e1]
        by_cases e2 : m.f0 = 2
        · rw [if_pos e2]
          by_cases e3 : m.f1 = 0
          · rw [if_pos e3]
            by_cases e4 : n < 1
            · rw [if_pos e4]; exact stop (by unfold tstep; rw [if_neg e0, if_neg e1, if_pos e2, if_neg (by omega)])
            · rw [if_neg e4]
              exact next n (k + 1) (by unfold tstep; rw [if_neg e0, if_neg e1, if_pos e2, if_pos (by omega)]) (by omega) (by omega) (by omega)
          · rw [if_neg e3]; exact stop (by unfold tstep; rw [if_neg e0, if_neg e1, if_pos e2, if_neg (by omega)])
        · rw [if_neg e2]
          by_cases e3 : m.f0 = 3
          · rw [if_pos e3]; exact g2 _ (by rw [beq_iff_eq]; omega) e0 e1 e2
          · rw [if_neg e3]
            by_cases e4 : m.f0 = 4
            · rw [if_pos e4]; exact g2 _ (by rw [beq_iff_eq]; omega) e0 e1 e2
            · rw [if_neg e4]; exact g2 _ (by rw [beq_iff_eq]; omega) e0 e1 e2
theorem itermok (p : Int) (l : List S62) (k : Nat) (hk : 32 < k) : impl_TermOk.f k p l = some (decide (TermB p l)) := by
  unfold impl_TermOk.f
  obtain ⟨k, rfl⟩ : ∃ m, k = m + 1 := ⟨k - 1, by omega⟩
  rw [people_eq, Option.bind_some]
  by_cases hp : 1 ≤ p ∧ p ≤ 4
  · rw [if_pos (by simpa using hp)]
    by_cases h1 : (l.length : Int) < 1
    · rw [if_pos h1, impl_TermOk.j0, if_pos rfl]
      congr 1; symm; rw [decide_eq_false_iff_not]; intro h; have := TermB_pos h; omega
    · rw [if_neg h1, impl_TermOk.j0]
      by_cases h2 : (l.length : Int) > 15
      · rw [if_pos (by simpa using h2)]
        congr 1; symm; rw [decide_eq_false_iff_not]; intro h; have := h.2.2.1; omega
      · rw [if_neg (by simpa using h2)]
        have := itermok_loop p hp l (by omega) l.length 0 0 (by omega) (by omega) (by omega) k (by omega)
        rw [show ((0 : Nat) : Int) = 0 from rfl] at this
        rw [this, List.drop_zero]
        congr 1; rw [decide_eq_decide]; unfold TermB
        constructor
        · intro h; exact ⟨hp.1, hp.2, by omega, h⟩
        · intro h; exact h.2.2.2
  · rw [if_neg (by simpa using hp), impl_TermOk.j0, if_pos rfl]
    congr 1; symm; rw [decide_eq_false_iff_not]; intro h; exact hp ⟨h.1, h.2.1⟩

/-- Backwards over one part. -/
theorem lpart {p : Int} : ∀ b : List S62, Tm p b → ∃ c, c ≤ 3 * b.length ∧ ∀ (x y : List S62) (n : Int) (K : Nat), 1 ≤ n → n ≤ 1000 - (b.length : Int) → x.length + b.length ≤ 1000 →
    impl_lastPart.l0 (K + c) (x ++ b ++ y) n ((x.length + b.length : Nat) - 1 : Int) = if n = 1 then some (x.length : Int) else impl_lastPart.l0 K (x ++ b ++ y) (n - 1) ((x.length : Int) - 1) := by
  apply Tm_ind
  · intro m hm
    refine ⟨2, by simp, fun x y n K h1 h2 h3 => ?_⟩
    have hr : rd_T62 (x ++ [m] ++ y) ((x.length + [m].length : Nat) - 1 : Int) = m := rdm_mid x y _ m (by simp) _ (by simp)
    have hl : (x ++ [m] ++ y).length = x.length + 1 + y.length := by simp only [List.length_append, List.length_singleton]
    have hb1 : [m].length = 1 := rfl
    rw [impl_lastPart.l0, if_pos (by omega), if_pos (by omega), hr]
    have fin : impl_lastPart.j1 (K + 1) (x ++ [m] ++ y) n ((x.length + [m].length : Nat) - 1 : Int) m.f0 true = if n = 1 then some (x.length : Int) else impl_lastPart.l0 K (x ++ [m] ++ y) (n - 1) ((x.length : Int) - 1) := by
      rw [impl_lastPart.j1, if_pos rfl, w64 (x := n - 1) (by omega) (by omega)]
      by_cases c : n = 1
      · rw [if_pos c, if_pos (by omega)]; congr 1; omega
      · rw [if_neg c, if_neg (by omega), w64 (by omega) (by omega)]; congr 1; omega
    rcases hm with ⟨e, _⟩ | ⟨e, _⟩
    · have e2 : (m.f0 == 0) = true := by rw [beq_iff_eq]; exact e
      rw [if_pos e, e2]; exact fin
    · have e2 : (m.f0 == 1) = true := by rw [beq_iff_eq]; exact e
      rw [if_neg (by omega), e2]; exact fin
  · intro a m ha e e0 ih
    obtain ⟨c, hc, ih⟩ := ih
    have hn1 : (a ++ [m]).length = a.length + 1 := by simp
    refine ⟨c + 3, by omega, fun x y n K h1 h2 h3 => ?_⟩
    have hr : rd_T62 (x ++ (a ++ [m]) ++ y) ((x.length + (a ++ [m]).length : Nat) - 1 : Int) = m := rdm_mid (x ++ a) y _ m (by simp) _ (by rw [hn1, List.length_append]; omega)
    have hl : (x ++ (a ++ [m]) ++ y).length = x.length + (a.length + 1) + y.length := by simp only [List.length_append, List.length_singleton]
    have e1 : (m.f0 == 1) = false := by rw [beq_eq_false_iff_ne]; omega
    have e5 : (m.f0 == 5) = false := by rw [beq_eq_false_iff_ne]; omega
    have := ih x ([m] ++ y) n K h1 (by omega) (by omega)
    have el : x ++ a ++ ([m] ++ y) = x ++ (a ++ [m]) ++ y := by simp
    rw [el] at this
    rw [show K + (c + 3) = (K + c + 2) + 1 by omega, impl_lastPart.l0, if_pos (by omega), if_pos (by omega), hr, if_neg (by omega), e1, impl_lastPart.j1, if_neg (by decide), if_neg (by omega), if_neg (by omega), e5, impl_lastPart.j2, if_neg (by decide), if_neg (by omega), w64 (by omega) (by omega), ← this]
    congr 1; omega
  · intro a b m ha hb e3 e5 e0 iha ihb
    obtain ⟨ca, hca, iha⟩ := iha
    obtain ⟨cb, hcb, ihb⟩ := ihb
    have hn1 : (a ++ b ++ [m]).length = a.length + b.length + 1 := by simp only [List.length_append, List.length_singleton]
    refine ⟨cb + ca + 3, by omega, fun x y n K h1 h2 h3 => ?_⟩
    have hr : rd_T62 (x ++ (a ++ b ++ [m]) ++ y) ((x.length + (a ++ b ++ [m]).length : Nat) - 1 : Int) = m := rdm_mid (x ++ a ++ b) y _ m (by simp) _ (by rw [hn1, List.length_append, List.length_append]; omega)
    have hl : (x ++ (a ++ b ++ [m]) ++ y).length = x.length + (a.length + b.length + 1) + y.length := by simp only [List.length_append, List.length_singleton]
    have e1 : (m.f0 == 1) = false := by rw [beq_eq_false_iff_ne]; omega
    have hxa : (x ++ a).length = x.length + a.length := List.length_append ..
    have tb := ihb (x ++ a) ([m] ++ y) (n + 1) (K + ca) (by omega) (by omega) (by omega)
    have ta := iha x (b ++ ([m] ++ y)) n K h1 (by omega) (by omega)
    have el : x ++ a ++ b ++ ([m] ++ y) = x ++ (a ++ b ++ [m]) ++ y := by simp
    have el2 : x ++ a ++ (b ++ ([m] ++ y)) = x ++ (a ++ b ++ [m]) ++ y := by simp
    rw [el, if_neg (by omega)] at tb
    rw [el2] at ta
    have fin : impl_lastPart.j2 (K + ca + cb + 1) (x ++ (a ++ b ++ [m]) ++ y) n ((x.length + (a ++ b ++ [m]).length : Nat) - 1 : Int) true = if n = 1 then some (x.length : Int) else impl_lastPart.l0 K (x ++ (a ++ b ++ [m]) ++ y) (n - 1) ((x.length : Int) - 1) := by
      rw [impl_lastPart.j2, if_pos rfl, w64 (x := n + 1) (by omega) (by omega), if_neg (by omega), w64 (by omega) (by omega), ← ta, show ((x.length + (a ++ b ++ [m]).length : Nat) - 1 - 1 : Int) = (((x ++ a).length + b.length : Nat) - 1 : Int) by omega, tb]
      congr 1 <;> omega
    rw [show K + (cb + ca + 3) = (K + ca + cb + 2) + 1 by omega, impl_lastPart.l0, if_pos (by omega), if_pos (by omega), hr, if_neg (by omega), e1, impl_lastPart.j1, if_neg (by decide)]
    by_cases c3 : m.f0 = 3
    · have : (m.f0 == 3) = true := by rw [beq_iff_eq]; exact c3
      rw [if_pos c3, this]; exact fin
    · by_cases c4 : m.f0 = 4
      · have : (m.f0 == 4) = true := by rw [beq_iff_eq]; exact c4
        rw [if_neg c3, if_pos c4, this]; exact fin
      · have : (m.f0 == 5) = true := by rw [beq_iff_eq]; omega
        rw [if_neg c3, if_neg c4, this]; exact fin
theorem ilast {p : Int} (a b : List S62) (hb : Tm p b) (hl : a.length + b.length ≤ 900) (k : Nat) (hk : 3 * b.length < k) : impl_lastPart.f k (a ++ b) = some (a.length : Int) := by
  obtain ⟨c, hc, h⟩ := lpart b hb
  have := h a [] 1 (k - c) (by omega) (by omega) (by omega)
  rw [if_pos rfl, List.append_nil, show k - c + c = k by omega] at this
  unfold impl_lastPart.f
  have hn : (a ++ b).length = a.length + b.length := List.length_append ..
  rw [w64 (by omega) (by omega), hn]
  exact this
/-- In brackets, if the last mark is one of some kinds. -/
theorem iheld_loop (x : List S62) (m : S62) (s : ByteArray) (L : List Int) (hs : s.size ≤ 1000) (hx : x.length ≤ 1000) (hL : L.length ≤ 10) (d : Nat) : ∀ (i : Nat), i + d = L.length → ∀ k, d < k →
    impl_held.l0 k (x ++ [m]) s L (L.length : Int) (i : Int) = some (if m.f0 ∈ L.drop i then (⟨#[40]⟩ : ByteArray) ++ s ++ (⟨#[41]⟩ : ByteArray) else s) := by
  have hn : (x ++ [m]).length = x.length + 1 := by simp
  have hr : rd_T62 (x ++ [m]) (wrap64 (((x ++ [m]).length : Int) - 1)) = m := by
    rw [w64 (by omega) (by omega), show (((x ++ [m]).length : Int) - 1) = (x.length : Int) by omega]; exact lastm x m
  have hw : wrap64 (((x ++ [m]).length : Int) - 1) = (x.length : Int) := by rw [w64 (by omega) (by omega)]; omega
  induction d with
  | zero =>
    intro i hi k hk
    obtain ⟨k, rfl⟩ : ∃ m, k = m + 1 := ⟨k - 1, by omega⟩
    rw [impl_held.l0, if_neg (by omega), List.drop_of_length_le (by omega)]; simp
  | succ d ih =>
    intro i hi k hk
    obtain ⟨k, rfl⟩ : ∃ m, k = m + 1 := ⟨k - 1, by omega⟩
    have e1 : (⟨#[40]⟩ : ByteArray).size = 1 := rfl
    have hw2 : wrap64 ((i : Int) + 1) = ((i + 1 : Nat) : Int) := by rw [w64 (by omega) (by omega)]; omega
    rw [impl_held.l0, if_pos (by omega), if_pos (by omega), if_pos (by omega), hr, hw, if_pos (by omega), if_pos (by omega), rdh2 L i (by omega), List.drop_eq_getElem_cons (by omega)]
    by_cases h : m.f0 = L[i]'(by omega)
    · rw [if_pos h, if_pos (by omega), if_pos (by rw [ByteArray.size_append]; omega), if_pos (by rw [h]; exact List.mem_cons_self)]
    · rw [if_neg h, hw2, ih (i + 1) (by omega) k (by omega)]
      have e : (m.f0 ∈ L[i]'(by omega) :: L.drop (i + 1)) ↔ m.f0 ∈ L.drop (i + 1) := by
        rw [List.mem_cons]; exact ⟨fun h' => h'.elim (fun e => absurd e h) id, Or.inr⟩
      by_cases c : m.f0 ∈ L.drop (i + 1)
      · rw [if_pos c, if_pos (e.2 c)]
      · rw [if_neg c, if_neg (fun h' => c (e.1 h'))]
theorem iheld {p : Int} (t : List S62) (ht : Tm p t) (hl : t.length ≤ 100) (L : List Int) (hL : L.length ≤ 3) (j : Int) (hj : ∀ q, 0 ≤ q → q ≤ 5 → (q ∈ L ↔ mn (5 - q) 3 < j)) (k : Nat) (hk : 4 ≤ k) (h : impl_textOf.f k t = some (tx t).1) : impl_held.f (k + 1) t L = some (sw j (tx t).2 (tx t).1) := by
  obtain ⟨x, m, e, ek, h0, h5⟩ := tx_kind t ht
  have hs := tx_size t ht
  have hn : t.length = x.length + 1 := by rw [e]; simp
  rw [impl_held.f, h, Option.bind_some]
  have := iheld_loop x m (tx t).1 L (by omega) (by omega) (by omega) L.length 0 (by omega) k (by omega)
  rw [← e] at this
  rw [show (0 : Int) = ((0 : Nat) : Int) from rfl, this, List.drop_zero]
  unfold sw
  rw [ek]
  by_cases c : m.f0 ∈ L
  · rw [if_pos c, if_pos ((hj _ h0 h5).1 c)]
  · rw [if_neg c, if_neg (fun hh => c ((hj _ h0 h5).2 hh))]
theorem k345 : ∀ q : Int, 0 ≤ q → q ≤ 5 → (q ∈ [(3 : Int), 4, 5] ↔ mn (5 - q) 3 < 3) := by
  intro q h0 h5
  simp only [List.mem_cons, List.not_mem_nil, or_false]
  unfold mn
  split <;> omega
theorem k45 : ∀ q : Int, 0 ≤ q → q ≤ 5 → (q ∈ [(4 : Int), 5] ↔ mn (5 - q) 3 < 2) := by
  intro q h0 h5
  simp only [List.mem_cons, List.not_mem_nil, or_false]
  unfold mn
  split <;> omega
theorem k5 : ∀ q : Int, 0 ≤ q → q ≤ 5 → (q ∈ [(5 : Int)] ↔ mn (5 - q) 3 < 1) := by
  intro q h0 h5
  simp only [List.mem_cons, List.not_mem_nil, or_false]
  unfold mn
  split <;> omega
theorem sw0 {p : Int} (t : List S62) (ht : Tm p t) : sw 0 (tx t).2 (tx t).1 = (tx t).1 := by
  obtain ⟨x, m, e, ek, h0, h5⟩ := tx_kind t ht
  unfold sw
  rw [if_neg]
  rw [ek]; unfold mn; split <;> omega
theorem itext {p : Int} (hp : p ≤ 4) : ∀ t : List S62, Tm p t → t.length ≤ 100 → ∀ k, 6 * t.length + 10 < k → impl_textOf.f k t = some (tx t).1 := by
  apply Tm_ind
  · intro m hm hl k hk
    obtain ⟨k, rfl⟩ : ∃ m, k = m + 1 := ⟨k - 1, by omega⟩
    have hn : ([m].length : Int) = 1 := rfl
    have hr : rd_T62 [m] 0 = m := rfl
    rw [impl_textOf.f, hn, w64 (by omega) (by omega), show (1 : Int) - 1 = 0 from rfl, if_pos (by omega), if_pos (by omega), hr]
    rcases hm with ⟨e, h0, h1⟩ | ⟨e, h0, h1⟩
    · rw [if_pos e, tx_tells m e, w64 (by omega) (by omega), show (97 + m.f1) % 256 = 97 + m.f1 by omega]
    · rw [if_neg (by omega), if_pos e, tx_count m e, w64 (by omega) (by omega), show (48 + m.f1) % 256 = 48 + m.f1 by omega]
  · intro a m ha e e0 ih hl k hk
    have hn1 : (a ++ [m]).length = a.length + 1 := by simp
    obtain ⟨k, rfl⟩ : ∃ m, k = m + 1 + 1 := ⟨k - 2, by omega⟩
    have hw : wrap64 (((a ++ [m]).length : Int) - 1) = (a.length : Int) := by rw [w64 (by omega) (by omega)]; omega
    have hs := tx_size a ha
    have hs2 := sw_size 3 (tx a).2 (tx a).1
    rw [impl_textOf.f, hw, if_pos (by omega), if_pos (by omega), lastm a m, if_neg (by omega), if_neg (by omega), if_pos e, if_pos (by omega), Int.toNat_natCast, List.take_left, iheld a ha (by omega) [3, 4, 5] (by simp) 3 k345 k (by omega) (ih (by omega) k (by omega)), Option.bind_some, if_pos (by omega), tx_not a m ha e]
  · intro a b m ha hb e3 e5 e0 iha ihb hl k hk
    have hn1 : (a ++ b ++ [m]).length = a.length + b.length + 1 := by simp only [List.length_append, List.length_singleton]
    have hab : (a ++ b).length = a.length + b.length := List.length_append ..
    obtain ⟨k, rfl⟩ : ∃ m, k = m + 1 + 1 := ⟨k - 2, by omega⟩
    have hw : wrap64 (((a ++ b ++ [m]).length : Int) - 1) = ((a ++ b).length : Int) := by rw [w64 (by omega) (by omega)]; omega
    have tk : (a ++ b ++ [m]).take (a ++ b).length = a ++ b := List.take_left
    have tk2 : (a ++ b ++ [m]).take a.length = a := by rw [List.append_assoc]; exact List.take_left
    have dr : (a ++ b).drop a.length = b := List.drop_left
    have na := Tm_ne ha
    have nb := Tm_ne hb
    have sa := tx_size a ha
    have sb := tx_size b hb
    have hA := iha (by omega) k (by omega)
    have hA1 := iha (by omega) (k + 1) (by omega)
    have hB := ihb (by omega) k (by omega)
    have z1 := sw_size (5 - m.f0) (tx a).2 (tx a).1
    have z2 := sw_size (5 - m.f0 + 1) (tx b).2 (tx b).1
    have q1 : (⟨#[38]⟩ : ByteArray).size = 1 := rfl
    have q2 : (⟨#[124]⟩ : ByteArray).size = 1 := rfl
    have q3 : (⟨#[61]⟩ : ByteArray).size = 1 := rfl
    rw [impl_textOf.f, hw, if_pos (by omega), if_pos (by omega), lastm (a ++ b) m, if_neg (by omega), if_neg (by omega), if_neg (by omega), if_pos (by omega)]
    simp only [Int.toNat_natCast]
    rw [tk, ilast a b hb (by omega) (k + 1) (by omega)]
    simp only [Option.bind_some, Int.toNat_natCast]
    rw [if_pos (by omega), if_pos (by omega), if_pos (by omega), tk2, dr, tx_bin a b m ha hb e3]
    by_cases c3 : m.f0 = 3
    · have s2 : (5 : Int) - m.f0 = 2 := by omega
      rw [s2] at z1 z2 ⊢
      rw [show (2 : Int) + 1 = 3 from rfl] at z2 ⊢
      rw [if_pos c3, iheld a ha (by omega) [4, 5] (by simp) 2 k45 k (by omega) hA, Option.bind_some, if_pos (by omega), iheld b hb (by omega) [3, 4, 5] (by simp) 3 k345 k (by omega) hB, Option.bind_some, if_pos (by rw [ByteArray.size_append]; omega)]
      congr 2
      unfold sg; rw [if_pos c3]
    · by_cases c4 : m.f0 = 4
      · have s2 : (5 : Int) - m.f0 = 1 := by omega
        rw [s2] at z1 z2 ⊢
        rw [show (1 : Int) + 1 = 2 from rfl] at z2 ⊢
        rw [if_neg c3, if_pos c4, iheld a ha (by omega) [5] (by simp) 1 k5 k (by omega) hA, Option.bind_some, if_pos (by omega), iheld b hb (by omega) [4, 5] (by simp) 2 k45 k (by omega) hB, Option.bind_some, if_pos (by rw [ByteArray.size_append]; omega)]
        congr 2
        unfold sg; rw [if_neg c3, if_pos c4]
      · have s2 : (5 : Int) - m.f0 = 0 := by omega
        rw [s2] at z1 z2 ⊢
        rw [show (0 : Int) + 1 = 1 from rfl] at z2 ⊢
        rw [sw0 a ha, if_neg c3, if_neg c4, hA1, Option.bind_some, if_pos (by omega), iheld b hb (by omega) [5] (by simp) 1 k5 k (by omega) hB, Option.bind_some, if_pos (by rw [ByteArray.size_append]; omega)]
        congr 2
        unfold sg; rw [if_neg c3, if_neg c4]
theorem itermtext (p : Int) (t : List S62) (k : Nat) (hk : 110 < k) : impl_TermText.f k p t = some (txT p t) := by
  unfold impl_TermText.f txT
  rw [itermok p t k (by omega), Option.bind_some]
  by_cases hT : TermB p t
  · have h15 := hT.2.2.1
    rw [if_pos (by simpa using hT), if_pos hT, itext hT.2.1 t hT.2.2.2 (by omega) k (by omega)]; rfl
  · rw [if_neg (by simpa using hT), if_neg hT]

/-! ### letters of texts -/
def hasb (s : ByteArray) (c : UInt8) : Prop := c ∈ s.data.toList
def lt_ (v : Nat) : UInt8 := UInt8.ofNat (97 + v)
theorem lt_nat {v : Nat} (h : v < 4) : (lt_ v).toNat = 97 + v := by
  unfold lt_
  rw [UInt8.toNat_ofNat']
  omega
theorem hasb_app (a b : ByteArray) (c : UInt8) : hasb (a ++ b) c ↔ hasb a c ∨ hasb b c := by
  unfold hasb
  rw [ByteArray.data_append, Array.toList_append, List.mem_append]
theorem hasb_one (x c : UInt8) : hasb ⟨#[x]⟩ c ↔ c = x := by
  unfold hasb
  exact List.mem_singleton
theorem nohas (x : UInt8) {v : Nat} (h : v < 4) (hx : x.toNat < 97 ∨ 100 < x.toNat) : ¬ hasb ⟨#[x]⟩ (lt_ v) := by
  rw [hasb_one]
  intro e
  have := lt_nat h
  rw [e] at this
  omega
theorem hasb_sw (j k : Int) (s : ByteArray) {v : Nat} (h : v < 4) : hasb (sw j k s) (lt_ v) ↔ hasb s (lt_ v) := by
  unfold sw
  split
  · rw [hasb_app, hasb_app]
    constructor
    · rintro ((h1 | h1) | h1)
      · exact absurd h1 (nohas 40 h (.inl (by decide)))
      · exact h1
      · exact absurd h1 (nohas 41 h (.inl (by decide)))
    · intro h1; exact .inl (.inr h1)
  · exact Iff.rfl
theorem nosg (k : Int) {v : Nat} (h : v < 4) : ¬ hasb (sg k) (lt_ v) := by
  unfold sg
  split
  · exact nohas 38 h (.inl (by decide))
  · split
    · exact nohas 124 h (.inr (by decide))
    · exact nohas 61 h (.inl (by decide))
theorem tx_letter {p : Int} (hp : p ≤ 4) {v : Nat} (h : v < 4) : ∀ t : List S62, Tm p t → (hasb (tx t).1 (lt_ v) ↔ ∃ m ∈ t, m.f0 = 0 ∧ m.f1.toNat = v) := by
  apply Tm_ind
  · intro m hm
    rcases hm with ⟨e, h0, h1⟩ | ⟨e, h0, h1⟩
    · rw [tx_tells m e]
      show hasb ⟨#[UInt8.ofNat (97 + m.f1).toNat]⟩ (lt_ v) ↔ _
      rw [hasb_one]
      constructor
      · intro hh
        refine ⟨m, List.mem_singleton.2 rfl, e, ?_⟩
        have h2 := lt_nat h
        rw [hh, UInt8.toNat_ofNat'] at h2
        omega
      · rintro ⟨x, hx, _, hv⟩
        rw [List.mem_singleton.1 hx] at hv
        unfold lt_
        rw [show (97 + m.f1).toNat = 97 + v by omega]
    · rw [tx_count m e]
      show hasb ⟨#[UInt8.ofNat (48 + m.f1).toNat]⟩ (lt_ v) ↔ _
      constructor
      · intro hh
        exact absurd hh (nohas _ h (.inl (by rw [UInt8.toNat_ofNat']; omega)))
      · rintro ⟨x, hx, h2, _⟩
        rw [List.mem_singleton.1 hx] at h2
        omega
  · intro a m ha e e0 ih
    rw [tx_not a m ha e]
    show hasb ((⟨#[33]⟩ : ByteArray) ++ sw 3 (tx a).2 (tx a).1) (lt_ v) ↔ _
    rw [hasb_app, hasb_sw _ _ _ h, ih]
    constructor
    · rintro (h1 | ⟨x, hx, h1⟩)
      · exact absurd h1 (nohas 33 h (.inl (by decide)))
      · exact ⟨x, List.mem_append_left _ hx, h1⟩
    · rintro ⟨x, hx, h1⟩
      rcases List.mem_append.1 hx with hx | hx
      · exact .inr ⟨x, hx, h1⟩
      · have e1 := h1.1; rw [List.mem_singleton.1 hx] at e1; omega
  · intro a b m ha hb e3 e5 e0 iha ihb
    rw [tx_bin a b m ha hb e3]
    show hasb (sw (5 - m.f0) (tx a).2 (tx a).1 ++ sg m.f0 ++ sw (5 - m.f0 + 1) (tx b).2 (tx b).1) (lt_ v) ↔ _
    rw [hasb_app, hasb_app, hasb_sw _ _ _ h, hasb_sw _ _ _ h, iha, ihb]
    constructor
    · rintro ((⟨x, hx, h1⟩ | h1) | ⟨x, hx, h1⟩)
      · exact ⟨x, List.mem_append_left _ (List.mem_append_left _ hx), h1⟩
      · exact absurd h1 (nosg _ h)
      · exact ⟨x, List.mem_append_left _ (List.mem_append_right _ hx), h1⟩
    · rintro ⟨x, hx, h1⟩
      rcases List.mem_append.1 hx with hx | hx
      · rcases List.mem_append.1 hx with hx | hx
        · exact .inl (.inl ⟨x, hx, h1⟩)
        · exact .inr ⟨x, hx, h1⟩
      · have e1 := h1.1; rw [List.mem_singleton.1 hx] at e1; omega
/-- The byte at a place. -/
theorem bt_has (s : ByteArray) {v : Nat} (h : v < 4) : (∃ j : Nat, j < s.size ∧ bt s (j : Int) = 97 + (v : Int)) ↔ hasb s (lt_ v) := by
  unfold hasb
  rw [List.mem_iff_getElem]
  constructor
  · rintro ⟨j, hj, e⟩
    refine ⟨j, by simpa using hj, ?_⟩
    rw [← UInt8.toNat_inj, lt_nat h]
    have := bt_at s (j : Int) (by simpa using hj)
    rw [e] at this
    simp only [Int.toNat_natCast] at this
    have e2 : s[j]'hj = (s.data.toList[j]'(by simpa using hj)) := by simp [ByteArray.getElem_eq_getElem_data]
    rw [← e2]
    omega
  · rintro ⟨j, hj, e⟩
    have hj2 : j < s.size := by simpa using hj
    refine ⟨j, hj2, ?_⟩
    have := bt_at s (j : Int) (by simpa using hj2)
    simp only [Int.toNat_natCast] at this
    have e2 : s[j]'hj2 = (s.data.toList[j]'hj) := by simp [ByteArray.getElem_eq_getElem_data]
    rw [e2, e, lt_nat h] at this
    omega

/-- How many of 0..15's four lowest bits are set. -/
def ones (w : Int) : Int := w % 2 + w / 2 % 2 + w / 4 % 2 + w / 8 % 2

/-- How a mark holds on a stack, top first. -/
def hstep (w : Nat) (st : List Bool) (m : S62) : List Bool :=
  if m.f0 = 0 then w.testBit m.f1.toNat :: st
  else if m.f0 = 1 then decide (ones (w : Int) ≥ m.f1) :: st
  else if m.f0 = 2 then (match st with | b :: r => (!b) :: r | [] => [])
  else match st with
    | b :: a :: r => (if m.f0 = 3 then a && b else if m.f0 = 4 then a || b else a == b) :: r
    | _ => []
def hrun (w : Nat) (st : List Bool) (t : List S62) : List Bool := t.foldl (hstep w) st
/-- Does a term hold. -/
def hv (w : Nat) (t : List S62) : Bool := (hrun w [] t).headD false
theorem hrun_append (w : Nat) (st : List Bool) (a b : List S62) : hrun w st (a ++ b) = hrun w (hrun w st a) b := List.foldl_append ..
theorem hrun_Tm {p : Int} (w : Nat) : ∀ t : List S62, Tm p t → ∀ st, hrun w st t = hv w t :: st := by
  apply Tm_ind
  · intro m hm st
    unfold hv hrun
    simp only [List.foldl_cons, List.foldl_nil]
    unfold hstep
    rcases hm with ⟨e, _⟩ | ⟨e, _⟩
    · simp [e]
    · simp [e]
  · intro a m ha e e0 ih st
    unfold hv
    rw [hrun_append, hrun_append, ih st, ih []]
    unfold hrun
    simp only [List.foldl_cons, List.foldl_nil]
    unfold hstep
    simp [e]
  · intro a b m ha hb e3 e5 e0 iha ihb st
    unfold hv
    rw [hrun_append, hrun_append, hrun_append, hrun_append, iha st, iha [], ihb, ihb]
    unfold hrun
    simp only [List.foldl_cons, List.foldl_nil]
    unfold hstep
    simp only [if_neg (show ¬ m.f0 = 0 by omega), if_neg (show ¬ m.f0 = 1 by omega), if_neg (show ¬ m.f0 = 2 by omega)]
    rfl
theorem hv_tells {p : Int} (w : Nat) (m : S62) (h : m.f0 = 0) : hv w [m] = w.testBit m.f1.toNat := by
  simp [hv, hrun, hstep, h]
theorem hv_count {p : Int} (w : Nat) (m : S62) (h : m.f0 = 1) : hv w [m] = decide (ones (w : Int) ≥ m.f1) := by
  simp [hv, hrun, hstep, h]
theorem hv_not {p : Int} (w : Nat) (a : List S62) (m : S62) (ha : Tm p a) (h : m.f0 = 2) : hv w (a ++ [m]) = !(hv w a) := by
  have := hrun_Tm w a ha []
  unfold hv at this ⊢
  rw [hrun_append, this]
  simp [hrun, hstep, h]
theorem hv_bin {p : Int} (w : Nat) (a b : List S62) (m : S62) (ha : Tm p a) (hb : Tm p b) (h3 : 3 ≤ m.f0) : hv w (a ++ b ++ [m]) = (if m.f0 = 3 then hv w a && hv w b else if m.f0 = 4 then hv w a || hv w b else hv w a == hv w b) := by
  have h1 := hrun_Tm w a ha []
  have h2 := hrun_Tm w b hb (hv w a :: [])
  have e : hv w (a ++ b ++ [m]) = (hrun w [] (a ++ b ++ [m])).headD false := rfl
  rw [e, hrun_append, hrun_append, h1, h2]
  unfold hrun
  simp only [List.foldl_cons, List.foldl_nil]
  unfold hstep
  simp only [if_neg (show ¬ m.f0 = 0 by omega), if_neg (show ¬ m.f0 = 1 by omega), if_neg (show ¬ m.f0 = 2 by omega)]
  rfl

/-- Does person i matter in world w. -/
def dif (t : List S62) (i w : Nat) : Bool := hv w t != hv (w ^^^ 2 ^ i) t
def anyD (f : Nat → Bool) (w : Nat) : Nat → Bool
  | 0 => false
  | d + 1 => f w || anyD f (w + 1) d
theorem anyD_iff (f : Nat → Bool) : ∀ d w, anyD f w d = true ↔ ∃ x, w ≤ x ∧ x < w + d ∧ f x = true
  | 0, w => by
    rw [anyD]
    constructor
    · intro h; cases h
    · rintro ⟨x, h1, h2, _⟩; omega
  | d + 1, w => by
    rw [anyD, Bool.or_eq_true, anyD_iff f d (w + 1)]
    constructor
    · rintro (h | ⟨x, h1, h2, h3⟩)
      · exact ⟨w, by omega, by omega, h⟩
      · exact ⟨x, by omega, by omega, h3⟩
    · rintro ⟨x, h1, h2, h3⟩
      by_cases e : x = w
      · subst e; exact .inl h3
      · exact .inr ⟨x, by omega, by omega, h3⟩
/-- The people who matter. -/
def matN (p : Int) (t : List S62) : Nat → Nat
  | 0 => 0
  | i + 1 => matN p t i ||| (if anyD (dif t i) 0 (pw p).toNat = true then 2 ^ i else 0)
def matT (p : Int) (t : List S62) : Int := if TermB p t then (matN p t p.toNat : Int) else -1
theorem bit_if (c : Bool) (i j : Nat) : (if c = true then 2 ^ i else 0).testBit j = (c && decide (i = j)) := by
  cases c
  · simp
  · rw [if_pos rfl, Nat.testBit_two_pow]; simp
theorem matN_bit (p : Int) (t : List S62) (n j : Nat) : (matN p t n).testBit j = (decide (j < n) && anyD (dif t j) 0 (pw p).toNat) := by
  induction n with
  | zero => simp [matN]
  | succ n ih =>
    rw [matN, Nat.testBit_or, ih, bit_if]
    by_cases e : n = j
    · subst e; simp
    · have : decide (j < n + 1) = decide (j < n) := by rw [decide_eq_decide]; omega
      rw [this]; simp [e]
theorem or_if_lt (s i : Nat) (c : Bool) (hs : s < 16) (hi : i < 4) : s ||| (if c = true then 2 ^ i else 0) < 16 := by
  have h2 : (if c = true then 2 ^ i else 0) < 2 ^ 4 := by
    split
    · exact Nat.pow_lt_pow_right (by decide) hi
    · decide
  have := Nat.or_lt_two_pow (n := 4) (x := s) (by omega) h2
  omega
theorem matN_lt (p : Int) (t : List S62) (n : Nat) (hn : n ≤ 4) : matN p t n < 16 := by
  induction n with
  | zero => exact Nat.zero_lt_succ 15
  | succ n ih => exact or_if_lt _ n _ (ih (by omega)) (by omega)
theorem flip_lt (w i n : Nat) (hw : w < 2 ^ n) (hi : i < n) : w ^^^ 2 ^ i < 2 ^ n := Nat.xor_lt_two_pow hw (Nat.pow_lt_pow_right (by decide) hi)
theorem shl2 (i : Nat) (hi : i < 4) : shl .i64 1 ((i : Nat) : Int) = ((2 ^ i : Nat) : Int) := by have := shl_nat 1 i (by omega) (by omega); simpa using this

def rstep (s : Nat) (m : S62) : Nat := if m.f0 = 0 then s ||| 2 ^ m.f1.toNat else s
def readsN (t : List S62) : Nat := t.foldl rstep 0
def reads (p : Int) (t : List S62) : Int := if TermB p t then (readsN t : Int) else -1
theorem rstep_lt (p : Int) (hp : p ≤ 4) (s : Nat) (hs : s < 16) (m : S62) (hm : MOk p m) : rstep s m < 16 := by
  unfold rstep
  by_cases e : m.f0 = 0
  · rw [if_pos e]
    unfold MOk at hm
    have h2 : 2 ^ m.f1.toNat < 2 ^ 4 := Nat.pow_lt_pow_right (by decide) (by omega)
    have := Nat.or_lt_two_pow (n := 4) (x := s) (y := 2 ^ m.f1.toNat) (by omega) h2
    omega
  · rw [if_neg e]; exact hs

theorem rd_bit (j : Nat) : ∀ (t : List S62) (s : Nat), (t.foldl rstep s).testBit j = true ↔ s.testBit j = true ∨ ∃ m ∈ t, m.f0 = 0 ∧ m.f1.toNat = j
  | [], s => by
    constructor
    · intro h; exact .inl h
    · rintro (h | ⟨m, hm, _⟩)
      · exact h
      · cases hm
  | m :: t, s => by
    rw [List.foldl_cons, rd_bit j t]
    have e : (rstep s m).testBit j = true ↔ s.testBit j = true ∨ (m.f0 = 0 ∧ m.f1.toNat = j) := by
      unfold rstep
      by_cases c : m.f0 = 0
      · rw [if_pos c, Nat.testBit_or, Bool.or_eq_true, Nat.testBit_two_pow, decide_eq_true_iff]
        constructor
        · rintro (h | h)
          · exact .inl h
          · exact .inr ⟨c, h⟩
        · rintro (h | h)
          · exact .inl h
          · exact .inr h.2
      · rw [if_neg c]
        constructor
        · intro h; exact .inl h
        · rintro (h | h)
          · exact h
          · exact absurd h.1 c
    rw [e]
    constructor
    · rintro ((h | h) | ⟨x, hx, h⟩)
      · exact .inl h
      · exact .inr ⟨m, List.mem_cons_self, h⟩
      · exact .inr ⟨x, List.mem_cons_of_mem _ hx, h⟩
    · rintro (h | ⟨x, hx, h⟩)
      · exact .inl (.inl h)
      · rcases List.mem_cons.1 hx with rfl | hx
        · exact .inl (.inr h)
        · exact .inr ⟨x, hx, h⟩
theorem hv_flip {p : Int} (j w : Nat) : ∀ t : List S62, Tm p t → (∀ m ∈ t, m.f0 ≠ 1) → (∀ m ∈ t, ¬ (m.f0 = 0 ∧ m.f1.toNat = j)) → hv (w ^^^ 2 ^ j) t = hv w t := by
  apply Tm_ind
  · intro m hm h1 h2
    have h1 := h1 m (List.mem_singleton.2 rfl)
    have h2 := h2 m (List.mem_singleton.2 rfl)
    rcases hm with ⟨e, _, _⟩ | ⟨e, _, _⟩
    · rw [hv_tells (p := p) _ m e, hv_tells (p := p) w m e, Nat.testBit_xor, Nat.testBit_two_pow]
      have : decide (j = m.f1.toNat) = false := by rw [decide_eq_false_iff_not]; intro h; exact h2 ⟨e, h.symm⟩
      rw [this, Bool.xor_false]
    · exact absurd e h1
  · intro a m ha e e0 ih h1 h2
    rw [hv_not _ a m ha e, hv_not w a m ha e, ih (fun x hx => h1 x (List.mem_append_left _ hx)) (fun x hx => h2 x (List.mem_append_left _ hx))]
  · intro a b m ha hb e3 e5 e0 iha ihb h1 h2
    rw [hv_bin _ a b m ha hb e3, hv_bin w a b m ha hb e3, iha (fun x hx => h1 x (List.mem_append_left _ (List.mem_append_left _ hx))) (fun x hx => h2 x (List.mem_append_left _ (List.mem_append_left _ hx))), ihb (fun x hx => h1 x (List.mem_append_left _ (List.mem_append_right _ hx))) (fun x hx => h2 x (List.mem_append_left _ (List.mem_append_right _ hx)))]
theorem mat_read {p : Int} (t : List S62) (ht : Tm p t) (h1 : ∀ m ∈ t, m.f0 ≠ 1) (n j : Nat) (h : (matN p t n).testBit j = true) : (readsN t).testBit j = true := by
  unfold readsN
  rw [matN_bit, Bool.and_eq_true, anyD_iff] at h
  obtain ⟨_, x, _, _, hd⟩ := h
  rw [rd_bit]
  right
  by_cases c : ∃ m ∈ t, m.f0 = 0 ∧ m.f1.toNat = j
  · exact c
  · have := hv_flip (p := p) j x t ht h1 (fun m hm hh => c ⟨m, hm, hh⟩)
    unfold dif at hd
    rw [this] at hd
    simp at hd
theorem readsN_lt {p : Int} {t : List S62} (h : TermB p t) : readsN t < 16 := by
  have key : ∀ (l : List S62) (s : Nat), s < 16 → (∀ m ∈ l, MOk p m) → l.foldl rstep s < 16 := by
    intro l
    induction l with
    | nil => intro s hs _; exact hs
    | cons m l ih =>
      intro s hs hm
      exact ih _ (rstep_lt p h.2.1 s hs m (hm m List.mem_cons_self)) (fun x hx => hm x (List.mem_cons_of_mem _ hx))
  exact key t 0 (by omega) (TermB_ok h)

theorem in_eq (a b c : Int) : spec_l1In.f a b c = some (decide (b ≤ a ∧ a ≤ c)) := by
  unfold spec_l1In.f
  by_cases h : a ≥ b
  · rw [if_pos h]; congr 1; rw [decide_eq_decide]; omega
  · rw [if_neg h]; congr 1; symm; rw [decide_eq_false_iff_not]; omega

theorem stermok_loop (p : Int) (hp : -9223372036854775808 ≤ p ∧ p ≤ 9223372036854775807) (l : List S62) (hn : l.length ≤ 1048576) (hw : ∀ m ∈ l, MarkW m) (d : Nat) : ∀ (i : Nat) (n : Int), i + d = l.length → 0 ≤ n → n ≤ i → ∀ k, 4 * d < k →
    spec_TermOk.l0 k p l n ((i : Nat) : Int) = some (decide (tfold p n (l.drop i) = some 1 ∧ 1 ≤ p ∧ p ≤ 4 ∧ l.length ≤ 15)) := by
  induction d with
  | zero =>
    intro i n hi h0 h1 k hk
    obtain ⟨k, rfl⟩ : ∃ m, k = m + 1 := ⟨k - 1, by omega⟩
    rw [spec_TermOk.l0, if_neg (by omega), in_eq, Option.bind_some, List.drop_of_length_le (by omega)]
    by_cases hpp : 1 ≤ p ∧ p ≤ 4
    · rw [if_pos (by simpa using hpp)]
      by_cases hn1 : n = 1
      · rw [if_pos hn1]; congr 1; rw [decide_eq_decide]; simp [tfold, hn1]; omega
      · rw [if_neg hn1]; congr 1; symm; rw [decide_eq_false_iff_not]; simp [tfold, hn1]
    · rw [if_neg (by simpa using hpp)]; congr 1; symm; rw [decide_eq_false_iff_not]; rintro ⟨_, a, b, _⟩; exact hpp ⟨a, b⟩
  | succ d ih =>
    intro i n hi h0 h1 k hk
    obtain ⟨k, rfl⟩ : ∃ m, k = m + 4 := ⟨k - 4, by omega⟩
    have hlt : i < l.length := by omega
    have hm := hw _ (List.getElem_mem hlt)
    unfold MarkW at hm
    have next : ∀ (n' : Int) (k' : Nat), tstep p n l[i] = some n' → 0 ≤ n' → n' ≤ i + 1 → 4 * d < k' →
        spec_TermOk.l0 k' p l n' (wrap64 ((i : Int) + 1)) = some (decide (tfold p n (l.drop i) = some 1 ∧ 1 ≤ p ∧ p ≤ 4 ∧ l.length ≤ 15)) := by
      intro n' k' hs h0' h1' hk'
      have := ih (i + 1) n' (by omega) h0' (by omega) k' hk'
      rw [w64 (by omega) (by omega), show (i : Int) + 1 = ((i + 1 : Nat) : Int) by omega, this, List.drop_eq_getElem_cons hlt, tfold_some _ hs]
    have stop : tstep p n l[i] = none → some false = some (decide (tfold p n (l.drop i) = some 1 ∧ 1 ≤ p ∧ p ≤ 4 ∧ l.length ≤ 15)) := by
      intro hs
      rw [List.drop_eq_getElem_cons hlt, tfold_none _ hs]; simp
    generalize hgm : l[i] = m at *
    have hrd : rd_T62 l ((i : Nat) : Int) = m := by rw [rdm l i hlt]; exact hgm
    -- the ways behind the first two tests
    have g3 : ∀ b, (b = true ↔ (m.f0 = 2 ∧ m.f1 = 0 ∧ n ≥ 1)) → ¬ (m.f0 = 0 ∧ m.f1 ≥ 0 ∧ m.f1 < p) → ¬ (m.f0 = 1 ∧ m.f1 ≥ 0 ∧ m.f1 ≤ p + 1) → spec_TermOk.j3 (k + 1) p l n ((i : Nat) : Int) b = some (decide (tfold p n (l.drop i) = some 1 ∧ 1 ≤ p ∧ p ≤ 4 ∧ l.length ≤ 15)) := by
      intro b hb n0 n1
      rw [spec_TermOk.j3]
      by_cases hbt : b = true
      · have := hb.1 hbt
        rw [if_pos hbt]
        exact next n k (by unfold tstep; rw [if_neg (by omega), if_neg (by omega), if_pos this.1, if_pos (by omega)]) (by omega) (by omega) (by omega)
      · have hb' : ¬ (m.f0 = 2 ∧ m.f1 = 0 ∧ n ≥ 1) := fun h => hbt (hb.2 h)
        rw [if_neg hbt, if_pos (by omega), if_pos (by omega), hrd, in_eq, Option.bind_some]
        by_cases h35 : 3 ≤ m.f0 ∧ m.f0 ≤ 5
        · rw [if_pos (by simpa using h35)]
          by_cases ha : m.f1 = 0
          · rw [if_pos ha]
            by_cases h2 : n ≥ 2
            · rw [if_pos h2, w64 (x := n - 1) (by omega) (by omega)]
              exact next (n - 1) k (by unfold tstep; rw [if_neg (by omega), if_neg (by omega), if_neg (by omega), if_pos h35, if_pos (by omega)]) (by omega) (by omega) (by omega)
            · rw [if_neg h2]
              exact stop (by unfold tstep; rw [if_neg (by omega), if_neg (by omega), if_neg (by omega), if_pos h35, if_neg (by omega)])
          · rw [if_neg ha]
            exact stop (by unfold tstep; rw [if_neg (by omega), if_neg (by omega), if_neg (by omega), if_pos h35, if_neg (by omega)])
        · rw [if_neg (by simpa using h35)]
          refine stop ?_
          unfold tstep
          by_cases e0 : m.f0 = 0
          · rw [if_pos e0, if_neg (by omega)]
          · rw [if_neg e0]
            by_cases e1 : m.f0 = 1
            · rw [if_pos e1, if_neg (by omega)]
            · rw [if_neg e1]
              by_cases e2 : m.f0 = 2
              · rw [if_pos e2, if_neg (by omega)]
              · rw [if_neg e2, if_neg h35]
    have g2 : ∀ b, (b = true ↔ (m.f0 = 1 ∧ m.f1 ≥ 0 ∧ m.f1 ≤ p + 1)) → ¬ (m.f0 = 0 ∧ m.f1 ≥ 0 ∧ m.f1 < p) → spec_TermOk.j2 (k + 2) p l n ((i : Nat) : Int) b = some (decide (tfold p n (l.drop i) = some 1 ∧ 1 ≤ p ∧ p ≤ 4 ∧ l.length ≤ 15)) := by
      intro b hb n0
      rw [spec_TermOk.j2]
      by_cases hbt : b = true
      · have := hb.1 hbt
        rw [if_pos hbt, w64 (x := n + 1) (by omega) (by omega)]
        exact next (n + 1) (k + 1) (by unfold tstep; rw [if_neg (by omega), if_pos this.1, if_pos (by omega)]) (by omega) (by omega) (by omega)
      · have hb' : ¬ (m.f0 = 1 ∧ m.f1 ≥ 0 ∧ m.f1 ≤ p + 1) := fun h => hbt (hb.2 h)
        rw [if_neg hbt, if_pos (by omega), if_pos (by omega), hrd]
        by_cases h2 : (m.f0 == 2 && m.f1 == 0) = true
        · rw [if_pos h2]
          rw [Bool.and_eq_true, beq_iff_eq, beq_iff_eq] at h2
          exact g3 _ (by rw [decide_eq_true_iff]; omega) n0 hb'
        · rw [if_neg h2]
          rw [Bool.and_eq_true, beq_iff_eq, beq_iff_eq] at h2
          exact g3 _ (by simp; omega) n0 hb'
    have g1 : ∀ b, (b = true ↔ (m.f0 = 0 ∧ m.f1 ≥ 0 ∧ m.f1 < p)) → spec_TermOk.j1 (k + 3) p l n ((i : Nat) : Int) b = some (decide (tfold p n (l.drop i) = some 1 ∧ 1 ≤ p ∧ p ≤ 4 ∧ l.length ≤ 15)) := by
      intro b hb
      rw [spec_TermOk.j1]
      by_cases hbt : b = true
      · have := hb.1 hbt
        rw [if_pos hbt, w64 (x := n + 1) (by omega) (by omega)]
        exact next (n + 1) (k + 2) (by unfold tstep; rw [if_pos this.1, if_pos (by omega)]) (by omega) (by omega) (by omega)
      · have hb' : ¬ (m.f0 = 0 ∧ m.f1 ≥ 0 ∧ m.f1 < p) := fun h => hbt (hb.2 h)
        rw [if_neg hbt, if_pos (by omega), if_pos (by omega), hrd]
        by_cases e1 : m.f0 = 1
        · rw [if_pos e1]
          by_cases e2 : m.f1 ≥ 0
          · rw [if_pos e2]
            by_cases e3 : m.f1 ≤ p
            · rw [if_pos e3]; exact g2 _ (by simp; omega) hb'
            · rw [if_neg e3, w64 (x := m.f1 - 1) (by omega) (by omega)]; exact g2 _ (by rw [beq_iff_eq]; omega) hb'
          · rw [if_neg e2]; exact g2 _ (by simp; omega) hb'
        · rw [if_neg e1]; exact g2 _ (by simp; omega) hb'
    rw [show k + 4 = (k + 3) + 1 from rfl, spec_TermOk.l0, if_pos (by omega), if_pos (by omega), hrd]
    by_cases e0 : m.f0 = 0
    · rw [if_pos e0]
      by_cases e1 : m.f1 ≥ 0
      · rw [if_pos e1]; exact g1 _ (by rw [decide_eq_true_iff]; omega)
      · rw [if_neg e1]; exact g1 _ (by simp; omega)
    · rw [if_neg e0]; exact g1 _ (by simp; omega)
theorem stermok (p : Int) (hp : -9223372036854775808 ≤ p ∧ p ≤ 9223372036854775807) (l : List S62) (hn : l.length ≤ 1048576) (hw : ∀ m ∈ l, MarkW m) (k : Nat) (hk : 4 * l.length < k) : spec_TermOk.f k p l = some (decide (TermB p l)) := by
  unfold spec_TermOk.f
  have := stermok_loop p hp l hn hw l.length 0 0 (by omega) (by omega) (by omega) k hk
  rw [show ((0 : Nat) : Int) = 0 from rfl] at this
  rw [this, List.drop_zero]
  congr 1; rw [decide_eq_decide]; unfold TermB
  constructor
  · rintro ⟨a, b, c, d⟩; exact ⟨b, c, d, a⟩
  · rintro ⟨a, b, c, d⟩; exact ⟨d, a, b, c⟩

theorem speople_loop (p : Int) (hp : p ≤ 4) (l : List S62) (hn : l.length ≤ 15) (hm : ∀ m ∈ l, MOk p m) (d : Nat) : ∀ (i s : Nat), i + d = l.length → s < 16 → ∀ k, d < k →
    spec_PeopleRead.l0 k l (s : Int) ((i : Nat) : Int) = some (((l.drop i).foldl rstep s : Nat) : Int) := by
  induction d with
  | zero =>
    intro i s hi hs k hk
    obtain ⟨k, rfl⟩ : ∃ m, k = m + 1 := ⟨k - 1, by omega⟩
    rw [spec_PeopleRead.l0, if_neg (by omega), List.drop_of_length_le (by omega)]; rfl
  | succ d ih =>
    intro i s hi hs k hk
    obtain ⟨k, rfl⟩ : ∃ m, k = m + 1 := ⟨k - 1, by omega⟩
    have hlt : i < l.length := by omega
    have hmi := hm _ (List.getElem_mem hlt)
    have := ih (i + 1) (rstep s l[i]) (by omega) (rstep_lt p hp s hs _ hmi) k (by omega)
    rw [show ((i + 1 : Nat) : Int) = (i : Int) + 1 by omega] at this
    rw [spec_PeopleRead.l0, if_pos (by omega), if_pos (by omega), rdm l i hlt, List.drop_eq_getElem_cons hlt, List.foldl_cons, w64 (by omega) (by omega)]
    unfold MOk at hmi
    unfold rstep at this ⊢
    by_cases e : l[i].f0 = 0
    · rw [if_pos e, if_pos (by omega)]
      rw [if_pos e] at this ⊢
      obtain ⟨n, hnn⟩ := Int.eq_ofNat_of_zero_le (show 0 ≤ l[i].f1 by omega)
      have h2 : 2 ^ n < 2 ^ 4 := Nat.pow_lt_pow_right (by decide) (by omega)
      have e1 : shl .i64 1 ((n : Nat) : Int) = ((2 ^ n : Nat) : Int) := by have := shl_nat 1 n (by omega) (by omega); simpa using this
      rw [hnn, Int.toNat_natCast] at this ⊢
      rw [e1, or64 _ _ (by omega) (by omega)]
      exact this
    · rw [if_neg e]
      rw [if_neg e] at this ⊢
      exact this
theorem speople (p : Int) (hp : -9223372036854775808 ≤ p ∧ p ≤ 9223372036854775807) (l : List S62) (hn : l.length ≤ 1048576) (hw : ∀ m ∈ l, MarkW m) (k : Nat) (hk : 4 * l.length + 16 < k) : spec_PeopleRead.f k p l = some (reads p l) := by
  unfold spec_PeopleRead.f reads
  rw [stermok p hp l hn hw k (by omega), Option.bind_some]
  by_cases h : TermB p l
  · rw [if_pos (by simpa using h), if_pos h]
    exact speople_loop p h.2.1 l h.2.2.1 (TermB_ok h) l.length 0 0 (by omega) (by omega) k (by omega)
  · rw [if_neg (by simpa using h), if_neg h]

theorem ipeople_loop (p : Int) (hp : p ≤ 4) (l : List S62) (hn : l.length ≤ 15) (hm : ∀ m ∈ l, MOk p m) (d : Nat) : ∀ (i s : Nat), i + d = l.length → s < 16 → ∀ k, d < k →
    impl_PeopleRead.l0 k (s : Int) l (l.length : Int) ((i : Nat) : Int) = some (((l.drop i).foldl rstep s : Nat) : Int) := by
  induction d with
  | zero =>
    intro i s hi hs k hk
    obtain ⟨k, rfl⟩ : ∃ m, k = m + 1 := ⟨k - 1, by omega⟩
    rw [impl_PeopleRead.l0, if_neg (by omega), List.drop_of_length_le (by omega)]; rfl
  | succ d ih =>
    intro i s hi hs k hk
    obtain ⟨k, rfl⟩ : ∃ m, k = m + 1 := ⟨k - 1, by omega⟩
    have hlt : i < l.length := by omega
    have hmi := hm _ (List.getElem_mem hlt)
    have := ih (i + 1) (rstep s l[i]) (by omega) (rstep_lt p hp s hs _ hmi) k (by omega)
    rw [show ((i + 1 : Nat) : Int) = (i : Int) + 1 by omega] at this
    rw [impl_PeopleRead.l0, if_pos (by omega), if_pos (by omega), if_pos (by omega), rdm l i hlt, List.drop_eq_getElem_cons hlt, List.foldl_cons, w64 (by omega) (by omega)]
    unfold MOk at hmi
    unfold rstep at this ⊢
    by_cases e : l[i].f0 = 0
    · rw [if_pos e, if_pos (by omega)]
      rw [if_pos e] at this ⊢
      obtain ⟨n, hnn⟩ := Int.eq_ofNat_of_zero_le (show 0 ≤ l[i].f1 by omega)
      have h2 : 2 ^ n < 2 ^ 4 := Nat.pow_lt_pow_right (by decide) (by omega)
      have e1 : shl .i64 1 ((n : Nat) : Int) = ((2 ^ n : Nat) : Int) := by have := shl_nat 1 n (by omega) (by omega); simpa using this
      rw [hnn, Int.toNat_natCast] at this ⊢
      rw [e1, or64 _ _ (by omega) (by omega)]
      exact this
    · rw [if_neg e]
      rw [if_neg e] at this ⊢
      exact this
theorem ipeople (p : Int) (l : List S62) (k : Nat) (hk : 32 < k) : impl_PeopleRead.f k p l = some (reads p l) := by
  unfold impl_PeopleRead.f reads
  rw [itermok p l k (by omega), Option.bind_some]
  by_cases h : TermB p l
  · have h15 := h.2.2.1
    rw [if_pos (by simpa using h), if_pos h]
    exact ipeople_loop p h.2.1 l h.2.2.1 (TermB_ok h) l.length 0 0 (by omega) (by omega) k (by omega)
  · rw [if_neg (by simpa using h), if_neg h]

/-- The bytes that are drawn from. -/
def Bytes (l : List Int) : Prop := l.length ≤ 2000 ∧ ∀ x ∈ l, 0 ≤ x ∧ x ≤ 255
theorem open_ok (l : List Int) (h : ∀ x ∈ l, (Lit.int .u8 x).wf = true) : ∃ b, Bytes b ∧ spec_l20Open.f l = some (b, 0) := by
  unfold spec_l20Open.f
  by_cases hl : (l.length : Int) > 2000
  · refine ⟨l.take 2000, ⟨by simp; omega, fun x hx => wf8 (h x (List.mem_of_mem_take hx))⟩, ?_⟩
    rw [if_pos hl, if_pos (by omega)]
  · exact ⟨l, ⟨by omega, fun x hx => wf8 (h x hx)⟩, by rw [if_neg hl]⟩

theorem rd_byte {b : List Int} (h : Bytes b) (i : Int) : 0 ≤ rd b i ∧ rd b i ≤ 255 := by
  unfold rd
  rw [List.getD_eq_getElem?_getD]
  by_cases hi : i.toNat < b.length
  · rw [List.getElem?_eq_getElem hi, Option.getD_some]; exact h.2 _ (List.getElem_mem hi)
  · rw [List.getElem?_eq_none (by omega)]; decide
theorem pick_ok {b : List Int} (hb : Bytes b) (pos n : Int) (h0 : 0 ≤ pos) (h1 : pos ≤ 1000000000) :
    ∃ r, (0 ≤ r ∧ (1 ≤ n → r < n) ∧ (n < 1 → r = 0)) ∧ ∀ k, spec_l20Rd_pick.f (k + 1) b pos n = some (r, pos + 1) := by
  have hl := hb.1
  have e1 : wrap64 (pos + 1) = pos + 1 := w64 (by omega) (by omega)
  have e2 : wrap64 (pos + 1 - 1) = pos := by rw [w64 (by omega) (by omega)]; omega
  by_cases hn : n < 1
  · refine ⟨0, ⟨by omega, by omega, fun _ => rfl⟩, fun k => ?_⟩
    unfold spec_l20Rd_pick.f
    rw [if_pos hn, e1]; rw [spec_l20Rd_pick.j0]; rw [if_pos rfl]
  · by_cases hz : b.length = 0
    · refine ⟨0, ⟨by omega, by omega, fun _ => rfl⟩, fun k => ?_⟩
      unfold spec_l20Rd_pick.f
      rw [if_neg hn, e1]; rw [spec_l20Rd_pick.j0]; rw [if_pos (by simp; exact List.eq_nil_of_length_eq_zero hz)]
    · by_cases hp : pos < (b.length : Int)
      · have hr := rd_byte hb pos
        refine ⟨Int.tmod (rd b pos) n, ⟨Int.tmod_nonneg _ hr.1, fun _ => Int.tmod_lt_of_pos _ (by omega), by omega⟩, fun k => ?_⟩
        unfold spec_l20Rd_pick.f
        rw [if_neg hn, e1]; rw [spec_l20Rd_pick.j0]
        rw [if_neg (by simp; exact List.ne_nil_of_length_pos (by omega)), e2, if_pos hp, if_pos h0, if_neg (by omega), w64 (x := rd b pos) (by omega) (by omega)]
      · have hr1 := rd_byte hb (Int.tmod pos (b.length : Int))
        have em : wrap64 (wrap64 (pos * 7) + 3) = pos * 7 + 3 := by rw [w64 (x := pos * 7) (by omega) (by omega), w64 (by omega) (by omega)]
        have hr2 := rd_byte hb (Int.tmod (pos * 7 + 3) (b.length : Int))
        have hd : 0 ≤ Int.tdiv pos (b.length : Int) ∧ Int.tdiv pos (b.length : Int) ≤ pos := ⟨Int.tdiv_nonneg h0 (by omega), by rw [Int.tdiv_eq_ediv_of_nonneg h0]; exact Int.ediv_le_self _ h0⟩
        generalize hA : rd b (Int.tmod pos (b.length : Int)) = A at hr1
        generalize hB : rd b (Int.tmod (pos * 7 + 3) (b.length : Int)) = B at hr2
        generalize hD : Int.tdiv pos (b.length : Int) = D at hd
        obtain ⟨X, hX⟩ : ∃ X : Nat, A * 131 + B * 1117 + pos * 29 + D * 53 = (X : Int) := Int.eq_ofNat_of_zero_le (by omega)
        have hXb : (X : Int) < 4611686018427387904 := by omega
        refine ⟨Int.tmod ((X ^^^ (X / 64) : Nat) : Int) n, ⟨Int.tmod_nonneg _ (by omega), fun _ => Int.tmod_lt_of_pos _ (by omega), by omega⟩, fun k => ?_⟩
        unfold spec_l20Rd_pick.f
        rw [if_neg hn, e1]; rw [spec_l20Rd_pick.j0]
        rw [if_neg (by simp; exact List.ne_nil_of_length_pos (by omega)), e2, if_neg hp, if_neg (by omega), if_pos (Int.tmod_nonneg _ h0), if_pos (Int.tmod_lt_of_pos _ (by omega)), em, if_pos (Int.tmod_nonneg _ (by omega)), if_pos (Int.tmod_lt_of_pos _ (by omega)), if_neg (by omega), hA, hB, hD]
        have w1 : wrap64 (wrap64 A * 131) = A * 131 := by rw [w64 (x := A) (by omega) (by omega), w64 (by omega) (by omega)]
        have w2 : wrap64 (wrap64 B * 1117) = B * 1117 := by rw [w64 (x := B) (by omega) (by omega), w64 (by omega) (by omega)]
        have w3 : wrap64 (pos * 29) = pos * 29 := w64 (by omega) (by omega)
        have w4 : wrap64 (wrap64 D * 53) = D * 53 := by rw [w64 (x := D) (by omega) (by omega), w64 (by omega) (by omega)]
        have w5 : wrap64 (A * 131 + B * 1117) = A * 131 + B * 1117 := w64 (by omega) (by omega)
        have w6 : wrap64 (A * 131 + B * 1117 + pos * 29) = A * 131 + B * 1117 + pos * 29 := w64 (by omega) (by omega)
        have w7 : wrap64 (A * 131 + B * 1117 + pos * 29 + D * 53) = (X : Int) := by rw [w64 (by omega) (by omega)]; exact hX
        rw [w1, w2, w3, w4, w5, w6, w7]
        have w8 : wrap64 (Int.tdiv (X : Int) 64) = ((X / 64 : Nat) : Int) := by
          rw [Int.tdiv_eq_ediv_of_nonneg (by omega), w64 (by omega) (by omega)]; simp
        rw [w8, xor64 _ _ (by omega) (by omega)]

/-- A mark that is drawn; rows of them, none empty; how many there are. -/
def DMk (m : S62) : Prop := (0 ≤ m.f0 ∧ m.f0 ≤ 5) ∧ 0 ≤ m.f1 ∧ m.f1 ≤ 6
def RowsOk (x : List (List S62)) : Prop := ∀ r ∈ x, r ≠ [] ∧ ∀ m ∈ r, DMk m
def tot (x : List (List S62)) : Nat := (x.map List.length).sum
theorem tot_app (x y : List (List S62)) : tot (x ++ y) = tot x + tot y := by simp [tot]
theorem tot_cons (a : List S62) (y : List (List S62)) : tot (a :: y) = a.length + tot y := by simp [tot]
theorem tot_nil : tot [] = 0 := rfl
theorem cut1 (x : List (List S62)) (i : Nat) (h : i < x.length) : ∃ A a C, x = A ++ a :: C ∧ A.length = i :=
  ⟨x.take i, x[i], x.drop (i + 1), by rw [← List.drop_eq_getElem_cons h, List.take_append_drop], by simp; omega⟩
theorem cut2 (x : List (List S62)) (i : Nat) (h : i + 1 < x.length) : ∃ A a b C, x = A ++ a :: b :: C ∧ A.length = i :=
  ⟨x.take i, x[i], x[i + 1], x.drop (i + 1 + 1), by rw [← List.drop_eq_getElem_cons h, ← List.drop_eq_getElem_cons (by omega), List.take_append_drop], by simp; omega⟩
theorem take_at (A C : List (List S62)) (a a' : List S62) : (A ++ a :: a' :: C).take A.length = A := List.take_left
theorem drop_at (A C : List (List S62)) (a a' : List S62) : (A ++ a :: a' :: C).drop (A.length + 2) = C := by
  induction A with
  | nil => rfl
  | cons h t ih => exact ih
theorem len_at (A C : List (List S62)) (a a' : List S62) : (A ++ a :: a' :: C).length = A.length + 2 + C.length := by
  simp only [List.length_append, List.length_cons]; omega
theorem set_at (A C : List (List S62)) (a a' r : List S62) : (A ++ a :: a' :: C).set A.length r = A ++ r :: a' :: C := by
  induction A with
  | nil => rfl
  | cons h t ih => exact congrArg (h :: ·) ih
theorem rdL_at (A C : List (List S62)) (a : List S62) (i : Int) (hi : i = A.length) : rd_L3 (A ++ a :: C) i = a := by
  subst hi; simp [rd_L3, List.getD_eq_getElem?_getD]
theorem rdL_at2 (A C : List (List S62)) (a b : List S62) (i : Int) (hi : i = A.length + 1) : rd_L3 (A ++ a :: b :: C) i = b := by
  have e : A ++ a :: b :: C = (A ++ [a]) ++ b :: C := by simp
  rw [e]; exact rdL_at _ _ _ _ (by simp; omega)
theorem odd_ok {b : List Int} (hb : Bytes b) (pos n : Int) (h0 : 0 ≤ pos) (h1 : pos ≤ 1000000000) (hn : 0 ≤ n ∧ n ≤ 1000) :
    ∃ o e, (pos ≤ e ∧ e ≤ pos + 1) ∧ ∀ k, 0 < k → spec_l20Rd_odd.f k b pos n = some (o, e) := by
  by_cases h : n > 0
  · obtain ⟨r, hr, p⟩ := pick_ok hb pos n h0 h1
    refine ⟨r == wrap64 (n - 1), pos + 1, by omega, fun k hk => ?_⟩
    obtain ⟨k, rfl⟩ : ∃ m, k = m + 1 := ⟨k - 1, by omega⟩
    unfold spec_l20Rd_odd.f
    rw [if_pos h, p]; rfl
  · refine ⟨false, pos, by omega, fun k hk => ?_⟩
    unfold spec_l20Rd_odd.f
    rw [if_neg h]
theorem tj2_ok {b : List Int} (hb : Bytes b) (n : Int) (hn : 0 ≤ n ∧ n ≤ 1000) (x : List S62) (hx : x ≠ []) (hm : ∀ m ∈ x, DMk m) (hl : x.length ≤ 11) (pos : Int) (h0 : 0 ≤ pos) (h1 : pos ≤ 100000) :
    ∃ t e, ((t.length ≤ 12 ∧ ∀ m ∈ t, DMk m) ∧ pos ≤ e ∧ e ≤ pos + 3) ∧ ∀ k, 1 < k → spec_l20Term.j2 k n x b pos = some (t, e) := by
  obtain ⟨o, e, he, po⟩ := odd_ok hb pos n h0 (by omega) hn
  obtain ⟨r1, hr1, p1⟩ := pick_ok hb e 3 (by omega) (by omega)
  obtain ⟨r2, hr2, p2⟩ := pick_ok hb (e + 1) 2 (by omega) (by omega)
  have hx0 : 0 < x.length := List.length_pos_iff.2 hx
  have run : ∀ k, 1 < k → spec_l20Term.j2 k n x b pos = (if o = true then (if r1 = 0 then some ([], e + 1) else if r1 = 1 then some (x ++ [⟨5, 0⟩], e + 1) else some (x.set 0 ⟨r2, 6⟩, e + 1 + 1)) else some (x, e)) := by
    intro k hk
    obtain ⟨k, rfl⟩ : ∃ m, k = m + 2 := ⟨k - 2, by omega⟩
    rw [spec_l20Term.j2, po _ (by omega)]; simp only [Option.bind_some]
    by_cases ho : o = true
    · rw [if_pos ho, if_pos ho, p1]; simp only [Option.bind_some]
      by_cases c0 : r1 = 0
      · rw [if_pos c0, if_pos c0]
      · rw [if_neg c0, if_neg c0]
        by_cases c1 : r1 = 1
        · rw [if_pos c1, if_pos c1, if_pos (by omega)]
        · rw [if_neg c1, if_neg c1, p2]; simp only [Option.bind_some]
          rw [if_pos (by omega)]; rfl
    · rw [if_neg ho, if_neg ho]
  by_cases ho : o = true
  · by_cases c0 : r1 = 0
    · exact ⟨[], e + 1, ⟨⟨by simp, by simp⟩, by omega, by omega⟩, fun k hk => by rw [run k hk, if_pos ho, if_pos c0]⟩
    · by_cases c1 : r1 = 1
      · refine ⟨x ++ [⟨5, 0⟩], e + 1, ⟨⟨by simp; omega, fun m h => ?_⟩, by omega, by omega⟩, fun k hk => by rw [run k hk, if_pos ho, if_neg c0, if_pos c1]⟩
        rcases List.mem_append.1 h with h | h
        · exact hm m h
        · rw [List.mem_singleton.1 h]; exact ⟨by decide, by decide⟩
      · refine ⟨x.set 0 ⟨r2, 6⟩, e + 1 + 1, ⟨⟨by simp; omega, fun m h => ?_⟩, by omega, by omega⟩, fun k hk => by rw [run k hk, if_pos ho, if_neg c0, if_neg c1]⟩
        rcases List.mem_or_eq_of_mem_set h with h | h
        · exact hm m h
        · subst h; exact ⟨⟨hr2.1, by have := hr2.2.1 (by omega); show r2 ≤ 5; omega⟩, by show (0 : Int) ≤ 6 ∧ (6 : Int) ≤ 6; omega⟩
  · exact ⟨x, e, ⟨⟨by omega, hm⟩, by omega, by omega⟩, fun k hk => by rw [run k hk, if_neg ho]⟩
theorem pick_ok' {b : List Int} (hb : Bytes b) (pos n : Int) (h0 : 0 ≤ pos) (h1 : pos ≤ 1000000000) :
    ∃ r, (0 ≤ r ∧ (1 ≤ n → r < n) ∧ (n < 1 → r = 0)) ∧ ∀ k, 0 < k → spec_l20Rd_pick.f k b pos n = some (r, pos + 1) := by
  obtain ⟨r, hr, p⟩ := pick_ok hb pos n h0 h1
  refine ⟨r, hr, fun k hk => ?_⟩
  obtain ⟨k, rfl⟩ : ∃ m, k = m + 1 := ⟨k - 1, by omega⟩
  exact p k
theorem DMk0 {f : Int} (h0 : 0 ≤ f) (h1 : f ≤ 5) : DMk (⟨f, 0⟩ : S62) := ⟨⟨h0, h1⟩, Int.le_refl 0, by show (0 : Int) ≤ 6; omega⟩
theorem all_app {P : S62 → Prop} {x y : List S62} (hx : ∀ m ∈ x, P m) (hy : ∀ m ∈ y, P m) : ∀ m ∈ x ++ y, P m := fun m h => by
  rcases List.mem_append.1 h with h | h
  · exact hx m h
  · exact hy m h
theorem all_one {P : S62 → Prop} {a : S62} (h : P a) : ∀ m ∈ [a], P m := fun m hm => by rw [List.mem_singleton.1 hm]; exact h
theorem rows_app {x y : List (List S62)} (hx : RowsOk x) (hy : RowsOk y) : RowsOk (x ++ y) := fun r h => by
  rcases List.mem_append.1 h with h | h
  · exact hx r h
  · exact hy r h
theorem rows_cons {a : List S62} {y : List (List S62)} (h0 : a ≠ []) (ha : ∀ m ∈ a, DMk m) (hy : RowsOk y) : RowsOk (a :: y) := fun r h => by
  rcases List.mem_cons.1 h with h | h
  · rw [h]; exact ⟨h0, ha⟩
  · exact hy r h
theorem rows_nil : RowsOk [] := fun r h => by cases h
theorem snoc_ne (a : List S62) (m : S62) : a ++ [m] ≠ [] := by simp
theorem tl1_end {b : List Int} (hb : Bytes b) (n : Int) (hn : 0 ≤ n ∧ n ≤ 1000) (x : List (List S62)) (c pos : Int) (h1 : x.length = 1) (hr : RowsOk x) (ht : tot x ≤ 10) (h0 : 0 ≤ pos) (hp : pos ≤ 50000) :
    ∃ t e, ((t.length ≤ 12 ∧ ∀ m ∈ t, DMk m) ∧ pos ≤ e ∧ e ≤ pos + 4) ∧ ∀ k, 3 < k → spec_l20Term.l1 k n x c b pos = some (t, e) := by
  obtain ⟨A, a, C, hx, hA⟩ := cut1 x 0 (by omega)
  have hxa : rd_L3 x 0 = a := by rw [hx]; exact rdL_at _ _ _ _ (by omega)
  have ha := hr a (by rw [hx]; simp)
  have htt : tot x = tot A + (a.length + tot C) := by rw [hx, tot_app, tot_cons]
  obtain ⟨r, hr5, p5⟩ := pick_ok' hb pos 5 h0 (by omega)
  by_cases c0 : r = 0
  · obtain ⟨t, e, hte, hk⟩ := tj2_ok hb n hn (a ++ [⟨2, 0⟩]) (snoc_ne _ _) (all_app ha.2 (all_one (DMk0 (by omega) (by omega)))) (by rw [List.length_append]; show a.length + 1 ≤ 11; omega) (pos + 1) (by omega) (by omega)
    refine ⟨t, e, ⟨hte.1, by omega, by omega⟩, fun k hk' => ?_⟩
    obtain ⟨k, rfl⟩ : ∃ m, k = m + 1 := ⟨k - 1, by omega⟩
    rw [spec_l20Term.l1, if_neg (by omega), if_pos (by omega), p5 k (by omega), Option.bind_some, if_pos c0, hxa, if_pos (by omega)]
    exact hk k (by omega)
  · obtain ⟨t, e, hte, hk⟩ := tj2_ok hb n hn a ha.1 ha.2 (by omega) (pos + 1) (by omega) (by omega)
    refine ⟨t, e, ⟨hte.1, by omega, by omega⟩, fun k hk' => ?_⟩
    obtain ⟨k, rfl⟩ : ∃ m, k = m + 1 := ⟨k - 1, by omega⟩
    rw [spec_l20Term.l1, if_neg (by omega), if_pos (by omega), p5 k (by omega), Option.bind_some, if_neg c0, hxa]
    exact hk k (by omega)
theorem tl1_ok {b : List Int} (hb : Bytes b) (n : Int) (hn : 0 ≤ n ∧ n ≤ 1000) (d : Nat) : ∀ (x : List (List S62)) (c : Nat) (pos : Int), 1 ≤ x.length → x.length + c ≤ d + 1 → RowsOk x → tot x + x.length + c ≤ 11 → 0 ≤ pos → pos + 3 * d ≤ 50000 →
    ∃ t e, ((t.length ≤ 12 ∧ ∀ m ∈ t, DMk m) ∧ pos ≤ e ∧ e ≤ pos + 3 * d + 4) ∧ ∀ k, d + 3 < k → spec_l20Term.l1 k n x (c : Int) b pos = some (t, e) := by
  induction d with
  | zero =>
    intro x c pos h1 h2 hr ht h0 hp
    obtain ⟨t, e, hte, hk⟩ := tl1_end hb n hn x c pos (by omega) hr (by omega) h0 (by omega)
    exact ⟨t, e, ⟨hte.1, by omega, by omega⟩, fun k hk' => hk k (by omega)⟩
  | succ d ih =>
    intro x c pos h1 h2 hr ht h0 hp
    by_cases hx1 : x.length = 1
    · obtain ⟨t, e, hte, hk⟩ := tl1_end hb n hn x c pos (by omega) hr (by omega) h0 (by omega)
      exact ⟨t, e, ⟨hte.1, by omega, by omega⟩, fun k hk' => hk k (by omega)⟩
    · obtain ⟨i, hi, p1⟩ := pick_ok' hb pos ((x.length : Int) - 1) h0 (by omega)
      obtain ⟨i, rfl⟩ := Int.eq_ofNat_of_zero_le hi.1
      have hi1 : i + 1 < x.length := by have := hi.2.1 (by omega); omega
      clear hi
      obtain ⟨A, a, a', C, hx, hA⟩ := cut2 x i hi1
      have hd : rd_L3 x (i : Int) = a := by rw [hx]; exact rdL_at _ _ _ _ (by omega)
      have hd2 : rd_L3 x ((i : Int) + 1) = a' := by rw [hx]; exact rdL_at2 _ _ _ _ _ (by omega)
      have hin : (i : Int).toNat = A.length := by rw [hA]; exact Int.toNat_natCast i
      have hin2 : ((i : Int) + 2).toNat = A.length + 2 := by rw [hA]; exact Int.toNat_natCast (i + 2)
      have htake : x.take (i : Int).toNat = A := by rw [hin, hx]; exact take_at _ _ _ _
      have hdrop : x.drop ((i : Int) + 2).toNat = C := by rw [hin2, hx]; exact drop_at _ _ _ _
      have hxlen : x.length = A.length + 2 + C.length := by rw [hx]; exact len_at _ _ _ _
      have ha := hr a (by rw [hx]; exact List.mem_append_right _ List.mem_cons_self)
      have ha' := hr a' (by rw [hx]; exact List.mem_append_right _ (List.mem_cons_of_mem _ List.mem_cons_self))
      have hrA : RowsOk A := fun r h => hr r (by rw [hx]; exact List.mem_append_left _ h)
      have hrC : RowsOk C := fun r h => hr r (by rw [hx]; exact List.mem_append_right _ (List.mem_cons_of_mem _ (List.mem_cons_of_mem _ h)))
      have htot : tot x = tot A + (a.length + (a'.length + tot C)) := by rw [hx, tot_app, tot_cons, tot_cons]
      have hl1 : a.length ≤ 11 := by omega
      have hl2 : a'.length ≤ 11 := by omega
      have join : ∀ q : Int, pos ≤ q → q ≤ pos + 2 → ∃ v t e, (0 ≤ v ∧ v < 3) ∧ (∀ k, 0 < k → spec_l20Rd_pick.f k b q 3 = some (v, q + 1)) ∧ ((t.length ≤ 12 ∧ ∀ m ∈ t, DMk m) ∧ pos ≤ e ∧ e ≤ pos + 3 * (d + 1 : Nat) + 4) ∧ ∀ k, d + 3 < k → spec_l20Term.l1 k n (A ++ [a ++ a' ++ [(⟨3 + v, 0⟩ : S62)]] ++ C) (c : Int) b (q + 1) = some (t, e) := by
        intro q hq1 hq2
        obtain ⟨v, hv, p3⟩ := pick_ok' hb q 3 (by omega) (by omega)
        have hv3 := hv.2.1 (by omega)
        have hlen : (A ++ [a ++ a' ++ [(⟨3 + v, 0⟩ : S62)]] ++ C).length = A.length + 1 + C.length := by simp only [List.length_append, List.length_cons, List.length_nil]; try omega
        have htt : tot (A ++ [a ++ a' ++ [(⟨3 + v, 0⟩ : S62)]] ++ C) = tot A + (a.length + a'.length + 1) + tot C := by
          simp only [tot_app, tot_cons, tot_nil, List.length_append, List.length_cons, List.length_nil]; try omega
        obtain ⟨t, e, hte, hk⟩ := ih (A ++ [a ++ a' ++ [(⟨3 + v, 0⟩ : S62)]] ++ C) c (q + 1) (by omega) (by omega) (rows_app (rows_app hrA (rows_cons (snoc_ne _ _) (all_app (all_app ha.2 ha'.2) (all_one (DMk0 (by omega) (by omega)))) rows_nil)) hrC) (by omega) (by omega) (by omega)
        exact ⟨v, t, e, ⟨hv.1, hv3⟩, p3, ⟨hte.1, by omega, by omega⟩, hk⟩
      have fin : ∀ (k : Nat) (q v : Int), d + 3 < k → (0 ≤ v ∧ v < 3) → (∀ k, 0 < k → spec_l20Rd_pick.f k b q 3 = some (v, q + 1)) → ((some (([] : List (S62)) : List (S62))).bind fun y206 => (if 0 ≤ (i : Int) then (if (i : Int) < (x.length : Int) then (if y206.length + (rd_L3 x (i : Int)).length < 8796093022208 then ((some (y206 ++ (rd_L3 x (i : Int)) : List (S62))).bind fun y210 => (if 0 ≤ (wrap64 ((i : Int) + 1)) then (if (wrap64 ((i : Int) + 1)) < (x.length : Int) then (if y210.length + (rd_L3 x (wrap64 ((i : Int) + 1))).length < 8796093022208 then ((some (y210 ++ (rd_L3 x (wrap64 ((i : Int) + 1))) : List (S62))).bind fun y214 => ((spec_l20Rd_pick.f k b q 3).bind fun bt217 => (if y214.length < 8796093022208 then ((some (([] : List (List (S62))) : List (List (S62)))).bind fun y222 => (if (i : Int) ≤ (x.length : Int) then ((some (x.take ((i : Int) : Int).toNat : List (List (S62)))).bind fun y225 => (if y222.length + y225.length < 5864062014805 then ((some (y222 ++ y225 : List (List (S62)))).bind fun y229 => (if y229.length < 5864062014805 then ((some (y229 ++ [(y214 ++ [(⟨wrap64 (3 + bt217.1), 0⟩ : S62)])] : List (List (S62)))).bind fun y232 => (if 0 ≤ (wrap64 ((i : Int) + 2)) then (if (wrap64 ((i : Int) + 2)) ≤ (x.length : Int) then ((some (x.drop ((wrap64 ((i : Int) + 2)) : Int).toNat : List (List (S62)))).bind fun y235 => (if y232.length + y235.length < 5864062014805 then (spec_l20Term.l1 k n (y232 ++ y235) (c : Int) b bt217.2) else (none))) else (none)) else (none))) else (none))) else (none))) else (none))) else (none)))) else (none)) else (none)) else (none))) else (none)) else (none)) else (none))) = spec_l20Term.l1 k n (A ++ [a ++ a' ++ [(⟨3 + v, 0⟩ : S62)]] ++ C) (c : Int) b (q + 1) := by
        intro k q v hk hv p3
        simp only [Option.bind_some, w64 (x := (i : Int) + 1) (by omega) (by omega), w64 (x := (i : Int) + 2) (by omega) (by omega), hd, hd2, htake, hdrop, List.nil_append, List.length_nil, Nat.zero_add]
        have e1 : (a ++ a').length ≤ 22 := by rw [List.length_append]; omega
        have e2 : (A ++ [a ++ a' ++ [(⟨wrap64 (3 + v), 0⟩ : S62)]]).length = A.length + 1 := by simp only [List.length_append, List.length_cons, List.length_nil]
        rw [if_pos (by omega), if_pos (by omega), if_pos (by omega), if_pos (by omega), if_pos (by omega), if_pos (by omega), p3 k (by omega), Option.bind_some]
        rw [if_pos (by omega), if_pos (by omega), if_pos (by omega), if_pos (by omega), if_pos (by omega), if_pos (by omega), if_pos (by rw [e2]; omega), w64 (x := 3 + v) (by omega) (by omega)]
      by_cases hc : c = 0
      · obtain ⟨v, t, e, hv, p3, hte, hk⟩ := join (pos + 1) (by omega) (by omega)
        refine ⟨t, e, hte, fun k hk' => ?_⟩
        obtain ⟨k, rfl⟩ : ∃ m, k = m + 1 := ⟨k - 1, by omega⟩
        rw [spec_l20Term.l1, if_pos (by omega), w64 (x := (x.length : Int) - 1) (by omega) (by omega), p1 k (by omega), Option.bind_some, if_neg (by omega), ← hk k (by omega)]
        exact fin k (pos + 1) v (by omega) hv p3
      · obtain ⟨r2, hr2, p2⟩ := pick_ok' hb (pos + 1) 4 (by omega) (by omega)
        by_cases c0 : r2 = 0
        · obtain ⟨c, rfl⟩ : ∃ m, c = m + 1 := ⟨c - 1, by omega⟩
          have hlen : (A ++ (a ++ [(⟨2, 0⟩ : S62)]) :: a' :: C).length = A.length + 2 + C.length := by simp only [List.length_append, List.length_cons]; try omega
          have htt : tot (A ++ (a ++ [(⟨2, 0⟩ : S62)]) :: a' :: C) = tot A + (a.length + 1 + (a'.length + tot C)) := by simp only [tot_app, tot_cons, List.length_append, List.length_cons, List.length_nil]; try omega
          obtain ⟨t, e, hte, hk⟩ := ih (A ++ (a ++ [(⟨2, 0⟩ : S62)]) :: a' :: C) c (pos + 1 + 1) (by omega) (by omega) (rows_app hrA (rows_cons (snoc_ne _ _) (all_app ha.2 (all_one (DMk0 (by omega) (by omega)))) (rows_cons ha'.1 ha'.2 hrC))) (by omega) (by omega) (by omega)
          refine ⟨t, e, ⟨hte.1, by omega, by omega⟩, fun k hk' => ?_⟩
          obtain ⟨k, rfl⟩ : ∃ m, k = m + 1 := ⟨k - 1, by omega⟩
          have hset : x.set (i : Int).toNat (a ++ [(⟨2, 0⟩ : S62)]) = A ++ (a ++ [(⟨2, 0⟩ : S62)]) :: a' :: C := by
            rw [hin, hx]; exact set_at _ _ _ _ _
          rw [spec_l20Term.l1, if_pos (by omega), w64 (x := (x.length : Int) - 1) (by omega) (by omega), p1 k (by omega), Option.bind_some, if_pos (by omega), p2 k (by omega), Option.bind_some, if_pos c0]
          simp only [Option.bind_some, hd, List.nil_append, List.length_nil, Nat.zero_add]
          rw [if_pos (by omega), if_pos (by omega), if_pos (by omega), if_pos (by omega), hset, w64 (by omega) (by omega), show ((c + 1 : Nat) : Int) - 1 = (c : Int) by omega]
          exact hk k (by omega)
        · obtain ⟨v, t, e, hv, p3, hte, hk⟩ := join (pos + 1 + 1) (by omega) (by omega)
          refine ⟨t, e, hte, fun k hk' => ?_⟩
          obtain ⟨k, rfl⟩ : ∃ m, k = m + 1 := ⟨k - 1, by omega⟩
          rw [spec_l20Term.l1, if_pos (by omega), w64 (x := (x.length : Int) - 1) (by omega) (by omega), p1 k (by omega), Option.bind_some, if_pos (by omega), p2 k (by omega), Option.bind_some, if_neg c0, ← hk k (by omega)]
          exact fin k (pos + 1 + 1) v (by omega) hv p3
theorem tl0_ok {b : List Int} (hb : Bytes b) (p n : Int) (hp : 1 ≤ p ∧ p ≤ 4) (hn : 0 ≤ n ∧ n ≤ 1000) (d : Nat) : ∀ (x : List (List S62)) (pos : Int), 1 ≤ x.length + d → x.length + d ≤ 4 → RowsOk x → tot x = x.length → 0 ≤ pos → pos + 2 * d ≤ 10000 →
    ∃ t e, ((t.length ≤ 12 ∧ ∀ m ∈ t, DMk m) ∧ pos ≤ e ∧ e ≤ pos + 2 * d + 25) ∧ ∀ k, d + 11 < k → spec_l20Term.l0 k p n x (d : Int) b pos = some (t, e) := by
  induction d with
  | zero =>
    intro x pos h1 h2 hr ht h0 hp'
    obtain ⟨t, e, hte, hk⟩ := tl1_ok hb n hn 6 x 3 pos (by omega) (by omega) hr (by omega) h0 (by omega)
    refine ⟨t, e, ⟨hte.1, by omega, by omega⟩, fun k hk' => ?_⟩
    obtain ⟨k, rfl⟩ : ∃ m, k = m + 1 := ⟨k - 1, by omega⟩
    rw [spec_l20Term.l0, if_neg (by omega)]
    exact hk k (by omega)
  | succ d ih =>
    intro x pos h1 h2 hr ht h0 hp'
    obtain ⟨r1, hr1, p1⟩ := pick_ok' hb pos 4 h0 (by omega)
    have e1 : ((d + 1 : Nat) : Int) - 1 = (d : Int) := by omega
    by_cases c0 : r1 = 0
    · obtain ⟨r2, hr2, p2⟩ := pick_ok' hb (pos + 1) (p + 2) (by omega) (by omega)
      have := hr2.2.1 (by omega)
      obtain ⟨t, e, hte, hk⟩ := ih (x ++ [[(⟨1, r2⟩ : S62)]]) (pos + 1 + 1) (by simp; omega) (by simp; omega) (rows_app hr (rows_cons (by simp) (all_one ⟨by show 0 ≤ (1 : Int) ∧ (1 : Int) ≤ 5; omega, by show 0 ≤ r2 ∧ r2 ≤ 6; omega⟩) rows_nil)) (by rw [tot_app, ht]; simp [tot]) (by omega) (by omega)
      refine ⟨t, e, ⟨hte.1, by omega, by omega⟩, fun k hk' => ?_⟩
      obtain ⟨k, rfl⟩ : ∃ m, k = m + 1 := ⟨k - 1, by omega⟩
      rw [spec_l20Term.l0, if_pos (by omega), p1 k (by omega)]; simp only [Option.bind_some]
      rw [if_pos c0, w64 (x := p + 2) (by omega) (by omega), p2 k (by omega)]; simp only [Option.bind_some]
      rw [if_pos (by omega), w64 (by omega) (by omega), e1]
      exact hk k (by omega)
    · obtain ⟨r2, hr2, p2⟩ := pick_ok' hb (pos + 1) p (by omega) (by omega)
      have := hr2.2.1 (by omega)
      obtain ⟨t, e, hte, hk⟩ := ih (x ++ [[(⟨0, r2⟩ : S62)]]) (pos + 1 + 1) (by simp; omega) (by simp; omega) (rows_app hr (rows_cons (by simp) (all_one ⟨by show 0 ≤ (0 : Int) ∧ (0 : Int) ≤ 5; omega, by show 0 ≤ r2 ∧ r2 ≤ 6; omega⟩) rows_nil)) (by rw [tot_app, ht]; simp [tot]) (by omega) (by omega)
      refine ⟨t, e, ⟨hte.1, by omega, by omega⟩, fun k hk' => ?_⟩
      obtain ⟨k, rfl⟩ : ∃ m, k = m + 1 := ⟨k - 1, by omega⟩
      rw [spec_l20Term.l0, if_pos (by omega), p1 k (by omega)]; simp only [Option.bind_some]
      rw [if_neg c0, p2 k (by omega)]; simp only [Option.bind_some]
      rw [if_pos (by omega), w64 (by omega) (by omega), e1]
      exact hk k (by omega)
/-- The term that is drawn. -/
theorem l20Term_ok {b : List Int} (hb : Bytes b) (pos p n : Int) (h0 : 0 ≤ pos) (h1 : pos ≤ 5000) (hn : 0 ≤ n ∧ n ≤ 1000) :
    ∃ t e, ((t.length ≤ 12 ∧ ∀ m ∈ t, DMk m) ∧ pos ≤ e ∧ e ≤ pos + 40) ∧ ∀ k, 16 < k → spec_l20Term.f k b pos p n = some (t, e) := by
  obtain ⟨r, hr, p1⟩ := pick_ok' hb pos 4 h0 (by omega)
  have hr4 := hr.2.1 (by omega)
  have hm : 1 ≤ mn (mx p 1) 4 ∧ mn (mx p 1) 4 ≤ 4 := by unfold mn mx; (repeat' split) <;> omega
  obtain ⟨d, hd⟩ : ∃ d : Nat, 1 + r = (d : Int) := Int.eq_ofNat_of_zero_le (by omega)
  obtain ⟨t, e, hte, hk⟩ := tl0_ok hb (mn (mx p 1) 4) n hm hn d [] (pos + 1) (by simp; omega) (by simp; omega) (fun r h => by cases h) rfl (by omega) (by omega)
  refine ⟨t, e, ⟨hte.1, by omega, by omega⟩, fun k hk' => ?_⟩
  unfold spec_l20Term.f
  rw [p1 k (by omega)]; simp only [Option.bind_some]
  rw [w64 (by omega) (by omega), hd]
  exact hk k (by omega)

theorem DMk_W {m : S62} (h : DMk m) : -9223372036854775808 ≤ m.f0 ∧ m.f0 ≤ 9223372036854775807 ∧ -9223372036854775808 ≤ m.f1 ∧ m.f1 ≤ 9223372036854775807 := by
  obtain ⟨h0, h1⟩ := h
  omega

theorem l20Termed_ok {b : List Int} (hb : Bytes b) (pos n : Int) (h0 : 0 ≤ pos) (h1 : pos ≤ 3000) (hn : 0 ≤ n ∧ n ≤ 500) :
    ∃ p t e, ((1 ≤ p ∧ p ≤ 8) ∧ (t.length ≤ 12 ∧ ∀ m ∈ t, DMk m) ∧ pos ≤ e ∧ e ≤ pos + 50) ∧ ∀ k, 16 < k → spec_l20Termed.f k b pos n = some (p, t, e) := by
  obtain ⟨r, hr, p1⟩ := pick_ok' hb pos 4 h0 (by omega)
  have hr4 := hr.2.1 (by omega)
  obtain ⟨r2, hr2, p2⟩ := pick_ok' hb (pos + 1) 60 (by omega) (by omega)
  have h2 := hr2.2.1 (by omega)
  obtain ⟨t, e, hte, hk⟩ := l20Term_ok hb (pos + 1 + 1) (1 + r) n (by omega) (by omega) (by omega)
  have d1 : Int.tdiv r2 59 = r2 / 59 := Int.tdiv_eq_ediv_of_nonneg hr2.1
  refine ⟨1 + r + r2 / 59 * 4, t, e, ⟨by omega, hte.1, by omega, by omega⟩, fun k hk' => ?_⟩
  unfold spec_l20Termed.f
  rw [p1 k (by omega), Option.bind_some, p2 k (by omega), Option.bind_some, w64 (x := 1 + r) (by omega) (by omega), hk k hk', Option.bind_some, d1, w64 (x := r2 / 59) (by omega) (by omega), w64 (x := r2 / 59 * 4) (by omega) (by omega), w64 (by omega) (by omega)]

def WOk (p w : Int) : Prop := 1 ≤ p ∧ p ≤ 4 ∧ 0 ≤ w ∧ w < pw p
instance (p w : Int) : Decidable (WOk p w) := by unfold WOk; infer_instance
theorem iworld (p w : Int) : impl_WorldOk.f p w = some (decide (WOk p w)) := by
  unfold impl_WorldOk.f
  rw [people_eq, Option.bind_some]
  by_cases h : 1 ≤ p ∧ p ≤ 4
  · rw [if_pos (by simpa using h)]
    by_cases h2 : w ≥ 0
    · rw [if_pos h2, if_pos (by omega), shl_pw h.1 h.2]; congr 1; rw [decide_eq_decide]; unfold WOk; omega
    · rw [if_neg h2]; congr 1; symm; rw [decide_eq_false_iff_not]; unfold WOk; omega
  · rw [if_neg (by simpa using h)]; congr 1; symm; rw [decide_eq_false_iff_not]; unfold WOk; omega

theorem alive_eq : laws_alive.f = some true := by
  unfold laws_alive.f
  rw [iworld, Option.bind_some, if_pos (by decide), iworld, Option.bind_some]
  decide

/-! ### the law -/
/-- The letter lies in the text from a place on. -/
def seenP (s : ByteArray) (v i : Nat) : Prop := ∃ j : Nat, i ≤ j ∧ j < s.size ∧ bt s (j : Int) = 97 + (v : Int)
noncomputable instance (s : ByteArray) (v i : Nat) : Decidable (seenP s v i) := Classical.propDecidable _
theorem pr_l1 (p n : Int) (s : ByteArray) (hs : s.size ≤ 1000) (v : Nat) (hv : v < 4) (d : Nat) : ∀ (i : Nat) (b : Bool) (K : Nat), i + d = s.size →
    laws_FnPeopleRead.l1 (K + d + 1) p n s (v : Int) b (i : Int) = (if 0 ≤ (v : Int) then (if ((b || decide (seenP s v i)) != ((Int.tmod (shr .i64 n (v : Int)) 2) == 1)) = true then (some false) else (laws_FnPeopleRead.l0 K p n s (wrap64 ((v : Int) + 1)))) else (none)) := by
  induction d with
  | zero =>
    intro i b K hi
    have : decide (seenP s v i) = false := by
      rw [decide_eq_false_iff_not]; rintro ⟨j, h1, h2, _⟩; omega
    rw [this, Bool.or_false, laws_FnPeopleRead.l1, if_neg (by omega)]
  | succ d ih =>
    intro i b K hi
    have hb := bt_range s (i : Int)
    have hw1 : wrap64 ((i : Int) + 1) = ((i + 1 : Nat) : Int) := by rw [w64 (by omega) (by omega)]; omega
    rw [show K + (d + 1) + 1 = (K + d + 1) + 1 by omega, laws_FnPeopleRead.l1, if_pos (by omega), hw1]
    by_cases c : b = true
    · rw [if_pos c, ih (i + 1) true K (by omega), c]; rfl
    · rw [Bool.not_eq_true] at c
      rw [if_neg (by rw [c]; decide), if_pos (by omega), ih (i + 1) _ K (by omega), c, Bool.false_or, w64 (x := bt s (i : Int)) (by omega) (by omega), w64 (x := 97 + (v : Int)) (by omega) (by omega)]
      have e : ((bt s (i : Int) == 97 + (v : Int)) || decide (seenP s v (i + 1))) = decide (seenP s v i) := by
        rw [Bool.eq_iff_iff, Bool.or_eq_true, beq_iff_eq, decide_eq_true_iff, decide_eq_true_iff]
        constructor
        · rintro (h | ⟨j, h1, h2, h3⟩)
          · exact ⟨i, Nat.le_refl _, by omega, h⟩
          · exact ⟨j, by omega, h2, h3⟩
        · rintro ⟨j, h1, h2, h3⟩
          by_cases q : j = i
          · subst q; exact .inl h3
          · exact .inr ⟨j, by omega, h2, h3⟩
      rw [e]
theorem pr_l0 (p : Int) (t : List S62) (hT : TermB p t) (d : Nat) : ∀ v : Nat, (v : Int) + d = p → ∀ k, 100 * d + 100 < k → laws_FnPeopleRead.l0 k p (readsN t : Int) (tx t).1 (v : Int) = some true := by
  have hp : 1 ≤ p ∧ p ≤ 4 := ⟨hT.1, hT.2.1⟩
  have h15 := hT.2.2.1
  have hs := tx_size t hT.2.2.2
  have hr := readsN_lt hT
  induction d with
  | zero =>
    intro v h k hk
    obtain ⟨k, rfl⟩ : ∃ m, k = m + 1 := ⟨k - 1, by omega⟩
    have hpos : 0 < (tx t).1.size := by
      have key : ∀ t : List S62, Tm p t → 0 < (tx t).1.size := by
        apply Tm_ind
        · intro m hm
          rcases hm with ⟨e, _⟩ | ⟨e, _⟩
          · rw [tx_tells m e]; show 0 < (strOfNums [97 + m.f1]).size; rw [one_size]; omega
          · rw [tx_count m e]; show 0 < (strOfNums [48 + m.f1]).size; rw [one_size]; omega
        · intro a m ha e e0 _
          rw [tx_not a m ha e]
          show 0 < ((⟨#[33]⟩ : ByteArray) ++ sw 3 (tx a).2 (tx a).1).size
          have e1 : (⟨#[33]⟩ : ByteArray).size = 1 := rfl
          rw [ByteArray.size_append]; omega
        · intro a b m ha hb e3 e5 e0 _ _
          rw [tx_bin a b m ha hb e3]
          show 0 < (sw (5 - m.f0) (tx a).2 (tx a).1 ++ sg m.f0 ++ sw (5 - m.f0 + 1) (tx b).2 (tx b).1).size
          have h3 := sg_size m.f0
          rw [ByteArray.size_append, ByteArray.size_append]; omega
      exact key t hT.2.2.2
    have hlt : ((readsN t : Nat) : Int) < pw p := by
      have hbit : readsN t < 2 ^ p.toNat := by
        apply Nat.lt_pow_two_of_testBit
        intro j hj
        rw [Bool.eq_false_iff]
        intro hh
        unfold readsN at hh
        rw [rd_bit] at hh
        rcases hh with hh | ⟨m, hm, e, e2⟩
        · simp at hh
        · have := TermB_ok hT m hm
          unfold MOk at this
          omega
      have e : (pw p) = ((2 ^ p.toNat : Nat) : Int) := by rcases p4 hp.1 hp.2 with rfl | rfl | rfl | rfl <;> decide
      omega
    rw [laws_FnPeopleRead.l0, if_neg (by omega), if_pos (by omega), shl_pw hp.1 hp.2, if_pos hlt]
    congr 1
    rw [decide_eq_true_eq]; omega
  | succ d ih =>
    intro v h k hk
    obtain ⟨k, rfl⟩ : ∃ m, k = m + 1 := ⟨k - 1, by omega⟩
    have hv : v < 4 := by omega
    have hl := pr_l1 p (readsN t : Int) (tx t).1 (by omega) v hv (tx t).1.size 0 false (k - (tx t).1.size - 1) (by omega)
    rw [show k - (tx t).1.size - 1 + (tx t).1.size + 1 = k by omega] at hl
    have e1 : decide (seenP (tx t).1 v 0) = (readsN t).testBit v := by
      rw [Bool.eq_iff_iff, decide_eq_true_iff]
      have h1 := bt_has (tx t).1 hv
      have h2 := tx_letter hp.2 hv t hT.2.2.2
      have h3 := rd_bit v t 0
      unfold readsN
      rw [h3]
      constructor
      · rintro ⟨j, _, h4, h5⟩
        exact .inr (h2.1 (h1.1 ⟨j, h4, h5⟩))
      · rintro (h4 | h4)
        · simp at h4
        · obtain ⟨j, h5, h6⟩ := h1.2 (h2.2 h4)
          exact ⟨j, Nat.zero_le _, h5, h6⟩
    have hd : readsN t / 2 ^ v ≤ readsN t := Nat.div_le_self _ _
    have e2 : ((Int.tmod (shr .i64 (readsN t : Int) (v : Int)) 2) == 1) = (readsN t).testBit v := by
      rw [shr_nat _ v (by omega), Int.tmod_eq_emod_of_nonneg (Int.natCast_nonneg _), Nat.testBit_eq_decide_div_mod_eq, Bool.eq_iff_iff, beq_iff_eq, decide_eq_true_iff]
      omega
    rw [laws_FnPeopleRead.l0, if_pos (by omega), show (0 : Int) = ((0 : Nat) : Int) from rfl, hl, if_pos (by omega), Bool.false_or, e1, e2, if_neg (by simp), w64 (by omega) (by omega), show (v : Int) + 1 = ((v + 1 : Nat) : Int) by omega]
    exact ih (v + 1) (by omega) _ (by omega)
theorem FnPeopleRead : laws_FnPeopleRead.Pure := by
  intro l _ _ h
  obtain ⟨b, hb, ho⟩ := open_ok l h
  obtain ⟨p, t, e, hp, hk⟩ := l20Termed_ok hb 0 9 (by omega) (by omega) (by omega)
  refine ⟨900, ?_⟩
  have hdr : spec_DrawPeopleRead.f 900 l = some (p, t) := by
    unfold spec_DrawPeopleRead.f
    rw [ho]; simp only [Option.bind_some]
    rw [hk 900 (by omega)]; rfl
  unfold laws_FnPeopleRead.f
  by_cases hl : (l.length : Int) > 1048576
  · rw [if_pos hl]
  · have hm : ∀ m ∈ t, MarkW m := fun m h => DMk_W (hp.2.1.2 m h)
    have h12 := hp.2.1.1
    rw [if_neg hl, hdr]; simp only [Option.bind_some]
    rw [ipeople p t 900 (by omega), Option.bind_some, speople p (by omega) t (by omega) hm 900 (by omega), Option.bind_some, if_pos rfl]
    by_cases hT : TermB p t
    · have e : reads p t = (readsN t : Int) := by unfold reads; rw [if_pos hT]
      have et : txT p t = (tx t).1 := by unfold txT; rw [if_pos hT]
      obtain ⟨d, hd⟩ : ∃ d : Nat, p = (d : Int) := Int.eq_ofNat_of_zero_le (by omega)
      have := hT.2.1
      rw [e, if_neg (by omega), itermtext p t 900 (by omega), Option.bind_some, et]
      exact pr_l0 p t hT d 0 (by omega) 900 (by omega)
    · have e : reads p t = -1 := by unfold reads; rw [if_neg hT]
      rw [e, if_pos (by omega), if_pos rfl, itermok p t 900 (by omega), Option.bind_some, if_neg (by simpa using hT), alive_eq]; rfl

end Go.Proofs.Ytfhmafmfaoknlaa.Pure
