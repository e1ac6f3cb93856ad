/- Proved: FnReadTerm returns true for every code of bytes. No condition. -/
import Derived.Test.YtfhmafmfaoknlaaPFnReadTermx13
import Derived.Laws.BitsLemmas
import Derived.Laws.BitsAllLaws
namespace Go.Proofs.Ytfhmafmfaoknlaa.Pure
open Go.RowKit Go.Proofs.Ytfhmafmfaoknlaa.PFnReadTerm Go.Proofs.YtfhmafmfaoknlaaW.PrintWords Go.Proofs.YtfhmafmfaoknlaaW.PrintLast Go.Proofs.YtfhmafmfaoknlaaW.PrintMore
set_option linter.unusedVariables false
set_option linter.unusedSimpArgs false

/-! ### base: whole numbers -/
theorem w64 {x : Int} (h0 : -9223372036854775808 ≤ x) (h1 : x ≤ 9223372036854775807) : wrap64 x = x := by
  unfold wrap64; omega
theorem wf64 {x : Int} (h : (Lit.int .i64 x).wf = true) : -9223372036854775808 ≤ x ∧ x ≤ 9223372036854775807 := by
  simp only [Lit.wf, IntKind.min, IntKind.max, IntKind.signed, IntKind.bits, Bool.and_eq_true, decide_eq_true_eq, if_true] at h
  omega
theorem wf8 {x : Int} (h : (Lit.int .u8 x).wf = true) : 0 ≤ x ∧ x ≤ 255 := by
  simp only [Lit.wf, IntKind.min, IntKind.max, IntKind.signed, IntKind.bits, Bool.and_eq_true, decide_eq_true_eq] at h
  simpa using h
theorem ofInt_i64 (a : Nat) (ha : a < 18446744073709551616) : (BitVec.ofInt 64 (a : Int)).toNat = a := by
  rw [BitVec.ofInt_natCast, BitVec.toNat_ofNat]; exact Nat.mod_eq_of_lt (by omega)
theorem wrapi (x : Nat) (h : x < 9223372036854775808) : IntKind.i64.wrap (x : Int) = x := by
  rw [IntKind.wrap_i64]; omega
theorem or64 (a b : Nat) (ha : a < 4611686018427387904) (hb : b < 4611686018427387904) : Go.bits .or .i64 (a : Int) (b : Int) = ((a ||| b : Nat) : Int) := by
  have hx : a ||| b < 2 ^ 62 := Nat.or_lt_two_pow (by omega) (by omega)
  show IntKind.i64.wrap ((BitVec.ofInt 64 (a : Int) ||| BitVec.ofInt 64 (b : Int)).toNat : Int) = _
  rw [BitVec.toNat_or, ofInt_i64 a (by omega), ofInt_i64 b (by omega), wrapi _ (by omega)]
theorem and64 (a b : Nat) (ha : a < 4611686018427387904) (hb : b < 4611686018427387904) : Go.bits .and .i64 (a : Int) (b : Int) = ((a &&& b : Nat) : Int) := by
  have hx : a &&& b < 2 ^ 62 := Nat.and_lt_two_pow _ (by omega)
  show IntKind.i64.wrap ((BitVec.ofInt 64 (a : Int) &&& BitVec.ofInt 64 (b : Int)).toNat : Int) = _
  rw [BitVec.toNat_and, ofInt_i64 a (by omega), ofInt_i64 b (by omega), wrapi _ (by omega)]
theorem xor64 (a b : Nat) (ha : a < 4611686018427387904) (hb : b < 4611686018427387904) : Go.bits .xor .i64 (a : Int) (b : Int) = ((a ^^^ b : Nat) : Int) := by
  have hx : a ^^^ b < 2 ^ 62 := Nat.xor_lt_two_pow (by omega) (by omega)
  show IntKind.i64.wrap ((BitVec.ofInt 64 (a : Int) ^^^ BitVec.ofInt 64 (b : Int)).toNat : Int) = _
  rw [BitVec.toNat_xor, ofInt_i64 a (by omega), ofInt_i64 b (by omega), wrapi _ (by omega)]
theorem andnot64 (a b : Nat) (ha : a < 4611686018427387904) (hb : b < 4611686018427387904) : Go.bits .andNot .i64 (a : Int) (b : Int) = ((a &&& (18446744073709551615 - b) : Nat) : Int) := by
  have hx : a &&& (18446744073709551615 - b) < 2 ^ 62 := Nat.lt_of_le_of_lt Nat.and_le_left (by omega)
  show IntKind.i64.wrap ((BitVec.ofInt 64 (a : Int) &&& ~~~BitVec.ofInt 64 (b : Int)).toNat : Int) = _
  rw [BitVec.toNat_and, BitVec.toNat_not, ofInt_i64 a (by omega), ofInt_i64 b (by omega)]
  have e : 2 ^ 64 - 1 - b = 18446744073709551615 - b := by omega
  rw [e, wrapi _ (by omega)]
/-- So many worlds; so many tables. -/
def pw (p : Int) : Int := 2 ^ p.toNat
def tw (p : Int) : Int := 2 ^ (2 ^ p.toNat)
theorem p4 {p : Int} (h0 : 1 ≤ p) (h1 : p ≤ 4) : p = 1 ∨ p = 2 ∨ p = 3 ∨ p = 4 := by omega
theorem pw_of {p : Int} (h0 : 1 ≤ p) (h1 : p ≤ 4) : 2 ≤ pw p ∧ pw p ≤ 16 := by
  rcases p4 h0 h1 with rfl | rfl | rfl | rfl <;> decide
theorem tw_of {p : Int} (h0 : 1 ≤ p) (h1 : p ≤ 4) : 4 ≤ tw p ∧ tw p ≤ 65536 := by
  rcases p4 h0 h1 with rfl | rfl | rfl | rfl <;> decide
theorem tw_pw {p : Int} (h0 : 1 ≤ p) (h1 : p ≤ 4) : tw p = 2 ^ (pw p).toNat := by
  rcases p4 h0 h1 with rfl | rfl | rfl | rfl <;> decide
theorem shl_pw {p : Int} (h0 : 1 ≤ p) (h1 : p ≤ 4) : shl .i64 1 p = pw p := by
  rcases p4 h0 h1 with rfl | rfl | rfl | rfl <;> decide
theorem shlu_pw {p : Int} (h0 : 1 ≤ p) (h1 : p ≤ 4) : shl .u64 1 p = pw p := by
  rcases p4 h0 h1 with rfl | rfl | rfl | rfl <;> decide
theorem shl_tw {p : Int} (h0 : 1 ≤ p) (h1 : p ≤ 4) : shl .i64 1 (pw p) = tw p := by
  rcases p4 h0 h1 with rfl | rfl | rfl | rfl <;> decide
/-- A shift of a small number by a small count. -/
theorem shl_nat (x n : Nat) (hn : n ≤ 16) (hx : x ≤ 65536) : shl .i64 (x : Int) (n : Int) = ((x * 2 ^ n : Nat) : Int) := by
  unfold shl
  have e : min ((n : Int).toNat) (IntKind.i64.bits) = n := by simp [IntKind.bits]; omega
  rw [e]
  have hp : 2 ^ n ≤ 2 ^ 16 := Nat.pow_le_pow_right (by decide) hn
  have hm : x * 2 ^ n ≤ 65536 * 2 ^ 16 := Nat.mul_le_mul hx hp
  have e2 : (x : Int) * 2 ^ n = ((x * 2 ^ n : Nat) : Int) := by simp
  rw [e2, wrapi _ (by omega)]
theorem shr_nat (x n : Nat) (hn : n ≤ 16) : shr .i64 (x : Int) (n : Int) = ((x / 2 ^ n : Nat) : Int) := by
  unfold shr
  have e : min ((n : Int).toNat) (IntKind.i64.bits) = n := by simp [IntKind.bits]; omega
  rw [e]
  simp

/-! ### texts, byte by byte -/
def b1 (c : UInt8) : ByteArray := ⟨#[c]⟩
theorem b1_size (c : UInt8) : (b1 c).size = 1 := rfl
theorem toL_eq (a b : ByteArray) : a.toList = b.toList ↔ a = b := by
  rw [ByteArray.toList_eq, ByteArray.toList_eq]
  constructor
  · intro h
    exact ByteArray.ext (Array.toList_inj.1 h)
  · intro h; rw [h]
theorem toL_nil (a : ByteArray) : a.toList = ([] : List UInt8) ↔ a.size = 0 := by
  rw [ByteArray.toList_eq, ← List.length_eq_zero_iff, Array.length_toList]; rfl
theorem ba_cons (s : ByteArray) : s.size = 0 ∨ ∃ c r, s = b1 c ++ r := by
  obtain ⟨⟨l⟩⟩ := s
  cases l with
  | nil => exact .inl rfl
  | cons c l =>
    refine .inr ⟨c, ⟨⟨l⟩⟩, ?_⟩
    apply ByteArray.ext
    rw [ByteArray.data_append]
    apply Array.toList_inj.1
    rw [Array.toList_append]
    rfl
theorem cons_size (c : UInt8) (r : ByteArray) : (b1 c ++ r).size = r.size + 1 := by rw [ByteArray.size_append, b1_size]; omega
theorem cons_tail (c : UInt8) (r : ByteArray) (n : Nat) (hn : n = (b1 c ++ r).size) : (b1 c ++ r).extract 1 n = r := by
  subst hn
  rw [cons_size]
  apply ByteArray.ext
  apply Array.toList_inj.1
  rw [ByteArray.data_extract, ByteArray.data_append]
  have hl : r.data.toList.length = r.size := by rw [Array.length_toList]; rfl
  rw [Array.toList_extract, Array.toList_append]
  show ((c :: r.data.toList).drop 1).take (r.size + 1 - 1) = r.data.toList
  rw [List.drop_succ_cons, List.drop_zero, List.take_of_length_le (by omega)]
theorem cons_head (c : UInt8) (r : ByteArray) : (b1 c ++ r).extract 0 1 = b1 c := by
  apply ByteArray.ext
  apply Array.toList_inj.1
  rw [ByteArray.data_extract, ByteArray.data_append]
  simp [b1]
theorem bt_mid (u r : ByteArray) (c : UInt8) (i : Int) (hi : i = (u.size : Int)) : bt (u ++ (b1 c ++ r)) i = (c.toNat : Int) := by
  subst hi
  have hs : u.size < (u ++ (b1 c ++ r)).size := by rw [ByteArray.size_append, cons_size]; omega
  have h := bt_at (u ++ (b1 c ++ r)) (u.size : Int) (by rw [Int.toNat_natCast]; exact hs)
  rw [← h]
  simp only [Int.toNat_natCast]
  rw [ByteArray.getElem_append_right (Nat.le_refl _), ByteArray.getElem_append_left (by rw [b1_size]; omega)]
  simp [b1]
  rfl
theorem bt_cons (r : ByteArray) (c : UInt8) : bt (b1 c ++ r) 0 = (c.toNat : Int) := by
  have h := bt_at (b1 c ++ r) 0 (by show 0 < (b1 c ++ r).size; rw [cons_size]; omega)
  rw [← h]
  show (((b1 c ++ r)[0]'_).toNat : Int) = _
  rw [ByteArray.getElem_append_left (by rw [b1_size]; omega)]
  rfl
theorem cons_inj {c d : UInt8} {r q : ByteArray} (h : b1 c ++ r = b1 d ++ q) : c = d ∧ r = q := by
  have h1 := congrArg (fun s : ByteArray => s.data.toList) h
  simp only [ByteArray.data_append, Array.toList_append] at h1
  have h2 : c :: r.data.toList = d :: q.data.toList := h1
  injection h2 with e1 e2
  exact ⟨e1, ByteArray.ext (Array.toList_inj.1 e2)⟩
/-- Does not begin with a byte. -/
def NS (r : ByteArray) (d : UInt8) : Prop := ∀ q, r ≠ b1 d ++ q
theorem NS_cons {c d : UInt8} (r : ByteArray) (h : c ≠ d) : NS (b1 c ++ r) d := fun q e => h (cons_inj e).1
theorem NS_nil {r : ByteArray} (h : r.size = 0) (d : UInt8) : NS r d := fun q e => by
  rw [e, cons_size] at h; omega

theorem hasp_cons (r : ByteArray) (c d : UInt8) : stringslite_HasPrefix.f (b1 c ++ r) (b1 d) = some (c == d) := by
  unfold stringslite_HasPrefix.f
  have h1 : ((b1 d).size : Int) = 1 := rfl
  rw [h1, if_pos (by rw [cons_size]; omega), if_pos (by omega), if_pos (by rw [cons_size]; omega)]
  congr 1
  show (((b1 c ++ r).extract 0 1).toList == (b1 d).toList) = _
  rw [cons_head, ByteArray.toList_eq, ByteArray.toList_eq]
  show ([c] == [d]) = _
  simp
theorem cut_cons (r : ByteArray) (c d : UInt8) : strings_CutPrefix.f (b1 c ++ r) (b1 d) = some (if c = d then (r, true) else (b1 c ++ r, false)) := by
  unfold strings_CutPrefix.f stringslite_CutPrefix.f
  rw [hasp_cons]
  have h1 : ((b1 d).size : Int) = 1 := rfl
  simp only [Option.bind_some]
  by_cases e : c = d
  · rw [if_pos (by simpa using e), if_pos e, h1, if_pos (by omega), if_pos (by rw [cons_size]; omega), Option.bind_some]
    show some ((b1 c ++ r).extract 1 (b1 c ++ r).size, true) = _
    rw [cons_tail c r _ rfl]
  · rw [if_neg (by simpa using e), if_neg e, Option.bind_some]
theorem cut_nil (s : ByteArray) (h : s.size = 0) (d : UInt8) : strings_CutPrefix.f s (b1 d) = some (s, false) := by
  unfold strings_CutPrefix.f stringslite_CutPrefix.f stringslite_HasPrefix.f
  have h1 : ((b1 d).size : Int) = 1 := rfl
  rw [h1, if_neg (by omega), Option.bind_some, if_neg (by decide), Option.bind_some]
theorem cut_NS (s : ByteArray) (d : UInt8) (h : NS s d) : strings_CutPrefix.f s (b1 d) = some (s, false) := by
  rcases ba_cons s with h0 | ⟨c, r, rfl⟩
  · exact cut_nil s h0 d
  · rw [cut_cons, if_neg (fun e => h r (by rw [e]))]

/-- Terms: how the number of parts goes on at a mark. -/
def tstep (p n : Int) (m : S62) : Option Int :=
  if m.f0 = 0 then (if 0 ≤ m.f1 ∧ m.f1 < p then some (n + 1) else none)
  else if m.f0 = 1 then (if 0 ≤ m.f1 ∧ m.f1 ≤ p + 1 then some (n + 1) else none)
  else if m.f0 = 2 then (if m.f1 = 0 ∧ 1 ≤ n then some n else none)
  else if 3 ≤ m.f0 ∧ m.f0 ≤ 5 then (if m.f1 = 0 ∧ 2 ≤ n then some (n - 1) else none)
  else none
def tfold (p : Int) : Int → List S62 → Option Int
  | n, [] => some n
  | n, m :: t => (tstep p n m).bind fun n' => tfold p n' t
theorem tfold_cons (p n : Int) (m : S62) (t : List S62) : tfold p n (m :: t) = (tstep p n m).bind fun n' => tfold p n' t := rfl
theorem tfold_none {p n : Int} {m : S62} (t : List S62) (h : tstep p n m = none) : tfold p n (m :: t) = none := by rw [tfold_cons, h]; rfl
theorem tfold_some {p n n' : Int} {m : S62} (t : List S62) (h : tstep p n m = some n') : tfold p n (m :: t) = tfold p n' t := by rw [tfold_cons, h]; rfl
def TermB (p : Int) (t : List S62) : Prop := 1 ≤ p ∧ p ≤ 4 ∧ t.length ≤ 15 ∧ tfold p 0 t = some 1
instance (p : Int) (t : List S62) : Decidable (TermB p t) := by unfold TermB; infer_instance
theorem TermB_pos {p : Int} {t : List S62} (h : TermB p t) : 1 ≤ t.length := by
  cases t with
  | nil => have := h.2.2.2; simp [tfold] at this
  | cons => simp
/-- What is known of marks that came in. -/
def MarkW (m : S62) : Prop := -9223372036854775808 ≤ m.f0 ∧ m.f0 ≤ 9223372036854775807 ∧ -9223372036854775808 ≤ m.f1 ∧ m.f1 ≤ 9223372036854775807
theorem rdm (l : List S62) (i : Nat) (h : i < l.length) : rd_T62 l ((i : Nat) : Int) = l[i] := by
  unfold rd_T62
  rw [Int.toNat_natCast, List.getD_eq_getElem?_getD, List.getElem?_eq_getElem h]; rfl
theorem rdm_mid (x r l : List S62) (m : S62) (hl : l = x ++ m :: r) (n : Int) (hn : n = (x.length : Int)) : rd_T62 l n = m := by
  subst hl
  subst hn
  rw [rdm _ _ (by simp), List.getElem_append_right (Nat.le_refl _)]
  simp

/-- A mark of a term. -/
def MOk (p : Int) (m : S62) : Prop := (m.f0 = 0 ∧ 0 ≤ m.f1 ∧ m.f1 < p) ∨ (m.f0 = 1 ∧ 0 ≤ m.f1 ∧ m.f1 ≤ p + 1) ∨ (2 ≤ m.f0 ∧ m.f0 ≤ 5 ∧ m.f1 = 0)
theorem tstep_ok {p n n' : Int} {m : S62} (h : tstep p n m = some n') : MOk p m := by
  unfold tstep at h
  unfold MOk
  by_cases e0 : m.f0 = 0
  · rw [if_pos e0] at h
    by_cases e : 0 ≤ m.f1 ∧ m.f1 < p
    · exact .inl ⟨e0, e.1, e.2⟩
    · rw [if_neg e] at h; cases h
  · rw [if_neg e0] at h
    by_cases e1 : m.f0 = 1
    · rw [if_pos e1] at h
      by_cases e : 0 ≤ m.f1 ∧ m.f1 ≤ p + 1
      · exact .inr (.inl ⟨e1, e.1, e.2⟩)
      · rw [if_neg e] at h; cases h
    · rw [if_neg e1] at h
      by_cases e2 : m.f0 = 2
      · rw [if_pos e2] at h
        by_cases e : m.f1 = 0 ∧ 1 ≤ n
        · exact .inr (.inr ⟨by omega, by omega, e.1⟩)
        · rw [if_neg e] at h; cases h
      · rw [if_neg e2] at h
        by_cases e3 : 3 ≤ m.f0 ∧ m.f0 ≤ 5
        · rw [if_pos e3] at h
          by_cases e : m.f1 = 0 ∧ 2 ≤ n
          · exact .inr (.inr ⟨by omega, by omega, e.1⟩)
          · rw [if_neg e] at h; cases h
        · rw [if_neg e3] at h; cases h
theorem tfold_ok {p : Int} : ∀ {t : List S62} {n n' : Int}, tfold p n t = some n' → ∀ m ∈ t, MOk p m
  | [], _, _, _ => by simp
  | a :: t, n, n', h => by
    rw [tfold_cons] at h
    obtain ⟨q, h1, h2⟩ := Option.bind_eq_some_iff.1 h
    intro m hm
    rcases List.mem_cons.1 hm with rfl | hm
    · exact tstep_ok h1
    · exact tfold_ok h2 m hm
theorem TermB_ok {p : Int} {t : List S62} (h : TermB p t) : ∀ m ∈ t, MOk p m := tfold_ok h.2.2.2

/-! ### terms, part by part -/
theorem tfold_append (p : Int) (a b : List S62) (n : Int) : tfold p n (a ++ b) = (tfold p n a).bind fun n' => tfold p n' b := by
  induction a generalizing n with
  | nil => rfl
  | cons m a ih =>
    rw [List.cons_append, tfold_cons, tfold_cons]
    cases tstep p n m with
    | none => rfl
    | some q => rw [Option.bind_some, Option.bind_some]; exact ih q
theorem tstep_shift {p n n' : Int} {m : S62} (j : Int) (hj : 0 ≤ j) (h : tstep p n m = some n') : tstep p (n + j) m = some (n' + j) := by
  unfold tstep at h ⊢
  by_cases e0 : m.f0 = 0
  · rw [if_pos e0] at h ⊢
    by_cases e : 0 ≤ m.f1 ∧ m.f1 < p
    · rw [if_pos e] at h ⊢
      have := Option.some.inj h
      congr 1; omega
    · rw [if_neg e] at h; cases h
  · rw [if_neg e0] at h ⊢
    by_cases e1 : m.f0 = 1
    · rw [if_pos e1] at h ⊢
      by_cases e : 0 ≤ m.f1 ∧ m.f1 ≤ p + 1
      · rw [if_pos e] at h ⊢
        have := Option.some.inj h
        congr 1; omega
      · rw [if_neg e] at h; cases h
    · rw [if_neg e1] at h ⊢
      by_cases e2 : m.f0 = 2
      · rw [if_pos e2] at h ⊢
        by_cases e : m.f1 = 0 ∧ 1 ≤ n
        · rw [if_pos e] at h
          have := Option.some.inj h
          rw [if_pos (by omega)]; congr 1; omega
        · rw [if_neg e] at h; cases h
      · rw [if_neg e2] at h ⊢
        by_cases e3 : 3 ≤ m.f0 ∧ m.f0 ≤ 5
        · rw [if_pos e3] at h ⊢
          by_cases e : m.f1 = 0 ∧ 2 ≤ n
          · rw [if_pos e] at h
            have := Option.some.inj h
            rw [if_pos (by omega)]; congr 1; omega
          · rw [if_neg e] at h; cases h
        · rw [if_neg e3] at h; cases h
theorem tfold_shift {p : Int} (j : Int) (hj : 0 ≤ j) : ∀ {t : List S62} {n n' : Int}, tfold p n t = some n' → tfold p (n + j) t = some (n' + j)
  | [], n, n', h => by
    have := Option.some.inj (show some n = some n' from h)
    show some (n + j) = some (n' + j)
    rw [this]
  | m :: t, n, n', h => by
    rw [tfold_cons] at h
    obtain ⟨q, h1, h2⟩ := Option.bind_eq_some_iff.1 h
    rw [tfold_cons, tstep_shift j hj h1, Option.bind_some]
    exact tfold_shift j hj h2
/-- One whole term. -/
def Tm (p : Int) (t : List S62) : Prop := tfold p 0 t = some 1
theorem Tm_on {p : Int} {t : List S62} (h : Tm p t) (n : Int) (hn : 0 ≤ n) : tfold p n t = some (n + 1) := by
  have := tfold_shift n hn h
  rwa [Int.zero_add, Int.add_comm 1 n] at this
theorem tstep_cases {p n n' : Int} {m : S62} (h : tstep p n m = some n') :
    (((m.f0 = 0 ∧ 0 ≤ m.f1 ∧ m.f1 < p) ∨ (m.f0 = 1 ∧ 0 ≤ m.f1 ∧ m.f1 ≤ p + 1)) ∧ n' = n + 1) ∨ (m.f0 = 2 ∧ m.f1 = 0 ∧ 1 ≤ n ∧ n' = n) ∨ (3 ≤ m.f0 ∧ m.f0 ≤ 5 ∧ m.f1 = 0 ∧ 2 ≤ n ∧ n' = n - 1) := by
  unfold tstep at h
  by_cases e0 : m.f0 = 0
  · rw [if_pos e0] at h
    by_cases e : 0 ≤ m.f1 ∧ m.f1 < p
    · rw [if_pos e] at h; exact .inl ⟨.inl ⟨e0, e⟩, (Option.some.inj h).symm⟩
    · rw [if_neg e] at h; cases h
  · rw [if_neg e0] at h
    by_cases e1 : m.f0 = 1
    · rw [if_pos e1] at h
      by_cases e : 0 ≤ m.f1 ∧ m.f1 ≤ p + 1
      · rw [if_pos e] at h; exact .inl ⟨.inr ⟨e1, e⟩, (Option.some.inj h).symm⟩
      · rw [if_neg e] at h; cases h
    · rw [if_neg e1] at h
      by_cases e2 : m.f0 = 2
      · rw [if_pos e2] at h
        by_cases e : m.f1 = 0 ∧ 1 ≤ n
        · rw [if_pos e] at h; exact .inr (.inl ⟨e2, e.1, e.2, (Option.some.inj h).symm⟩)
        · rw [if_neg e] at h; cases h
      · rw [if_neg e2] at h
        by_cases e3 : 3 ≤ m.f0 ∧ m.f0 ≤ 5
        · rw [if_pos e3] at h
          by_cases e : m.f1 = 0 ∧ 2 ≤ n
          · rw [if_pos e] at h; exact .inr (.inr ⟨e3.1, e3.2, e.1, e.2, (Option.some.inj h).symm⟩)
          · rw [if_neg e] at h; cases h
        · rw [if_neg e3] at h; cases h
def Leaf (p : Int) (m : S62) : Prop := (m.f0 = 0 ∧ 0 ≤ m.f1 ∧ m.f1 < p) ∨ (m.f0 = 1 ∧ 0 ≤ m.f1 ∧ m.f1 ≤ p + 1)
theorem leaf_step {p : Int} {m : S62} (h : Leaf p m) (n : Int) : tstep p n m = some (n + 1) := by
  unfold tstep
  rcases h with ⟨e, h⟩ | ⟨e, h⟩
  · rw [if_pos e, if_pos h]
  · rw [if_neg (by omega), if_pos e, if_pos h]
theorem not_step {p : Int} {m : S62} (h : m.f0 = 2) (h0 : m.f1 = 0) (n : Int) (hn : 1 ≤ n) : tstep p n m = some n := by
  unfold tstep
  rw [if_neg (by omega), if_neg (by omega), if_pos h, if_pos ⟨h0, hn⟩]
theorem bin_step {p : Int} {m : S62} (h : 3 ≤ m.f0) (h5 : m.f0 ≤ 5) (h0 : m.f1 = 0) (n : Int) (hn : 2 ≤ n) : tstep p n m = some (n - 1) := by
  unfold tstep
  rw [if_neg (by omega), if_neg (by omega), if_neg (by omega), if_pos ⟨h, h5⟩, if_pos ⟨h0, hn⟩]
theorem Tm_leaf {p : Int} {m : S62} (h : Leaf p m) : Tm p [m] := by
  unfold Tm
  rw [tfold_cons, leaf_step h 0]; rfl
theorem Tm_not {p : Int} {a : List S62} {m : S62} (ha : Tm p a) (h : m.f0 = 2) (h0 : m.f1 = 0) : Tm p (a ++ [m]) := by
  unfold Tm at ha ⊢
  rw [tfold_append, ha, Option.bind_some, tfold_cons, not_step h h0 1 (by omega)]; rfl
theorem Tm_bin {p : Int} {a b : List S62} {m : S62} (ha : Tm p a) (hb : Tm p b) (h : 3 ≤ m.f0) (h5 : m.f0 ≤ 5) (h0 : m.f1 = 0) : Tm p (a ++ b ++ [m]) := by
  have h2 := Tm_on hb 1 (by omega)
  unfold Tm at ha ⊢
  rw [tfold_append, tfold_append, ha, Option.bind_some, h2, Option.bind_some, tfold_cons, bin_step h h5 h0 (1 + 1) (by omega)]; rfl
theorem tfold_nonneg {p : Int} : ∀ {t : List S62} {n n' : Int}, 0 ≤ n → tfold p n t = some n' → 0 ≤ n' ∧ (1 ≤ n → 1 ≤ n')
  | [], n, n', h0, h => by
    have := Option.some.inj (show some n = some n' from h)
    omega
  | m :: t, n, n', h0, h => by
    rw [tfold_cons] at h
    obtain ⟨q, h1, h2⟩ := Option.bind_eq_some_iff.1 h
    have hq : 1 ≤ q := by rcases tstep_cases h1 with h | h | h <;> omega
    have := tfold_nonneg (by omega) h2
    exact ⟨this.1, fun _ => this.2 hq⟩
theorem tfold_zero {p : Int} {t : List S62} (h : tfold p 0 t = some 0) : t = [] := by
  cases t with
  | nil => rfl
  | cons m t =>
    rw [tfold_cons] at h
    obtain ⟨q, h1, h2⟩ := Option.bind_eq_some_iff.1 h
    have hq : 1 ≤ q := by rcases tstep_cases h1 with h | h | h <;> omega
    have := (tfold_nonneg (by omega) h2).2 hq
    omega
theorem tfold_last {p n' : Int} {a : List S62} {m : S62} (h : tfold p 0 (a ++ [m]) = some n') : ∃ n, tfold p 0 a = some n ∧ tstep p n m = some n' := by
  rw [tfold_append] at h
  obtain ⟨q, h1, h2⟩ := Option.bind_eq_some_iff.1 h
  refine ⟨q, h1, ?_⟩
  rw [tfold_cons] at h2
  obtain ⟨q2, h3, h4⟩ := Option.bind_eq_some_iff.1 h2
  rw [h3, Option.some.inj (show some q2 = some n' from h4)]
/-- The last term of some. -/
theorem tfold_split {p : Int} (L : Nat) : ∀ (a : List S62) (n : Int), a.length ≤ L → 0 ≤ n → tfold p 0 a = some (n + 1) → ∃ a1 a2, a = a1 ++ a2 ∧ tfold p 0 a1 = some n ∧ Tm p a2 ∧ 0 < a2.length := by
  induction L with
  | zero =>
    intro a n hl hn h
    have : a = [] := List.eq_nil_of_length_eq_zero (by omega)
    subst this
    have := Option.some.inj (show some (0 : Int) = some (n + 1) from h)
    omega
  | succ L ih =>
    intro a n hl hn h
    rcases List.eq_nil_or_concat a with rfl | ⟨b, m, rfl⟩
    · have := Option.some.inj (show some (0 : Int) = some (n + 1) from h)
      omega
    · rw [List.concat_eq_append] at h hl ⊢
      rw [List.length_append, List.length_singleton] at hl
      obtain ⟨q, h1, h2⟩ := tfold_last h
      rcases tstep_cases h2 with ⟨hf, hq⟩ | ⟨e, e0, hn1, hq⟩ | ⟨e3, e5, e0, hn2, hq⟩
      · exact ⟨b, [m], rfl, by rw [h1]; congr 1; omega, Tm_leaf hf, by simp⟩
      · obtain ⟨a1, a2, rfl, ha1, ha2, hp⟩ := ih b n (by omega) hn (by rw [h1]; congr 1; omega)
        exact ⟨a1, a2 ++ [m], by rw [List.append_assoc], ha1, Tm_not ha2 e e0, by simp⟩
      · obtain ⟨b1, b2, rfl, hb1, hb2, hp⟩ := ih b (n + 1) (by omega) (by omega) (by rw [h1]; congr 1; omega)
        rw [List.length_append] at hl
        obtain ⟨c1, c2, rfl, hc1, hc2, hp2⟩ := ih b1 n (by omega) hn hb1
        exact ⟨c1, c2 ++ b2 ++ [m], by simp only [List.append_assoc], hc1, Tm_bin hc2 hb2 e3 e5 e0, by rw [List.length_append, List.length_append, List.length_singleton]; omega⟩
/-- What a term may be. -/
theorem Tm_cases {p : Int} {t : List S62} (h : Tm p t) : (∃ m, t = [m] ∧ Leaf p m) ∨ (∃ a m, t = a ++ [m] ∧ Tm p a ∧ m.f0 = 2 ∧ m.f1 = 0) ∨ (∃ a b m, t = a ++ b ++ [m] ∧ Tm p a ∧ Tm p b ∧ 3 ≤ m.f0 ∧ m.f0 ≤ 5 ∧ m.f1 = 0) := by
  unfold Tm at h
  rcases List.eq_nil_or_concat t with rfl | ⟨b, m, rfl⟩
  · have := Option.some.inj (show some (0 : Int) = some 1 from h)
    omega
  · rw [List.concat_eq_append] at h ⊢
    obtain ⟨q, h1, h2⟩ := tfold_last h
    rcases tstep_cases h2 with ⟨hf, hq⟩ | ⟨e, e0, hn1, hq⟩ | ⟨e3, e5, e0, hn2, hq⟩
    · have : q = 0 := by omega
      subst this
      rw [tfold_zero h1]
      exact .inl ⟨m, rfl, hf⟩
    · have : q = 1 := by omega
      subst this
      exact .inr (.inl ⟨b, m, rfl, h1, e, e0⟩)
    · obtain ⟨a1, a2, rfl, ha1, ha2, _⟩ := tfold_split b.length b 1 (Nat.le_refl _) (by omega) (by rw [h1]; congr 1; omega)
      exact .inr (.inr ⟨a1, a2, m, rfl, ha1, ha2, e3, e5, e0⟩)
theorem Tm_ne {p : Int} {t : List S62} (h : Tm p t) : 0 < t.length := by
  rcases Tm_cases h with ⟨m, rfl, _⟩ | ⟨a, m, rfl, _⟩ | ⟨a, b, m, rfl, _⟩
  · simp
  · simp
  · rw [List.length_append, List.length_append, List.length_singleton]; omega
/-- Induction over terms. -/
theorem Tm_ind {p : Int} (P : List S62 → Prop) (hl : ∀ m, Leaf p m → P [m]) (hn : ∀ a m, Tm p a → m.f0 = 2 → m.f1 = 0 → P a → P (a ++ [m])) (hb : ∀ a b m, Tm p a → Tm p b → 3 ≤ m.f0 → m.f0 ≤ 5 → m.f1 = 0 → P a → P b → P (a ++ b ++ [m])) : ∀ t, Tm p t → P t := by
  have key : ∀ L (t : List S62), t.length ≤ L → Tm p t → P t := by
    intro L
    induction L with
    | zero => intro t h1 h2; have := Tm_ne h2; omega
    | succ L ih =>
      intro t h1 h2
      rcases Tm_cases h2 with ⟨m, rfl, hm⟩ | ⟨a, m, rfl, ha, e, e0⟩ | ⟨a, b, m, rfl, ha, hb', e3, e5, e0⟩
      · exact hl m hm
      · rw [List.length_append, List.length_singleton] at h1
        exact hn a m ha e e0 (ih a (by omega) ha)
      · rw [List.length_append, List.length_append, List.length_singleton] at h1
        have := Tm_ne ha
        have := Tm_ne hb'
        exact hb a b m ha hb' e3 e5 e0 (ih a (by omega) ha) (ih b (by omega) hb')
  exact fun t ht => key t.length t (Nat.le_refl _) ht

/-! ### texts of terms -/
def sw (j k : Int) (s : ByteArray) : ByteArray := if mn (5 - k) 3 < j then (⟨#[40]⟩ : ByteArray) ++ s ++ (⟨#[41]⟩ : ByteArray) else s
def sg (k : Int) : ByteArray := if k = 3 then ⟨#[38]⟩ else if k = 4 then ⟨#[124]⟩ else ⟨#[61]⟩
/-- The text of a mark's part behind the texts of the parts before it, top first, each with its last mark's kind. -/
def xstep (st : List (ByteArray × Int)) (m : S62) : List (ByteArray × Int) :=
  if m.f0 = 0 then (strOfNums [97 + m.f1], 0) :: st
  else if m.f0 = 1 then (strOfNums [48 + m.f1], 1) :: st
  else if m.f0 = 2 then (match st with | s :: r => ((⟨#[33]⟩ : ByteArray) ++ sw 3 s.2 s.1, 2) :: r | [] => [])
  else match st with
    | b :: a :: r => (sw (5 - m.f0) a.2 a.1 ++ sg m.f0 ++ sw (5 - m.f0 + 1) b.2 b.1, m.f0) :: r
    | _ => []
def xrun (st : List (ByteArray × Int)) (t : List S62) : List (ByteArray × Int) := t.foldl xstep st
def tx (t : List S62) : ByteArray × Int := (xrun [] t).headD (⟨#[]⟩, 0)
theorem xrun_append (st : List (ByteArray × Int)) (a b : List S62) : xrun st (a ++ b) = xrun (xrun st a) b := List.foldl_append ..
theorem xrun_Tm {p : Int} : ∀ t : List S62, Tm p t → ∀ st, xrun st t = tx t :: st := by
  apply Tm_ind
  · intro m hm st
    unfold tx xrun
    simp only [List.foldl_cons, List.foldl_nil]
    unfold xstep
    rcases hm with ⟨e, _⟩ | ⟨e, _⟩
    · simp [e]
    · simp [e]
  · intro a m ha e e0 ih st
    unfold tx
    rw [xrun_append, xrun_append, ih st, ih []]
    unfold xrun
    simp only [List.foldl_cons, List.foldl_nil]
    unfold xstep
    simp [e]
  · intro a b m ha hb e3 e5 e0 iha ihb st
    unfold tx
    rw [xrun_append, xrun_append, xrun_append, xrun_append, iha st, iha [], ihb, ihb]
    unfold xrun
    simp only [List.foldl_cons, List.foldl_nil]
    unfold xstep
    simp only [if_neg (show ¬ m.f0 = 0 by omega), if_neg (show ¬ m.f0 = 1 by omega), if_neg (show ¬ m.f0 = 2 by omega)]
    rfl
theorem tx_tells (m : S62) (h : m.f0 = 0) : tx [m] = (strOfNums [97 + m.f1], 0) := by simp [tx, xrun, xstep, h]
theorem tx_count (m : S62) (h : m.f0 = 1) : tx [m] = (strOfNums [48 + m.f1], 1) := by simp [tx, xrun, xstep, h]
theorem tx_not {p : Int} (a : List S62) (m : S62) (ha : Tm p a) (h : m.f0 = 2) : tx (a ++ [m]) = ((⟨#[33]⟩ : ByteArray) ++ sw 3 (tx a).2 (tx a).1, 2) := by
  have := xrun_Tm a ha []
  unfold tx at this ⊢
  rw [xrun_append, this]
  simp [xrun, xstep, h]
theorem tx_bin {p : Int} (a b : List S62) (m : S62) (ha : Tm p a) (hb : Tm p b) (h3 : 3 ≤ m.f0) : tx (a ++ b ++ [m]) = (sw (5 - m.f0) (tx a).2 (tx a).1 ++ sg m.f0 ++ sw (5 - m.f0 + 1) (tx b).2 (tx b).1, m.f0) := by
  have h1 := xrun_Tm a ha []
  have h2 := xrun_Tm b hb (tx a :: [])
  have e : tx (a ++ b ++ [m]) = (xrun [] (a ++ b ++ [m])).headD (⟨#[]⟩, 0) := rfl
  rw [e, xrun_append, xrun_append, h1, h2]
  unfold xrun
  simp only [List.foldl_cons, List.foldl_nil]
  unfold xstep
  simp only [if_neg (show ¬ m.f0 = 0 by omega), if_neg (show ¬ m.f0 = 1 by omega), if_neg (show ¬ m.f0 = 2 by omega)]
  rfl
theorem lastm (x : List S62) (m : S62) : rd_T62 (x ++ [m]) (x.length : Int) = m := rdm_mid x [] (x ++ [m]) m rfl _ rfl
/-- The last mark's kind. -/
theorem tx_kind {p : Int} : ∀ t : List S62, Tm p t → ∃ x m, t = x ++ [m] ∧ (tx t).2 = m.f0 ∧ 0 ≤ m.f0 ∧ m.f0 ≤ 5 := by
  apply Tm_ind
  · intro m hm
    rcases hm with ⟨e, _⟩ | ⟨e, _⟩
    · exact ⟨[], m, rfl, by rw [tx_tells m e]; exact e.symm, by omega, by omega⟩
    · exact ⟨[], m, rfl, by rw [tx_count m e]; exact e.symm, by omega, by omega⟩
  · intro a m ha e e0 _
    exact ⟨a, m, rfl, by rw [tx_not a m ha e]; exact e.symm, by omega, by omega⟩
  · intro a b m ha hb e3 e5 e0 _ _
    exact ⟨a ++ b, m, rfl, by rw [tx_bin a b m ha hb e3], by omega, by omega⟩
theorem sw_size (j k : Int) (s : ByteArray) : (sw j k s).size ≤ s.size + 2 := by
  unfold sw
  split
  · rw [ByteArray.size_append, ByteArray.size_append]
    have e1 : (⟨#[40]⟩ : ByteArray).size = 1 := rfl
    have e2 : (⟨#[41]⟩ : ByteArray).size = 1 := rfl
    omega
  · omega
theorem sg_size (k : Int) : (sg k).size = 1 := by
  unfold sg
  split
  · rfl
  · split <;> rfl
theorem one_size (x : Int) : (strOfNums [x]).size = 1 := rfl
theorem tx_size {p : Int} : ∀ t : List S62, Tm p t → (tx t).1.size ≤ 5 * t.length := by
  apply Tm_ind
  · intro m hm
    rcases hm with ⟨e, _⟩ | ⟨e, _⟩
    · rw [tx_tells m e]; show (strOfNums [97 + m.f1]).size ≤ 5 * 1; rw [one_size]; omega
    · rw [tx_count m e]; show (strOfNums [48 + m.f1]).size ≤ 5 * 1; rw [one_size]; omega
  · intro a m ha e e0 ih
    rw [tx_not a m ha e]
    show ((⟨#[33]⟩ : ByteArray) ++ sw 3 (tx a).2 (tx a).1).size ≤ _
    have e1 : (⟨#[33]⟩ : ByteArray).size = 1 := rfl
    have := sw_size 3 (tx a).2 (tx a).1
    rw [ByteArray.size_append, List.length_append, List.length_singleton]; omega
  · intro a b m ha hb e3 e5 e0 iha ihb
    rw [tx_bin a b m ha hb e3]
    show (sw (5 - m.f0) (tx a).2 (tx a).1 ++ sg m.f0 ++ sw (5 - m.f0 + 1) (tx b).2 (tx b).1).size ≤ _
    have h1 := sw_size (5 - m.f0) (tx a).2 (tx a).1
    have h2 := sw_size (5 - m.f0 + 1) (tx b).2 (tx b).1
    have h3 := sg_size m.f0
    rw [ByteArray.size_append, ByteArray.size_append, List.length_append, List.length_append, List.length_singleton]; omega
theorem sw0 {p : Int} (t : List S62) (ht : Tm p t) : sw 0 (tx t).2 (tx t).1 = (tx t).1 := by
  obtain ⟨x, m, e, ek, h0, h5⟩ := tx_kind t ht
  unfold sw
  rw [if_neg]
  rw [ek]; unfold mn; split <;> omega

/-! ### the readers: parts with a sign between them, told of any reader of parts -/
abbrev RdT := List S62 × ByteArray × Bool
def rowL (part : Nat → ByteArray → Option RdT) : Nat → ByteArray → ByteArray → Int → List S62 → Bool → Option RdT
  | 0, _, _, _, _, _ => none
  | k + 1, x0, x1, x2, x11, x12 => if x12 = true then ((strings_CutPrefix.f x0 x1).bind fun bt189 => (if bt189.2 = true then ((part k bt189.1).bind fun bt191 => (if x11.length + bt191.1.length < 8796093022208 then ((some (x11 ++ bt191.1 : List (S62))).bind fun y196 => (if y196.length < 8796093022208 then (rowL part k bt191.2.1 x1 x2 (y196 ++ [(⟨x2, 0⟩ : S62)]) bt191.2.2) else (none))) else (none))) else (some (x11, x0, true)))) else (some (([] : List (S62)), x0, false))
def rowF (part : Nat → ByteArray → Option RdT) : Nat → ByteArray → ByteArray → Int → Option RdT
  | 0, _, _, _ => none
  | k + 1, a0, a1, a2 => (part k a0).bind fun b => (rowL part k b.2.1 a1 a2 b.1 b.2.2)
theorem rowC_l : ∀ k x0 x1 x2 x11 x12, impl_readRowC.l0 k x0 x1 x2 x11 x12 = rowL impl_readPart.f k x0 x1 x2 x11 x12
  | 0, _, _, _, _, _ => rfl
  | k + 1, x0, x1, x2, x11, x12 => by
    rw [impl_readRowC.l0, rowL]
    simp only [rowC_l k]
theorem rowB_l : ∀ k x0 x1 x2 x11 x12, impl_readRowB.l0 k x0 x1 x2 x11 x12 = rowL impl_readAnd.f k x0 x1 x2 x11 x12
  | 0, _, _, _, _, _ => rfl
  | k + 1, x0, x1, x2, x11, x12 => by
    rw [impl_readRowB.l0, rowL]
    simp only [rowB_l k]
theorem rowA_l : ∀ k x0 x1 x2 x11 x12, impl_readRowA.l0 k x0 x1 x2 x11 x12 = rowL impl_readOr.f k x0 x1 x2 x11 x12
  | 0, _, _, _, _, _ => rfl
  | k + 1, x0, x1, x2, x11, x12 => by
    rw [impl_readRowA.l0, rowL]
    simp only [rowA_l k]
theorem rowC_f (k : Nat) (a0 a1 : ByteArray) (a2 a3 : Int) : impl_readRowC.f k a0 a1 a2 a3 = rowF impl_readPart.f k a0 a1 a2 := by
  cases k with
  | zero => rfl
  | succ k => rw [impl_readRowC.f, rowF]; simp only [rowC_l]
theorem rowB_f (k : Nat) (a0 a1 : ByteArray) (a2 a3 : Int) : impl_readRowB.f k a0 a1 a2 a3 = rowF impl_readAnd.f k a0 a1 a2 := by
  cases k with
  | zero => rfl
  | succ k => rw [impl_readRowB.f, rowF]; simp only [rowB_l]
theorem rowA_f (k : Nat) (a0 a1 : ByteArray) (a2 a3 : Int) : impl_readRowA.f k a0 a1 a2 a3 = rowF impl_readOr.f k a0 a1 a2 := by
  cases k with
  | zero => rfl
  | succ k => rw [impl_readRowA.f, rowF]; simp only [rowA_l]
theorem and_f (k : Nat) (s : ByteArray) : impl_readAnd.f (k + 1) s = rowF impl_readPart.f k s (b1 38) 3 := by
  rw [impl_readAnd.f, rowC_f]
  show (rowF impl_readPart.f k s (b1 38) 3).bind (fun b => some (b.1, b.2.1, b.2.2)) = _
  cases rowF impl_readPart.f k s (b1 38) 3 <;> rfl
theorem or_f (k : Nat) (s : ByteArray) : impl_readOr.f (k + 1) s = rowF impl_readAnd.f k s (b1 124) 4 := by
  rw [impl_readOr.f, rowB_f]
  show (rowF impl_readAnd.f k s (b1 124) 4).bind (fun b => some (b.1, b.2.1, b.2.2)) = _
  cases rowF impl_readAnd.f k s (b1 124) 4 <;> rfl
theorem same_f (k : Nat) (s : ByteArray) : impl_readSame.f (k + 1) s = rowF impl_readOr.f k s (b1 61) 5 := by
  rw [impl_readSame.f, rowA_f]
  show (rowF impl_readOr.f k s (b1 61) 5).bind (fun b => some (b.1, b.2.1, b.2.2)) = _
  cases rowF impl_readOr.f k s (b1 61) 5 <;> rfl
/-- Every text up to a length is read to an end. -/
def Tot (c n : Nat) (f : Nat → ByteArray → Option RdT) : Prop := ∀ s : ByteArray, s.size ≤ n → ∃ v : RdT, v.2.1.size ≤ s.size ∧ v.1.length + v.2.1.size ≤ s.size ∧ ∀ k, 10 * n + c ≤ k → f k s = some v
theorem row_tot_l (part : Nat → ByteArray → Option RdT) (c N : Nat) (hc : c ≤ 10) (hN : N ≤ 1000000) (d : UInt8) (x2 : Int) (hp : ∀ m, m ≤ N → Tot c m part) : ∀ m, m ≤ N → ∀ (r : ByteArray) (acc : List S62) (ok : Bool), r.size ≤ m → acc.length + r.size ≤ N → ∃ v : RdT, v.2.1.size ≤ r.size ∧ v.1.length + v.2.1.size ≤ acc.length + r.size ∧ ∀ k, 10 * m + 1 ≤ k → rowL part k r (b1 d) x2 acc ok = some v := by
  intro m
  induction m with
  | zero =>
    intro _ r acc ok hr ha
    cases ok with
    | false => exact ⟨([], r, false), Nat.le_refl _, by simp, fun k hk => by
        obtain ⟨k, rfl⟩ : ∃ m, k = m + 1 := ⟨k - 1, by omega⟩
        rw [rowL, if_neg (by decide)]⟩
    | true => exact ⟨(acc, r, true), Nat.le_refl _, Nat.le_refl _, fun k hk => by
        obtain ⟨k, rfl⟩ : ∃ m, k = m + 1 := ⟨k - 1, by omega⟩
        rw [rowL, if_pos rfl, cut_nil r (by omega), Option.bind_some, if_neg (by simp)]⟩
  | succ m ih =>
    intro hm r acc ok hr ha
    cases ok with
    | false => exact ⟨([], r, false), Nat.le_refl _, by simp, fun k hk => by
        obtain ⟨k, rfl⟩ : ∃ m, k = m + 1 := ⟨k - 1, by omega⟩
        rw [rowL, if_neg (by decide)]⟩
    | true =>
      by_cases hs : ∃ q, r = b1 d ++ q
      · obtain ⟨q, rfl⟩ := hs
        have hq := cons_size d q
        obtain ⟨v, h1, h2, h3⟩ := hp m (by omega) q (by omega)
        have hl : (acc ++ v.1 ++ [(⟨x2, 0⟩ : S62)]).length = acc.length + v.1.length + 1 := by simp only [List.length_append, List.length_singleton]
        have hl2 : (acc ++ v.1).length = acc.length + v.1.length := List.length_append ..
        obtain ⟨v2, g1, g2, g3⟩ := ih (by omega) v.2.1 (acc ++ v.1 ++ [(⟨x2, 0⟩ : S62)]) v.2.2 (by omega) (by omega)
        refine ⟨v2, by omega, by omega, fun k hk => ?_⟩
        obtain ⟨k, rfl⟩ : ∃ m, k = m + 1 := ⟨k - 1, by omega⟩
        rw [rowL, if_pos rfl, cut_cons, if_pos rfl]
        simp only [Option.bind_some]
        rw [if_pos trivial, h3 k (by omega)]
        simp only [Option.bind_some]
        rw [if_pos (by omega), if_pos (by omega)]
        exact g3 k (by omega)
      · exact ⟨(acc, r, true), Nat.le_refl _, Nat.le_refl _, fun k hk => by
          obtain ⟨k, rfl⟩ : ∃ m, k = m + 1 := ⟨k - 1, by omega⟩
          rw [rowL, if_pos rfl, cut_NS r d (fun q e => hs ⟨q, e⟩), Option.bind_some, if_neg (by simp)]⟩
theorem row_tot (part f : Nat → ByteArray → Option RdT) (c N : Nat) (hc : 1 ≤ c ∧ c ≤ 9) (hN : N ≤ 1000000) (d : UInt8) (x2 : Int) (hf : ∀ k s, f (k + 1) s = rowF part k s (b1 d) x2) (hp : ∀ m, m ≤ N → Tot c m part) : ∀ m, m ≤ N → Tot (c + 2) m f := by
  intro m hm s hs
  obtain ⟨v, h1, h2, h3⟩ := hp m hm s hs
  obtain ⟨v2, g1, g2, g3⟩ := row_tot_l part c N (by omega) hN d x2 hp m hm v.2.1 v.1 v.2.2 (by omega) (by omega)
  refine ⟨v2, by omega, by omega, fun k hk => ?_⟩
  obtain ⟨k, rfl⟩ : ∃ m, k = m + 1 + 1 := ⟨k - 2, by omega⟩
  rw [hf, rowF, h3 k (by omega), Option.bind_some]
  exact g3 k (by omega)
theorem all_tot (N : Nat) (hN : N ≤ 1000000) (h : ∀ m, m ≤ N → Tot 4 m impl_readPart.f) : ∀ m, m ≤ N → Tot 10 m impl_readSame.f :=
  row_tot impl_readOr.f impl_readSame.f 8 N (by omega) hN 61 5 same_f (row_tot impl_readAnd.f impl_readOr.f 6 N (by omega) hN 124 4 or_f (row_tot impl_readPart.f impl_readAnd.f 4 N (by omega) hN 38 3 and_f h))
theorem part_tot (N : Nat) (hN : N ≤ 1000000) : ∀ m, m ≤ N → Tot 4 m impl_readPart.f := by
  intro m
  induction m using Nat.strongRecOn with
  | _ m ih =>
    intro hm s hs
    rcases ba_cons s with h0 | ⟨c, r, rfl⟩
    · refine ⟨([], s, false), Nat.le_refl _, by simp, fun k hk => ?_⟩
      obtain ⟨k, rfl⟩ : ∃ m, k = m + 1 := ⟨k - 1, by omega⟩
      rw [impl_readPart.f, if_pos ((toL_nil s).2 h0)]
    · have hsz := cons_size c r
      have start : ∀ k, impl_readPart.f (k + 1) (b1 c ++ r) = if (c.toNat : Int) ≥ 97 then impl_readPart.j0 k (b1 c ++ r) c.toNat r (decide ((c.toNat : Int) ≤ 122)) else impl_readPart.j0 k (b1 c ++ r) c.toNat r false := by
        intro k
        rw [impl_readPart.f, if_neg (fun e => by have := (toL_nil _).1 e; omega), if_pos (by omega), if_pos (by omega), bt_cons, cons_tail c r _ rfl]
      have j0f : ∀ k, impl_readPart.j0 (k + 1) (b1 c ++ r) c.toNat r false = if (c.toNat : Int) ≥ 48 then impl_readPart.j1 k (b1 c ++ r) c.toNat r (decide ((c.toNat : Int) ≤ 57)) else impl_readPart.j1 k (b1 c ++ r) c.toNat r false := by
        intro k
        rw [impl_readPart.j0, if_neg (by decide)]
      -- what is left behind letters and digits
      have rest : ∃ v : RdT, v.2.1.size ≤ (b1 c ++ r).size ∧ v.1.length + v.2.1.size ≤ (b1 c ++ r).size ∧ ∀ k, 10 * m + 2 ≤ k → impl_readPart.j1 k (b1 c ++ r) c.toNat r false = some v := by
        by_cases c33 : (c.toNat : Int) = 33
        · obtain ⟨v, h1, h2, h3⟩ := ih (m - 1) (by omega) (by omega) r (by omega)
          refine ⟨(v.1 ++ [(⟨2, 0⟩ : S62)], v.2.1, v.2.2), by show v.2.1.size ≤ _; omega, by show (v.1 ++ [(⟨2, 0⟩ : S62)]).length + v.2.1.size ≤ _; rw [List.length_append, List.length_singleton]; omega, fun k hk => ?_⟩
          obtain ⟨k, rfl⟩ : ∃ m, k = m + 1 := ⟨k - 1, by omega⟩
          rw [impl_readPart.j1, if_neg (by decide), if_pos c33, h3 k (by omega), Option.bind_some, if_pos (by omega)]
        · by_cases c40 : (c.toNat : Int) = 40
          · obtain ⟨v, h1, h2, h3⟩ := all_tot (m - 1) (by omega) (fun q hq => ih q (by omega) (by omega)) (m - 1) (Nat.le_refl _) r (by omega)
            have hcut : ∃ x : ByteArray × Bool, strings_CutPrefix.f v.2.1 (b1 41) = some x ∧ x.1.size ≤ v.2.1.size := by
              by_cases hs : ∃ q, v.2.1 = b1 41 ++ q
              · obtain ⟨q, e⟩ := hs
                exact ⟨(q, true), by rw [e, cut_cons, if_pos rfl], by rw [e, cons_size]; show q.size ≤ _; omega⟩
              · exact ⟨(v.2.1, false), cut_NS _ _ (fun q e => hs ⟨q, e⟩), Nat.le_refl _⟩
            obtain ⟨x, hx, hx2⟩ := hcut
            refine ⟨if v.2.2 = true then (v.1, x.1, x.2) else (v.1, x.1, false), ?_, ?_, fun k hk => ?_⟩
            · split <;> (show x.1.size ≤ _; omega)
            · split <;> (show v.1.length + x.1.size ≤ _; omega)
            · obtain ⟨k, rfl⟩ : ∃ m, k = m + 1 := ⟨k - 1, by omega⟩
              rw [impl_readPart.j1, if_neg (by decide), if_neg c33, if_pos c40, h3 k (by omega), Option.bind_some]
              show (strings_CutPrefix.f v.2.1 (b1 41)).bind _ = _
              rw [hx, Option.bind_some]
              split <;> rfl
          · refine ⟨([], b1 c ++ r, false), Nat.le_refl _, by simp, fun k hk => ?_⟩
            obtain ⟨k, rfl⟩ : ∃ m, k = m + 1 := ⟨k - 1, by omega⟩
            rw [impl_readPart.j1, if_neg (by decide), if_neg c33, if_neg c40]
      have rest2 : ∃ v : RdT, v.2.1.size ≤ (b1 c ++ r).size ∧ v.1.length + v.2.1.size ≤ (b1 c ++ r).size ∧ ∀ k, 10 * m + 3 ≤ k → impl_readPart.j0 k (b1 c ++ r) c.toNat r false = some v := by
        obtain ⟨v, h1, h2, h3⟩ := rest
        by_cases d1 : (c.toNat : Int) ≥ 48
        · by_cases d2 : (c.toNat : Int) ≤ 57
          · refine ⟨([(⟨1, ((c.toNat : Int) - 48) % 256⟩ : S62)], r, true), by show r.size ≤ _; omega, by show 1 + r.size ≤ _; omega, fun k hk => ?_⟩
            obtain ⟨k, rfl⟩ : ∃ m, k = m + 1 + 1 := ⟨k - 2, by omega⟩
            rw [j0f, if_pos d1, decide_eq_true d2, impl_readPart.j1, if_pos rfl]
          · refine ⟨v, h1, h2, fun k hk => ?_⟩
            obtain ⟨k, rfl⟩ : ∃ m, k = m + 1 := ⟨k - 1, by omega⟩
            rw [j0f, if_pos d1, decide_eq_false d2]
            exact h3 k (by omega)
        · refine ⟨v, h1, h2, fun k hk => ?_⟩
          obtain ⟨k, rfl⟩ : ∃ m, k = m + 1 := ⟨k - 1, by omega⟩
          rw [j0f, if_neg d1]
          exact h3 k (by omega)
      obtain ⟨v, h1, h2, h3⟩ := rest2
      by_cases d1 : (c.toNat : Int) ≥ 97
      · by_cases d2 : (c.toNat : Int) ≤ 122
        · refine ⟨([(⟨0, ((c.toNat : Int) - 97) % 256⟩ : S62)], r, true), by show r.size ≤ _; omega, by show 1 + r.size ≤ _; omega, fun k hk => ?_⟩
          obtain ⟨k, rfl⟩ : ∃ m, k = m + 1 + 1 := ⟨k - 2, by omega⟩
          rw [start, if_pos d1, decide_eq_true d2, impl_readPart.j0, if_pos rfl]
        · refine ⟨v, h1, h2, fun k hk => ?_⟩
          obtain ⟨k, rfl⟩ : ∃ m, k = m + 1 := ⟨k - 1, by omega⟩
          rw [start, if_pos d1, decide_eq_false d2]
          exact h3 k (by omega)
      · refine ⟨v, h1, h2, fun k hk => ?_⟩
        obtain ⟨k, rfl⟩ : ∃ m, k = m + 1 := ⟨k - 1, by omega⟩
        rw [start, if_neg d1]
        exact h3 k (by omega)
theorem same_tot (s : ByteArray) (hs : s.size ≤ 1000000) : ∃ v : RdT, v.1.length ≤ s.size ∧ ∀ k, 10 * s.size + 10 ≤ k → impl_readSame.f k s = some v := by
  obtain ⟨v, h1, h2, h3⟩ := all_tot s.size hs (part_tot s.size hs) s.size (Nat.le_refl _) s (Nat.le_refl _)
  exact ⟨v, by omega, h3⟩

/-! ### the text of a term is read to the term -/
def PE (f : Nat → ByteArray → Option RdT) (s : ByteArray) (v : RdT) : Prop := ∃ k0, ∀ k, k0 ≤ k → f k s = some v
def HL (part : Nat → ByteArray → Option RdT) (d : UInt8) (x2 : Int) (r : ByteArray) (acc : List S62) (v : RdT) : Prop := ∃ k0, ∀ k, k0 ≤ k → rowL part k r (b1 d) x2 acc true = some v
def HF (part : Nat → ByteArray → Option RdT) (d : UInt8) (x2 : Int) (s : ByteArray) (v : RdT) : Prop := ∃ k0, ∀ k, k0 ≤ k → rowF part k s (b1 d) x2 = some v
theorem row_part {part : Nat → ByteArray → Option RdT} {d : UInt8} {x2 : Int} {s r : ByteArray} {t : List S62} {v : RdT} (h : PE part s (t, r, true)) (hl : HL part d x2 r t v) : HF part d x2 s v := by
  obtain ⟨k1, h1⟩ := h
  obtain ⟨k2, h2⟩ := hl
  refine ⟨k1 + k2 + 1, fun k hk => ?_⟩
  obtain ⟨k, rfl⟩ : ∃ m, k = m + 1 := ⟨k - 1, by omega⟩
  rw [rowF, h1 k (by omega), Option.bind_some]
  exact h2 k (by omega)
theorem row_step {part : Nat → ByteArray → Option RdT} {d : UInt8} {x2 : Int} {s r : ByteArray} {a b : List S62} {v : RdT} (hn : a.length + b.length ≤ 1000000) (h : PE part s (b, r, true)) (hl : HL part d x2 r (a ++ b ++ [(⟨x2, 0⟩ : S62)]) v) : HL part d x2 (b1 d ++ s) a v := by
  obtain ⟨k1, h1⟩ := h
  obtain ⟨k2, h2⟩ := hl
  have hl2 : (a ++ b).length = a.length + b.length := List.length_append ..
  refine ⟨k1 + k2 + 1, fun k hk => ?_⟩
  obtain ⟨k, rfl⟩ : ∃ m, k = m + 1 := ⟨k - 1, by omega⟩
  rw [rowL, if_pos rfl, cut_cons, if_pos rfl]
  simp only [Option.bind_some]
  rw [if_pos trivial, h1 k (by omega)]
  simp only [Option.bind_some]
  rw [if_pos (by omega), if_pos (by omega)]
  exact h2 k (by omega)
theorem row_stop {part : Nat → ByteArray → Option RdT} {d : UInt8} {x2 : Int} {r : ByteArray} (a : List S62) (h : NS r d) : HL part d x2 r a (a, r, true) := by
  refine ⟨1, fun k hk => ?_⟩
  obtain ⟨k, rfl⟩ : ∃ m, k = m + 1 := ⟨k - 1, by omega⟩
  rw [rowL, if_pos rfl, cut_NS r d h, Option.bind_some, if_neg (by simp)]
theorem PE_of {part f : Nat → ByteArray → Option RdT} {d : UInt8} {x2 : Int} (hf : ∀ k s, f (k + 1) s = rowF part k s (b1 d) x2) {s : ByteArray} {v : RdT} (h : HF part d x2 s v) : PE f s v := by
  obtain ⟨k1, h1⟩ := h
  refine ⟨k1 + 1, fun k hk => ?_⟩
  obtain ⟨k, rfl⟩ : ∃ m, k = m + 1 := ⟨k - 1, by omega⟩
  rw [hf]; exact h1 k (by omega)
/-- The text of a part where it stands for more. -/
def wt (j : Int) (t : List S62) : ByteArray := sw j (tx t).2 (tx t).1
def P3 (t : List S62) : Prop := ∀ r, PE impl_readPart.f (wt 3 t ++ r) (t, r, true)
def P2 (t : List S62) : Prop := ∀ r, NS r 38 → PE impl_readAnd.f (wt 2 t ++ r) (t, r, true)
def P1 (t : List S62) : Prop := ∀ r, NS r 38 → NS r 124 → PE impl_readOr.f (wt 1 t ++ r) (t, r, true)
def P0 (t : List S62) : Prop := ∀ r, NS r 38 → NS r 124 → NS r 61 → PE impl_readSame.f (wt 0 t ++ r) (t, r, true)
def H2 (t : List S62) : Prop := ∀ r v, HL impl_readPart.f 38 3 r t v → HF impl_readPart.f 38 3 (wt 2 t ++ r) v
def H1 (t : List S62) : Prop := ∀ r v, NS r 38 → HL impl_readAnd.f 124 4 r t v → HF impl_readAnd.f 124 4 (wt 1 t ++ r) v
def H0 (t : List S62) : Prop := ∀ r v, NS r 38 → NS r 124 → HL impl_readOr.f 61 5 r t v → HF impl_readOr.f 61 5 (wt 0 t ++ r) v
theorem P2_of {t : List S62} (h : H2 t) : P2 t := fun r n1 => PE_of and_f (h r _ (row_stop t n1))
theorem P1_of {t : List S62} (h : H1 t) : P1 t := fun r n1 n2 => PE_of or_f (h r _ n1 (row_stop t n2))
theorem P0_of {t : List S62} (h : H0 t) : P0 t := fun r n1 n2 n3 => PE_of same_f (h r _ n1 n2 (row_stop t n3))
theorem H2_of {t : List S62} (e : wt 2 t = wt 3 t) (h : P3 t) : H2 t := fun r v hl => by rw [e]; exact row_part (h r) hl
theorem H1_of {t : List S62} (e : wt 1 t = wt 2 t) (h : P2 t) : H1 t := fun r v n1 hl => by rw [e]; exact row_part (h r n1) hl
theorem H0_of {t : List S62} (e : wt 0 t = wt 1 t) (h : P1 t) : H0 t := fun r v n1 n2 hl => by rw [e]; exact row_part (h r n1 n2) hl
/-- How a part opens and goes on. -/
theorem part_start (c : UInt8) (r : ByteArray) (k : Nat) (h : (c.toNat : Int) < 48) : impl_readPart.f (k + 1 + 1) (b1 c ++ r) = impl_readPart.j1 k (b1 c ++ r) c.toNat r false := by
  have hsz := cons_size c r
  rw [impl_readPart.f, if_neg (fun e => by have := (toL_nil _).1 e; omega), if_pos (by omega), if_pos (by omega), bt_cons, cons_tail c r _ rfl, if_neg (by omega), impl_readPart.j0, if_neg (by decide), if_neg (by omega)]
/-- What stands in brackets is read. -/
theorem PP_of {t : List S62} (h : P0 t) (r : ByteArray) : PE impl_readPart.f (b1 40 ++ (wt 0 t ++ (b1 41 ++ r))) (t, r, true) := by
  obtain ⟨k1, h1⟩ := h (b1 41 ++ r) (NS_cons r (by decide)) (NS_cons r (by decide)) (NS_cons r (by decide))
  refine ⟨k1 + 3, fun k hk => ?_⟩
  obtain ⟨k, rfl⟩ : ∃ m, k = m + 1 + 1 + 1 := ⟨k - 3, by omega⟩
  rw [part_start 40 _ (k + 1) (by decide), impl_readPart.j1, if_neg (by decide), if_neg (by decide), if_pos (by decide), h1 k (by omega), Option.bind_some]
  show (strings_CutPrefix.f (b1 41 ++ r) (b1 41)).bind _ = _
  rw [cut_cons, if_pos rfl, Option.bind_some, if_pos rfl]
theorem wt_in {j : Int} {t : List S62} (h : mn (5 - (tx t).2) 3 < j) : wt j t = b1 40 ++ ((tx t).1 ++ b1 41) := by
  unfold wt sw
  rw [if_pos h, ByteArray.append_assoc]; rfl
theorem wt_out {j : Int} {t : List S62} (h : ¬ mn (5 - (tx t).2) 3 < j) : wt j t = (tx t).1 := by
  unfold wt sw
  rw [if_neg h]
theorem P3_of {p : Int} {t : List S62} (ht : Tm p t) (hb : mn (5 - (tx t).2) 3 < 3) (h : P0 t) : P3 t := by
  intro r
  have := PP_of h r
  have e0 : wt 0 t = (tx t).1 := by unfold wt; exact sw0 t ht
  rw [e0] at this
  rw [wt_in hb, ByteArray.append_assoc, ByteArray.append_assoc]
  exact this
def All (t : List S62) : Prop := P3 t ∧ P2 t ∧ P1 t ∧ P0 t ∧ H2 t ∧ H1 t ∧ H0 t
theorem read_all {p : Int} (hp : 1 ≤ p ∧ p ≤ 4) : ∀ t : List S62, Tm p t → t.length ≤ 1000 → All t := by
  apply Tm_ind
  · intro m hm _
    have ek : (tx [m]).2 = m.f0 := by rcases hm with ⟨e, _⟩ | ⟨e, _⟩; · rw [tx_tells m e]; exact e.symm
                                      · rw [tx_count m e]; exact e.symm
    have hk : m.f0 ≤ 1 ∧ 0 ≤ m.f0 := by rcases hm with ⟨e, _⟩ | ⟨e, _⟩ <;> omega
    have eb : mn (5 - (tx [m]).2) 3 = 3 := by rw [ek]; unfold mn; split <;> omega
    have w3 : wt 3 [m] = (tx [m]).1 := wt_out (by omega)
    have w2 : wt 2 [m] = (tx [m]).1 := wt_out (by omega)
    have w1 : wt 1 [m] = (tx [m]).1 := wt_out (by omega)
    have w0 : wt 0 [m] = (tx [m]).1 := wt_out (by omega)
    have p3 : P3 [m] := by
      intro r
      refine ⟨3, fun k hk' => ?_⟩
      obtain ⟨k, rfl⟩ : ∃ m, k = m + 1 + 1 + 1 := ⟨k - 3, by omega⟩
      rw [w3]
      rcases hm with ⟨e, h0, h1⟩ | ⟨e, h0, h1⟩
      · have hc : (UInt8.ofNat (97 + m.f1).toNat).toNat = (97 + m.f1).toNat := by rw [UInt8.toNat_ofNat']; omega
        have et : (tx [m]).1 = b1 (UInt8.ofNat (97 + m.f1).toNat) := by rw [tx_tells m e]; rfl
        have hsz := cons_size (UInt8.ofNat (97 + m.f1).toNat) r
        have em : m = (⟨0, m.f1⟩ : S62) := by cases m; simp only at e; rw [e]
        rw [et, impl_readPart.f, if_neg (fun e => by have := (toL_nil _).1 e; omega), if_pos (by omega), if_pos (by omega), bt_cons, cons_tail _ r _ rfl, hc, if_pos (by omega), decide_eq_true (by omega), impl_readPart.j0, if_pos rfl, show ((97 + m.f1).toNat - 97 : Int) % 256 = m.f1 by omega, ← em]
      · have hc : (UInt8.ofNat (48 + m.f1).toNat).toNat = (48 + m.f1).toNat := by rw [UInt8.toNat_ofNat']; omega
        have et : (tx [m]).1 = b1 (UInt8.ofNat (48 + m.f1).toNat) := by rw [tx_count m e]; rfl
        have hsz := cons_size (UInt8.ofNat (48 + m.f1).toNat) r
        have em : m = (⟨1, m.f1⟩ : S62) := by cases m; simp only at e; rw [e]
        rw [et, impl_readPart.f, if_neg (fun e => by have := (toL_nil _).1 e; omega), if_pos (by omega), if_pos (by omega), bt_cons, cons_tail _ r _ rfl, hc, if_neg (by omega), impl_readPart.j0, if_neg (by decide), if_pos (by omega), decide_eq_true (by omega), impl_readPart.j1, if_pos rfl, show ((48 + m.f1).toNat - 48 : Int) % 256 = m.f1 by omega, ← em]
    have h2 := H2_of (by rw [w2, w3]) p3
    have p2 := P2_of h2
    have h1 := H1_of (by rw [w1, w2]) p2
    have p1 := P1_of h1
    have h0 := H0_of (by rw [w0, w1]) p1
    exact ⟨p3, p2, p1, P0_of h0, h2, h1, h0⟩
  · intro a m ha e e0 ih hl
    have hn1 : (a ++ [m]).length = a.length + 1 := by simp
    have iha := ih (by omega)
    have et := tx_not a m ha e
    have eb : mn (5 - (tx (a ++ [m])).2) 3 = 3 := by rw [et]; rfl
    have w3 : wt 3 (a ++ [m]) = (tx (a ++ [m])).1 := wt_out (by omega)
    have w2 : wt 2 (a ++ [m]) = (tx (a ++ [m])).1 := wt_out (by omega)
    have w1 : wt 1 (a ++ [m]) = (tx (a ++ [m])).1 := wt_out (by omega)
    have w0 : wt 0 (a ++ [m]) = (tx (a ++ [m])).1 := wt_out (by omega)
    have p3 : P3 (a ++ [m]) := by
      intro r
      obtain ⟨k1, h1⟩ := iha.1 r
      have em : m = (⟨2, 0⟩ : S62) := by cases m; simp only at e e0; rw [e, e0]
      refine ⟨k1 + 3, fun k hk => ?_⟩
      obtain ⟨k, rfl⟩ : ∃ m, k = m + 1 + 1 + 1 := ⟨k - 3, by omega⟩
      have es : wt 3 (a ++ [m]) ++ r = b1 33 ++ (wt 3 a ++ r) := by rw [w3, et]; show b1 33 ++ wt 3 a ++ r = _; rw [ByteArray.append_assoc]
      rw [es, part_start 33 _ (k + 1) (by decide), impl_readPart.j1, if_neg (by decide), if_pos (by decide), h1 k (by omega), Option.bind_some, if_pos (by show a.length < 8796093022208; omega), ← em]
    have h2 := H2_of (by rw [w2, w3]) p3
    have p2 := P2_of h2
    have h1 := H1_of (by rw [w1, w2]) p2
    have p1 := P1_of h1
    have h0 := H0_of (by rw [w0, w1]) p1
    exact ⟨p3, p2, p1, P0_of h0, h2, h1, h0⟩
  · intro a b m ha hb e3 e5 e0 iha ihb hl
    have hn1 : (a ++ b ++ [m]).length = a.length + b.length + 1 := by simp only [List.length_append, List.length_singleton]
    have iha := iha (by omega)
    have ihb := ihb (by omega)
    have ht : Tm p (a ++ b ++ [m]) := Tm_bin ha hb e3 e5 e0
    have et := tx_bin a b m ha hb e3
    have et1 : (tx (a ++ b ++ [m])).1 = wt (5 - m.f0) a ++ (sg m.f0 ++ wt (5 - m.f0 + 1) b) := by rw [et, ← ByteArray.append_assoc]; rfl
    have eb : mn (5 - (tx (a ++ b ++ [m])).2) 3 = 5 - m.f0 := by rw [et]; show mn (5 - m.f0) 3 = 5 - m.f0; unfold mn; split <;> omega
    have em : m = (⟨m.f0, 0⟩ : S62) := by cases m; simp only at e0; rw [e0]
    rcases (by omega : m.f0 = 3 ∨ m.f0 = 4 ∨ m.f0 = 5) with c | c | c
    · rw [c] at eb
      have w2 : wt 2 (a ++ b ++ [m]) = (tx (a ++ b ++ [m])).1 := wt_out (by omega)
      have w1 : wt 1 (a ++ b ++ [m]) = (tx (a ++ b ++ [m])).1 := wt_out (by omega)
      have w0 : wt 0 (a ++ b ++ [m]) = (tx (a ++ b ++ [m])).1 := wt_out (by omega)
      have h2 : H2 (a ++ b ++ [m]) := by
        intro r v hh
        have es : wt 2 (a ++ b ++ [m]) ++ r = wt 2 a ++ (b1 38 ++ (wt 3 b ++ r)) := by
          rw [w2, et1, c]; show wt 2 a ++ (b1 38 ++ wt 3 b) ++ r = _; rw [ByteArray.append_assoc, ByteArray.append_assoc]
        rw [es]
        rw [em, c] at hh
        exact iha.2.2.2.2.1 _ _ (row_step (by omega) (ihb.1 r) hh)
      have p2 := P2_of h2
      have h1 := H1_of (by rw [w1, w2]) p2
      have p1 := P1_of h1
      have h0 := H0_of (by rw [w0, w1]) p1
      have p0 := P0_of h0
      exact ⟨P3_of ht (by omega) p0, p2, p1, p0, h2, h1, h0⟩
    · rw [c] at eb
      have w2 : wt 2 (a ++ b ++ [m]) = wt 3 (a ++ b ++ [m]) := by rw [wt_in (by omega), wt_in (by omega)]
      have w1 : wt 1 (a ++ b ++ [m]) = (tx (a ++ b ++ [m])).1 := wt_out (by omega)
      have w0 : wt 0 (a ++ b ++ [m]) = (tx (a ++ b ++ [m])).1 := wt_out (by omega)
      have h1 : H1 (a ++ b ++ [m]) := by
        intro r v n1 hh
        have es : wt 1 (a ++ b ++ [m]) ++ r = wt 1 a ++ (b1 124 ++ (wt 2 b ++ r)) := by
          rw [w1, et1, c]; show wt 1 a ++ (b1 124 ++ wt 2 b) ++ r = _; rw [ByteArray.append_assoc, ByteArray.append_assoc]
        rw [es]
        rw [em, c] at hh
        exact iha.2.2.2.2.2.1 _ _ (NS_cons _ (by decide)) (row_step (by omega) (ihb.2.1 r n1) hh)
      have p1 := P1_of h1
      have h0 := H0_of (by rw [w0, w1]) p1
      have p0 := P0_of h0
      have p3 := P3_of ht (by omega) p0
      have h2 := H2_of w2 p3
      exact ⟨p3, P2_of h2, p1, p0, h2, h1, h0⟩
    · rw [c] at eb
      have w2 : wt 2 (a ++ b ++ [m]) = wt 3 (a ++ b ++ [m]) := by rw [wt_in (by omega), wt_in (by omega)]
      have w1 : wt 1 (a ++ b ++ [m]) = wt 2 (a ++ b ++ [m]) := by rw [wt_in (by omega), wt_in (by omega)]
      have w0 : wt 0 (a ++ b ++ [m]) = (tx (a ++ b ++ [m])).1 := wt_out (by omega)
      have h0 : H0 (a ++ b ++ [m]) := by
        intro r v n1 n2 hh
        have es : wt 0 (a ++ b ++ [m]) ++ r = wt 0 a ++ (b1 61 ++ (wt 1 b ++ r)) := by
          rw [w0, et1, c]; show wt 0 a ++ (b1 61 ++ wt 1 b) ++ r = _; rw [ByteArray.append_assoc, ByteArray.append_assoc]
        rw [es]
        rw [em, c] at hh
        exact iha.2.2.2.2.2.2 _ _ (NS_cons _ (by decide)) (NS_cons _ (by decide)) (row_step (by omega) (ihb.2.2.1 r n1 n2) hh)
      have p0 := P0_of h0
      have p3 := P3_of ht (by omega) p0
      have h2 := H2_of w2 p3
      have p2 := P2_of h2
      have h1 := H1_of w1 p2
      exact ⟨p3, p2, P1_of h1, p0, h2, h1, h0⟩
/-- The text of a term is read to it. -/
theorem same_comp {p : Int} (hp : 1 ≤ p ∧ p ≤ 4) (t : List S62) (ht : Tm p t) (hl : t.length ≤ 1000) : ∃ r : ByteArray, r.size = 0 ∧ PE impl_readSame.f (tx t).1 (t, r, true) := by
  have hz : (ByteArray.empty).size = 0 := rfl
  have h := (read_all hp t ht hl).2.2.2.1 ByteArray.empty (NS_nil hz 38) (NS_nil hz 124) (NS_nil hz 61)
  have e0 : wt 0 t = (tx t).1 := by unfold wt; exact sw0 t ht
  rw [e0, ByteArray.append_empty] at h
  exact ⟨_, hz, h⟩
theorem paren_comp {p : Int} (hp : 1 ≤ p ∧ p ≤ 4) (t : List S62) (ht : Tm p t) (hl : t.length ≤ 1000) : ∃ r : ByteArray, r.size = 0 ∧ PE impl_readSame.f (b1 40 ++ ((tx t).1 ++ b1 41)) (t, r, true) := by
  have hz : (ByteArray.empty).size = 0 := rfl
  have h := PP_of (read_all hp t ht hl).2.2.2.1 ByteArray.empty
  have e0 : wt 0 t = (tx t).1 := by unfold wt; exact sw0 t ht
  rw [e0, ByteArray.append_empty] at h
  have h2 := PE_of and_f (row_part h (row_stop t (NS_nil hz 38)))
  have h1 := PE_of or_f (row_part h2 (row_stop t (NS_nil hz 124)))
  exact ⟨_, hz, PE_of same_f (row_part h1 (row_stop t (NS_nil hz 61)))⟩

/-- The text of a term. -/
def txT (p : Int) (t : List S62) : ByteArray := if TermB p t then (tx t).1 else ⟨#[]⟩

theorem rdh2 (l : List Int) (i : Nat) (h : i < l.length) : rd l ((i : Nat) : Int) = l[i] := by
  unfold rd
  rw [Int.toNat_natCast, List.getD_eq_getElem?_getD, List.getElem?_eq_getElem h]; rfl

theorem people_eq (p : Int) : impl_peopleOk.f p = some (decide (1 ≤ p ∧ p ≤ 4)) := by
  unfold impl_peopleOk.f
  by_cases h : p ≥ 1
  · rw [if_pos h]; congr 1; rw [decide_eq_decide]; omega
  · rw [if_neg h]; congr 1; symm; rw [decide_eq_false_iff_not]; omega

theorem itermok_loop (p : Int) (hp : 1 ≤ p ∧ p ≤ 4) (l : List S62) (hn : l.length ≤ 15) (d : Nat) : ∀ (i : Nat) (n : Int), i + d = l.length → 0 ≤ n → n ≤ i → ∀ k, 2 * d < k →
    impl_TermOk.l0 k p n l (l.length : Int) ((i : Nat) : Int) = some (decide (tfold p n (l.drop i) = some 1)) := by
  induction d with
  | zero =>
    intro i n hi h0 h1 k hk
    obtain ⟨k, rfl⟩ : ∃ m, k = m + 1 := ⟨k - 1, by omega⟩
    rw [impl_TermOk.l0, if_neg (by omega), List.drop_of_length_le (by omega)]
    congr 1; rw [Bool.eq_iff_iff, beq_iff_eq, decide_eq_true_iff]; simp [tfold]
  | succ d ih =>
    intro i n hi h0 h1 k hk
    obtain ⟨k, rfl⟩ : ∃ m, k = m + 2 := ⟨k - 2, by omega⟩
    have hlt : i < l.length := by omega
    have next : ∀ (n' : Int) (k' : Nat), tstep p n l[i] = some n' → 0 ≤ n' → n' ≤ i + 1 → 2 * d < k' →
        impl_TermOk.l0 k' p n' l (l.length : Int) (wrap64 ((i : Int) + 1)) = some (decide (tfold p n (l.drop i) = some 1)) := by
      intro n' k' hs h0' h1' hk'
      have := ih (i + 1) n' (by omega) h0' (by omega) k' hk'
      rw [w64 (by omega) (by omega), show (i : Int) + 1 = ((i + 1 : Nat) : Int) by omega, this, List.drop_eq_getElem_cons hlt, tfold_some _ hs]
    have stop : tstep p n l[i] = none → some false = some (decide (tfold p n (l.drop i) = some 1)) := by
      intro hs
      rw [List.drop_eq_getElem_cons hlt, tfold_none _ hs]; simp
    generalize hgm : l[i] = m at *
    have hrd : rd_T62 l ((i : Nat) : Int) = m := by rw [rdm l i hlt]; exact hgm
    have g2 : ∀ b, (b = true ↔ (3 ≤ m.f0 ∧ m.f0 ≤ 5)) → m.f0 ≠ 0 → m.f0 ≠ 1 → m.f0 ≠ 2 → impl_TermOk.j2 (k + 1) p n l (l.length : Int) ((i : Nat) : Int) b m.f0 m.f1 = some (decide (tfold p n (l.drop i) = some 1)) := by
      intro b hb n0 n1 n2
      rw [impl_TermOk.j2]
      by_cases hbt : b = true
      · have h35 := hb.1 hbt
        rw [if_pos hbt]
        by_cases ha : m.f1 = 0
        · rw [if_pos ha]
          by_cases h2 : n < 2
          · rw [if_pos h2]
            exact stop (by unfold tstep; rw [if_neg n0, if_neg n1, if_neg n2, if_pos h35, if_neg (by omega)])
          · rw [if_neg h2, w64 (x := n - 1) (by omega) (by omega)]
            exact next (n - 1) k (by unfold tstep; rw [if_neg n0, if_neg n1, if_neg n2, if_pos h35, if_pos (by omega)]) (by omega) (by omega) (by omega)
        · rw [if_neg ha]
          exact stop (by unfold tstep; rw [if_neg n0, if_neg n1, if_neg n2, if_pos h35, if_neg (by omega)])
      · have h35 : ¬ (3 ≤ m.f0 ∧ m.f0 ≤ 5) := fun h => hbt (hb.2 h)
        rw [if_neg hbt]
        exact stop (by unfold tstep; rw [if_neg n0, if_neg n1, if_neg n2, if_neg h35])
    rw [show k + 2 = (k + 1) + 1 from rfl, impl_TermOk.l0, if_pos (by omega), if_pos (by omega), if_pos (by omega), hrd]
    by_cases e0 : m.f0 = 0
    · rw [if_pos e0]
      by_cases e1 : m.f1 < 0
      · rw [if_pos e1]; exact stop (by unfold tstep; rw [if_pos e0, if_neg (by omega)])
      · rw [if_neg e1]
        by_cases e2 : m.f1 ≥ p
        · rw [if_pos e2]; exact stop (by unfold tstep; rw [if_pos e0, if_neg (by omega)])
        · rw [if_neg e2, w64 (x := n + 1) (by omega) (by omega)]
          exact next (n + 1) (k + 1) (by unfold tstep; rw [if_pos e0, if_pos (by omega)]) (by omega) (by omega) (by omega)
    · rw [if_neg e0]
      by_cases e1 : m.f0 = 1
      · rw [if_pos e1]
        by_cases e2 : m.f1 < 0
        · rw [if_pos e2]; exact stop (by unfold tstep; rw [if_neg e0, if_pos e1, if_neg (by omega)])
        · rw [if_neg e2, w64 (x := p + 1) (by omega) (by omega)]
          by_cases e3 : m.f1 > p + 1
          · rw [if_pos e3]; exact stop (by unfold tstep; rw [if_neg e0, if_pos e1, if_neg (by omega)])
          · rw [if_neg e3, w64 (x := n + 1) (by omega) (by omega)]
            exact next (n + 1) (k + 1) (by unfold tstep; rw [if_neg e0, if_pos e1, if_pos (by omega)]) (by omega) (by omega) (by omega)
      · rw [if_neg e1]
        by_cases e2 : m.f0 = 2
        · rw [if_pos e2]
          by_cases e3 : m.f1 = 0
          · rw [if_pos e3]
            by_cases e4 : n < 1
            · rw [if_pos e4]; exact stop (by unfold tstep; rw [if_neg e0, if_neg e1, if_pos e2, if_neg (by omega)])
            · rw [if_neg e4]
              exact next n (k + 1) (by unfold tstep; rw [if_neg e0, if_neg e1, if_pos e2, if_pos (by omega)]) (by omega) (by omega) (by omega)
          · rw [if_neg e3]; exact stop (by unfold tstep; rw [if_neg e0, if_neg e1, if_pos e2, if_neg (by omega)])
        · rw [if_neg e2]
          by_cases e3 : m.f0 = 3
          · rw [if_pos e3]; exact g2 _ (by rw [beq_iff_eq]; omega) e0 e1 e2
          · rw [if_neg e3]
            by_cases e4 : m.f0 = 4
            · rw [if_pos e4]; exact g2 _ (by rw [beq_iff_eq]; omega) e0 e1 e2
            · rw [if_neg e4]; exact g2 _ (by rw [beq_iff_eq]; omega) e0 e1 e2
theorem itermok (p : Int) (l : List S62) (k : Nat) (hk : 32 < k) : impl_TermOk.f k p l = some (decide (TermB p l)) := by
  unfold impl_TermOk.f
  obtain ⟨k, rfl⟩ : ∃ m, k = m + 1 := ⟨k - 1, by omega⟩
  rw [people_eq, Option.bind_some]
  by_cases hp : 1 ≤ p ∧ p ≤ 4
  · rw [if_pos (by simpa using hp)]
    by_cases h1 : (l.length : Int) < 1
    · rw [if_pos h1, impl_TermOk.j0, if_pos rfl]
      congr 1; symm; rw [decide_eq_false_iff_not]; intro h; have := TermB_pos h; omega
    · rw [if_neg h1, impl_TermOk.j0]
      by_cases h2 : (l.length : Int) > 15
      · rw [if_pos (by simpa using h2)]
        congr 1; symm; rw [decide_eq_false_iff_not]; intro h; have := h.2.2.1; omega
      · rw [if_neg (by simpa using h2)]
        have := itermok_loop p hp l (by omega) l.length 0 0 (by omega) (by omega) (by omega) k (by omega)
        rw [show ((0 : Nat) : Int) = 0 from rfl] at this
        rw [this, List.drop_zero]
        congr 1; rw [decide_eq_decide]; unfold TermB
        constructor
        · intro h; exact ⟨hp.1, hp.2, by omega, h⟩
        · intro h; exact h.2.2.2
  · rw [if_neg (by simpa using hp), impl_TermOk.j0, if_pos rfl]
    congr 1; symm; rw [decide_eq_false_iff_not]; intro h; exact hp ⟨h.1, h.2.1⟩

/-- Backwards over one part. -/
theorem lpart {p : Int} : ∀ b : List S62, Tm p b → ∃ c, c ≤ 3 * b.length ∧ ∀ (x y : List S62) (n : Int) (K : Nat), 1 ≤ n → n ≤ 1000 - (b.length : Int) → x.length + b.length ≤ 1000 →
    impl_lastPart.l0 (K + c) (x ++ b ++ y) n ((x.length + b.length : Nat) - 1 : Int) = if n = 1 then some (x.length : Int) else impl_lastPart.l0 K (x ++ b ++ y) (n - 1) ((x.length : Int) - 1) := by
  apply Tm_ind
  · intro m hm
    refine ⟨2, by simp, fun x y n K h1 h2 h3 => ?_⟩
    have hr : rd_T62 (x ++ [m] ++ y) ((x.length + [m].length : Nat) - 1 : Int) = m := rdm_mid x y _ m (by simp) _ (by simp)
    have hl : (x ++ [m] ++ y).length = x.length + 1 + y.length := by simp only [List.length_append, List.length_singleton]
    have hb1 : [m].length = 1 := rfl
    rw [impl_lastPart.l0, if_pos (by omega), if_pos (by omega), hr]
    have fin : impl_lastPart.j1 (K + 1) (x ++ [m] ++ y) n ((x.length + [m].length : Nat) - 1 : Int) m.f0 true = if n = 1 then some (x.length : Int) else impl_lastPart.l0 K (x ++ [m] ++ y) (n - 1) ((x.length : Int) - 1) := by
      rw [impl_lastPart.j1, if_pos rfl, w64 (x := n - 1) (by omega) (by omega)]
      by_cases c : n = 1
      · rw [if_pos c, if_pos (by omega)]; congr 1; omega
      · rw [if_neg c, if_neg (by omega), w64 (by omega) (by omega)]; congr 1; omega
    rcases hm with ⟨e, _⟩ | ⟨e, _⟩
    · have e2 : (m.f0 == 0) = true := by rw [beq_iff_eq]; exact e
      rw [if_pos e, e2]; exact fin
    · have e2 : (m.f0 == 1) = true := by rw [beq_iff_eq]; exact e
      rw [if_neg (by omega), e2]; exact fin
  · intro a m ha e e0 ih
    obtain ⟨c, hc, ih⟩ := ih
    have hn1 : (a ++ [m]).length = a.length + 1 := by simp
    refine ⟨c + 3, by omega, fun x y n K h1 h2 h3 => ?_⟩
    have hr : rd_T62 (x ++ (a ++ [m]) ++ y) ((x.length + (a ++ [m]).length : Nat) - 1 : Int) = m := rdm_mid (x ++ a) y _ m (by simp) _ (by rw [hn1, List.length_append]; omega)
    have hl : (x ++ (a ++ [m]) ++ y).length = x.length + (a.length + 1) + y.length := by simp only [List.length_append, List.length_singleton]
    have e1 : (m.f0 == 1) = false := by rw [beq_eq_false_iff_ne]; omega
    have e5 : (m.f0 == 5) = false := by rw [beq_eq_false_iff_ne]; omega
    have := ih x ([m] ++ y) n K h1 (by omega) (by omega)
    have el : x ++ a ++ ([m] ++ y) = x ++ (a ++ [m]) ++ y := by simp
    rw [el] at this
    rw [show K + (c + 3) = (K + c + 2) + 1 by omega, impl_lastPart.l0, if_pos (by omega), if_pos (by omega), hr, if_neg (by omega), e1, impl_lastPart.j1, if_neg (by decide), if_neg (by omega), if_neg (by omega), e5, impl_lastPart.j2, if_neg (by decide), if_neg (by omega), w64 (by omega) (by omega), ← this]
    congr 1; omega
  · intro a b m ha hb e3 e5 e0 iha ihb
    obtain ⟨ca, hca, iha⟩ := iha
    obtain ⟨cb, hcb, ihb⟩ := ihb
    have hn1 : (a ++ b ++ [m]).length = a.length + b.length + 1 := by simp only [List.length_append, List.length_singleton]
    refine ⟨cb + ca + 3, by omega, fun x y n K h1 h2 h3 => ?_⟩
    have hr : rd_T62 (x ++ (a ++ b ++ [m]) ++ y) ((x.length + (a ++ b ++ [m]).length : Nat) - 1 : Int) = m := rdm_mid (x ++ a ++ b) y _ m (by simp) _ (by rw [hn1, List.length_append, List.length_append]; omega)
    have hl : (x ++ (a ++ b ++ [m]) ++ y).length = x.length + (a.length + b.length + 1) + y.length := by simp only [List.length_append, List.length_singleton]
    have e1 : (m.f0 == 1) = false := by rw [beq_eq_false_iff_ne]; omega
    have hxa : (x ++ a).length = x.length + a.length := List.length_append ..
    have tb := ihb (x ++ a) ([m] ++ y) (n + 1) (K + ca) (by omega) (by omega) (by omega)
    have ta := iha x (b ++ ([m] ++ y)) n K h1 (by omega) (by omega)
    have el : x ++ a ++ b ++ ([m] ++ y) = x ++ (a ++ b ++ [m]) ++ y := by simp
    have el2 : x ++ a ++ (b ++ ([m] ++ y)) = x ++ (a ++ b ++ [m]) ++ y := by simp
    rw [el, if_neg (by omega)] at tb
    rw [el2] at ta
    have fin : impl_lastPart.j2 (K + ca + cb + 1) (x ++ (a ++ b ++ [m]) ++ y) n ((x.length + (a ++ b ++ [m]).length : Nat) - 1 : Int) true = if n = 1 then some (x.length : Int) else impl_lastPart.l0 K (x ++ (a ++ b ++ [m]) ++ y) (n - 1) ((x.length : Int) - 1) := by
      rw [impl_lastPart.j2, if_pos rfl, w64 (x := n + 1) (by omega) (by omega), if_neg (by omega), w64 (by omega) (by omega), ← ta, show ((x.length + (a ++ b ++ [m]).length : Nat) - 1 - 1 : Int) = (((x ++ a).length + b.length : Nat) - 1 : Int) by omega, tb]
      congr 1 <;> omega
    rw [show K + (cb + ca + 3) = (K + ca + cb + 2) + 1 by omega, impl_lastPart.l0, if_pos (by omega), if_pos (by omega), hr, if_neg (by omega), e1, impl_lastPart.j1, if_neg (by decide)]
    by_cases c3 : m.f0 = 3
    · have : (m.f0 == 3) = true := by rw [beq_iff_eq]; exact c3
      rw [if_pos c3, this]; exact fin
    · by_cases c4 : m.f0 = 4
      · have : (m.f0 == 4) = true := by rw [beq_iff_eq]; exact c4
        rw [if_neg c3, if_pos c4, this]; exact fin
      · have : (m.f0 == 5) = true := by rw [beq_iff_eq]; omega
        rw [if_neg c3, if_neg c4, this]; exact fin
theorem ilast {p : Int} (a b : List S62) (hb : Tm p b) (hl : a.length + b.length ≤ 900) (k : Nat) (hk : 3 * b.length < k) : impl_lastPart.f k (a ++ b) = some (a.length : Int) := by
  obtain ⟨c, hc, h⟩ := lpart b hb
  have := h a [] 1 (k - c) (by omega) (by omega) (by omega)
  rw [if_pos rfl, List.append_nil, show k - c + c = k by omega] at this
  unfold impl_lastPart.f
  have hn : (a ++ b).length = a.length + b.length := List.length_append ..
  rw [w64 (by omega) (by omega), hn]
  exact this
/-- In brackets, if the last mark is one of some kinds. -/
theorem iheld_loop (x : List S62) (m : S62) (s : ByteArray) (L : List Int) (hs : s.size ≤ 1000) (hx : x.length ≤ 1000) (hL : L.length ≤ 10) (d : Nat) : ∀ (i : Nat), i + d = L.length → ∀ k, d < k →
    impl_held.l0 k (x ++ [m]) s L (L.length : Int) (i : Int) = some (if m.f0 ∈ L.drop i then (⟨#[40]⟩ : ByteArray) ++ s ++ (⟨#[41]⟩ : ByteArray) else s) := by
  have hn : (x ++ [m]).length = x.length + 1 := by simp
  have hr : rd_T62 (x ++ [m]) (wrap64 (((x ++ [m]).length : Int) - 1)) = m := by
    rw [w64 (by omega) (by omega), show (((x ++ [m]).length : Int) - 1) = (x.length : Int) by omega]; exact lastm x m
  have hw : wrap64 (((x ++ [m]).length : Int) - 1) = (x.length : Int) := by rw [w64 (by omega) (by omega)]; omega
  induction d with
  | zero =>
    intro i hi k hk
    obtain ⟨k, rfl⟩ : ∃ m, k = m + 1 := ⟨k - 1, by omega⟩
    rw [impl_held.l0, if_neg (by omega), List.drop_of_length_le (by omega)]; simp
  | succ d ih =>
    intro i hi k hk
    obtain ⟨k, rfl⟩ : ∃ m, k = m + 1 := ⟨k - 1, by omega⟩
    have e1 : (⟨#[40]⟩ : ByteArray).size = 1 := rfl
    have hw2 : wrap64 ((i : Int) + 1) = ((i + 1 : Nat) : Int) := by rw [w64 (by omega) (by omega)]; omega
    rw [impl_held.l0, if_pos (by omega), if_pos (by omega), if_pos (by omega), hr, hw, if_pos (by omega), if_pos (by omega), rdh2 L i (by omega), List.drop_eq_getElem_cons (by omega)]
    by_cases h : m.f0 = L[i]'(by omega)
    · rw [if_pos h, if_pos (by omega), if_pos (by rw [ByteArray.size_append]; omega), if_pos (by rw [h]; exact List.mem_cons_self)]
    · rw [if_neg h, hw2, ih (i + 1) (by omega) k (by omega)]
      have e : (m.f0 ∈ L[i]'(by omega) :: L.drop (i + 1)) ↔ m.f0 ∈ L.drop (i + 1) := by
        rw [List.mem_cons]; exact ⟨fun h' => h'.elim (fun e => absurd e h) id, Or.inr⟩
      by_cases c : m.f0 ∈ L.drop (i + 1)
      · rw [if_pos c, if_pos (e.2 c)]
      · rw [if_neg c, if_neg (fun h' => c (e.1 h'))]
theorem iheld {p : Int} (t : List S62) (ht : Tm p t) (hl : t.length ≤ 100) (L : List Int) (hL : L.length ≤ 3) (j : Int) (hj : ∀ q, 0 ≤ q → q ≤ 5 → (q ∈ L ↔ mn (5 - q) 3 < j)) (k : Nat) (hk : 4 ≤ k) (h : impl_textOf.f k t = some (tx t).1) : impl_held.f (k + 1) t L = some (sw j (tx t).2 (tx t).1) := by
  obtain ⟨x, m, e, ek, h0, h5⟩ := tx_kind t ht
  have hs := tx_size t ht
  have hn : t.length = x.length + 1 := by rw [e]; simp
  rw [impl_held.f, h, Option.bind_some]
  have := iheld_loop x m (tx t).1 L (by omega) (by omega) (by omega) L.length 0 (by omega) k (by omega)
  rw [← e] at this
  rw [show (0 : Int) = ((0 : Nat) : Int) from rfl, this, List.drop_zero]
  unfold sw
  rw [ek]
  by_cases c : m.f0 ∈ L
  · rw [if_pos c, if_pos ((hj _ h0 h5).1 c)]
  · rw [if_neg c, if_neg (fun hh => c ((hj _ h0 h5).2 hh))]
theorem k345 : ∀ q : Int, 0 ≤ q → q ≤ 5 → (q ∈ [(3 : Int), 4, 5] ↔ mn (5 - q) 3 < 3) := by
  intro q h0 h5
  simp only [List.mem_cons, List.not_mem_nil, or_false]
  unfold mn
  split <;> omega
theorem k45 : ∀ q : Int, 0 ≤ q → q ≤ 5 → (q ∈ [(4 : Int), 5] ↔ mn (5 - q) 3 < 2) := by
  intro q h0 h5
  simp only [List.mem_cons, List.not_mem_nil, or_false]
  unfold mn
  split <;> omega
theorem k5 : ∀ q : Int, 0 ≤ q → q ≤ 5 → (q ∈ [(5 : Int)] ↔ mn (5 - q) 3 < 1) := by
  intro q h0 h5
  simp only [List.mem_cons, List.not_mem_nil, or_false]
  unfold mn
  split <;> omega
theorem itext {p : Int} (hp : p ≤ 4) : ∀ t : List S62, Tm p t → t.length ≤ 100 → ∀ k, 6 * t.length + 10 < k → impl_textOf.f k t = some (tx t).1 := by
  apply Tm_ind
  · intro m hm hl k hk
    obtain ⟨k, rfl⟩ : ∃ m, k = m + 1 := ⟨k - 1, by omega⟩
    have hn : ([m].length : Int) = 1 := rfl
    have hr : rd_T62 [m] 0 = m := rfl
    rw [impl_textOf.f, hn, w64 (by omega) (by omega), show (1 : Int) - 1 = 0 from rfl, if_pos (by omega), if_pos (by omega), hr]
    rcases hm with ⟨e, h0, h1⟩ | ⟨e, h0, h1⟩
    · rw [if_pos e, tx_tells m e, w64 (by omega) (by omega), show (97 + m.f1) % 256 = 97 + m.f1 by omega]
    · rw [if_neg (by omega), if_pos e, tx_count m e, w64 (by omega) (by omega), show (48 + m.f1) % 256 = 48 + m.f1 by omega]
  · intro a m ha e e0 ih hl k hk
    have hn1 : (a ++ [m]).length = a.length + 1 := by simp
    obtain ⟨k, rfl⟩ : ∃ m, k = m + 1 + 1 := ⟨k - 2, by omega⟩
    have hw : wrap64 (((a ++ [m]).length : Int) - 1) = (a.length : Int) := by rw [w64 (by omega) (by omega)]; omega
    have hs := tx_size a ha
    have hs2 := sw_size 3 (tx a).2 (tx a).1
    rw [impl_textOf.f, hw, if_pos (by omega), if_pos (by omega), lastm a m, if_neg (by omega), if_neg (by omega), if_pos e, if_pos (by omega), Int.toNat_natCast, List.take_left, iheld a ha (by omega) [3, 4, 5] (by simp) 3 k345 k (by omega) (ih (by omega) k (by omega)), Option.bind_some, if_pos (by omega), tx_not a m ha e]
  · intro a b m ha hb e3 e5 e0 iha ihb hl k hk
    have hn1 : (a ++ b ++ [m]).length = a.length + b.length + 1 := by simp only [List.length_append, List.length_singleton]
    have hab : (a ++ b).length = a.length + b.length := List.length_append ..
    obtain ⟨k, rfl⟩ : ∃ m, k = m + 1 + 1 := ⟨k - 2, by omega⟩
    have hw : wrap64 (((a ++ b ++ [m]).length : Int) - 1) = ((a ++ b).length : Int) := by rw [w64 (by omega) (by omega)]; omega
    have tk : (a ++ b ++ [m]).take (a ++ b).length = a ++ b := List.take_left
    have tk2 : (a ++ b ++ [m]).take a.length = a := by rw [List.append_assoc]; exact List.take_left
    have dr : (a ++ b).drop a.length = b := List.drop_left
    have na := Tm_ne ha
    have nb := Tm_ne hb
    have sa := tx_size a ha
    have sb := tx_size b hb
    have hA := iha (by omega) k (by omega)
    have hA1 := iha (by omega) (k + 1) (by omega)
    have hB := ihb (by omega) k (by omega)
    have z1 := sw_size (5 - m.f0) (tx a).2 (tx a).1
    have z2 := sw_size (5 - m.f0 + 1) (tx b).2 (tx b).1
    have q1 : (⟨#[38]⟩ : ByteArray).size = 1 := rfl
    have q2 : (⟨#[124]⟩ : ByteArray).size = 1 := rfl
    have q3 : (⟨#[61]⟩ : ByteArray).size = 1 := rfl
    rw [impl_textOf.f, hw, if_pos (by omega), if_pos (by omega), lastm (a ++ b) m, if_neg (by omega), if_neg (by omega), if_neg (by omega), if_pos (by omega)]
    simp only [Int.toNat_natCast]
    rw [tk, ilast a b hb (by omega) (k + 1) (by omega)]
    simp only [Option.bind_some, Int.toNat_natCast]
    rw [if_pos (by omega), if_pos (by omega), if_pos (by omega), tk2, dr, tx_bin a b m ha hb e3]
    by_cases c3 : m.f0 = 3
    · have s2 : (5 : Int) - m.f0 = 2 := by omega
      rw [s2] at z1 z2 ⊢
      rw [show (2 : Int) + 1 = 3 from rfl] at z2 ⊢
      rw [if_pos c3, iheld a ha (by omega) [4, 5] (by simp) 2 k45 k (by omega) hA, Option.bind_some, if_pos (by omega), iheld b hb (by omega) [3, 4, 5] (by simp) 3 k345 k (by omega) hB, Option.bind_some, if_pos (by rw [ByteArray.size_append]; omega)]
      congr 2
      unfold sg; rw [if_pos c3]
    · by_cases c4 : m.f0 = 4
      · have s2 : (5 : Int) - m.f0 = 1 := by omega
        rw [s2] at z1 z2 ⊢
        rw [show (1 : Int) + 1 = 2 from rfl] at z2 ⊢
        rw [if_neg c3, if_pos c4, iheld a ha (by omega) [5] (by simp) 1 k5 k (by omega) hA, Option.bind_some, if_pos (by omega), iheld b hb (by omega) [4, 5] (by simp) 2 k45 k (by omega) hB, Option.bind_some, if_pos (by rw [ByteArray.size_append]; omega)]
        congr 2
        unfold sg; rw [if_neg c3, if_pos c4]
      · have s2 : (5 : Int) - m.f0 = 0 := by omega
        rw [s2] at z1 z2 ⊢
        rw [show (0 : Int) + 1 = 1 from rfl] at z2 ⊢
        rw [sw0 a ha, if_neg c3, if_neg c4, hA1, Option.bind_some, if_pos (by omega), iheld b hb (by omega) [5] (by simp) 1 k5 k (by omega) hB, Option.bind_some, if_pos (by rw [ByteArray.size_append]; omega)]
        congr 2
        unfold sg; rw [if_neg c3, if_neg c4]
theorem itermtext (p : Int) (t : List S62) (k : Nat) (hk : 110 < k) : impl_TermText.f k p t = some (txT p t) := by
  unfold impl_TermText.f txT
  rw [itermok p t k (by omega), Option.bind_some]
  by_cases hT : TermB p t
  · have h15 := hT.2.2.1
    rw [if_pos (by simpa using hT), if_pos hT, itext hT.2.1 t hT.2.2.2 (by omega) k (by omega)]; rfl
  · rw [if_neg (by simpa using hT), if_neg hT]

/-- The term whose text it is. -/
noncomputable def readR (p : Int) (s : ByteArray) : List S62 × Bool := open Classical in if h : ∃ t : List S62, TermB p t ∧ (tx t).1 = s ∧ s.size ≤ 60 then (Classical.choose h, true) else ([], false)
theorem readR_yes {p : Int} {s : ByteArray} (h : ∃ t : List S62, TermB p t ∧ (tx t).1 = s ∧ s.size ≤ 60) : ∃ t : List S62, TermB p t ∧ (tx t).1 = s ∧ s.size ≤ 60 ∧ readR p s = (t, true) := by
  refine ⟨Classical.choose h, (Classical.choose_spec h).1, (Classical.choose_spec h).2.1, (Classical.choose_spec h).2.2, ?_⟩
  unfold readR
  rw [dif_pos h]
theorem readR_no {p : Int} {s : ByteArray} (h : ¬ ∃ t : List S62, TermB p t ∧ (tx t).1 = s ∧ s.size ≤ 60) : readR p s = ([], false) := by
  unfold readR
  rw [dif_neg h]
theorem readR_len (p : Int) (s : ByteArray) : (readR p s).1.length ≤ 15 := by
  by_cases h : ∃ t : List S62, TermB p t ∧ (tx t).1 = s ∧ s.size ≤ 60
  · obtain ⟨t, ht, _, _, e⟩ := readR_yes h
    rw [e]; exact ht.2.2.1
  · rw [readR_no h]; simp
theorem tx_pos {p : Int} : ∀ t : List S62, Tm p t → 0 < (tx t).1.size := by
  apply Tm_ind
  · intro m hm
    rcases hm with ⟨e, _⟩ | ⟨e, _⟩
    · rw [tx_tells m e]; show 0 < (strOfNums [97 + m.f1]).size; rw [one_size]; omega
    · rw [tx_count m e]; show 0 < (strOfNums [48 + m.f1]).size; rw [one_size]; omega
  · intro a m ha e e0 _
    rw [tx_not a m ha e]
    show 0 < ((⟨#[33]⟩ : ByteArray) ++ sw 3 (tx a).2 (tx a).1).size
    have e1 : (⟨#[33]⟩ : ByteArray).size = 1 := rfl
    rw [ByteArray.size_append]; omega
  · intro a b m ha hb e3 e5 e0 _ _
    rw [tx_bin a b m ha hb e3]
    show 0 < (sw (5 - m.f0) (tx a).2 (tx a).1 ++ sg m.f0 ++ sw (5 - m.f0 + 1) (tx b).2 (tx b).1).size
    have h3 := sg_size m.f0
    rw [ByteArray.size_append, ByteArray.size_append]; omega

theorem rowL_no (part : Nat → ByteArray → Option RdT) (k : Nat) (r : ByteArray) (sign : ByteArray) (x2 : Int) (acc : List S62) : rowL part (k + 1) r sign x2 acc false = some ([], r, false) := by
  rw [rowL, if_neg (by decide)]
theorem same_nil (s : ByteArray) (h : s.size = 0) (k : Nat) : impl_readSame.f (k + 1 + 1 + 1 + 1 + 1 + 1 + 1 + 1) s = some ([], s, false) := by
  have h1 : impl_readPart.f (k + 1 + 1) s = some (([] : List S62), s, false) := by rw [impl_readPart.f, if_pos ((toL_nil s).2 h)]
  have h2 : impl_readAnd.f (k + 1 + 1 + 1 + 1) s = some (([] : List S62), s, false) := by rw [and_f, rowF, h1]; exact rowL_no _ _ _ _ _ _
  have h3 : impl_readOr.f (k + 1 + 1 + 1 + 1 + 1 + 1) s = some (([] : List S62), s, false) := by rw [or_f, rowF, h2]; exact rowL_no _ _ _ _ _ _
  rw [same_f, rowF, h3]; exact rowL_no _ _ _ _ _ _
theorem ireadt (p : Int) (s : ByteArray) (k : Nat) (hk : 900 < k) : impl_ReadTerm.f k p s = some (readR p s) := by
  obtain ⟨k, rfl⟩ : ∃ m, k = m + 1 := ⟨k - 1, by omega⟩
  unfold impl_ReadTerm.f
  rw [people_eq, Option.bind_some]
  have bad : ¬ (∃ t : List S62, TermB p t ∧ (tx t).1 = s ∧ s.size ≤ 60) → impl_ReadTerm.j0 (k + 1) p s true = some (readR p s) := fun h => by
    rw [impl_ReadTerm.j0, if_pos rfl, readR_no h]
  by_cases hp : 1 ≤ p ∧ p ≤ 4
  · rw [if_pos (by simpa using hp)]
    by_cases hs : (s.size : Int) > 60
    · rw [decide_eq_true hs]
      exact bad (fun ⟨t, _, _, h⟩ => by omega)
    · obtain ⟨v, hv, hrun⟩ := same_tot s (by omega)
      rw [decide_eq_false hs, impl_ReadTerm.j0, if_neg (by decide), hrun k (by omega)]
      simp only [Option.bind_some]
      by_cases h : ∃ t : List S62, TermB p t ∧ (tx t).1 = s ∧ s.size ≤ 60
      · obtain ⟨t, hT, et, _, er⟩ := readR_yes h
        obtain ⟨r, hr, k1, h1⟩ := same_comp hp t hT.2.2.2 (by have := hT.2.2.1; omega)
        have ev : v = (t, r, true) := by
          have g1 := h1 (k1 + 10 * s.size + 10) (by omega)
          rw [et, hrun _ (by omega)] at g1
          exact Option.some.inj g1
        have etx : txT p t = s := by unfold txT; rw [if_pos hT, et]
        rw [ev, if_pos rfl, if_pos ((toL_nil r).2 hr), itermtext p t k (by omega), Option.bind_some, etx, if_pos rfl, er]
      · rw [readR_no h]
        by_cases c1 : v.2.2 = true
        · rw [if_pos c1]
          by_cases c2 : v.2.1.toList = ([] : List UInt8)
          · rw [if_pos c2, itermtext p v.1 k (by omega), Option.bind_some]
            by_cases c3 : (txT p v.1).toList = s.toList
            · have c3' := (toL_eq _ _).1 c3
              by_cases hT : TermB p v.1
              · exact absurd ⟨v.1, hT, by unfold txT at c3'; rw [if_pos hT] at c3'; exact c3', by omega⟩ h
              · unfold txT at c3'
                rw [if_neg hT] at c3'
                have h0 : s.size = 0 := by rw [← c3']; rfl
                have g := hrun (10 * s.size + 10 + 8) (by omega)
                rw [same_nil s h0] at g
                rw [← Option.some.inj g] at c1
                cases c1
            · rw [if_neg c3]
          · rw [if_neg c2]
        · rw [if_neg c1]
  · rw [if_neg (by simpa using hp)]
    exact bad (fun ⟨t, h, _⟩ => hp ⟨h.1, h.2.1⟩)

/-! ### the reference's readers end -/
abbrev SdT := List S62 × Int
def okM (l : List S62) : Prop := ∀ m ∈ l, MarkW m
theorem okM_nil : okM ([] : List S62) := fun m h => by cases h
theorem okM_app {a b : List S62} (ha : okM a) (hb : okM b) : okM (a ++ b) := fun m h => by
  rcases List.mem_append.1 h with h | h
  · exact ha m h
  · exact hb m h
theorem okM_one {a b : Int} (h0 : 0 ≤ a ∧ a ≤ 1000) (h1 : 0 ≤ b ∧ b ≤ 1000) : okM [(⟨a, b⟩ : S62)] := fun m h => by
  rw [List.mem_singleton.1 h]
  show -9223372036854775808 ≤ a ∧ a ≤ 9223372036854775807 ∧ -9223372036854775808 ≤ b ∧ b ≤ 9223372036854775807
  omega
def InvS (s : ByteArray) (at_ : Int) (v : SdT) : Prop := okM v.1 ∧ ((v.2 = -1 ∧ (v.1.length : Int) ≤ s.size - at_) ∨ (at_ < v.2 ∧ v.2 ≤ s.size ∧ (v.1.length : Int) ≤ v.2 - at_))
def TotA (n : Nat) : Prop := ∀ (s : ByteArray) (at_ : Int), s.size ≤ 1000000 → 0 ≤ at_ → at_ ≤ s.size → (s.size : Int) - at_ ≤ n → ∃ v : SdT, InvS s at_ v ∧ ∀ k, 10 * n + 5 ≤ k → spec_l2Atom.f k s at_ = some v
def TotL (x2 : Int) (c n : Nat) : Prop := ∀ (s : ByteArray) (at_ : Int), s.size ≤ 1000000 → 0 ≤ at_ → at_ ≤ s.size → (s.size : Int) - at_ ≤ n → ∃ v : SdT, InvS s at_ v ∧ ∀ k, 10 * n + c ≤ k → spec_l2Level.f k s at_ x2 = some v
theorem lv2_tot (n : Nat) (h : TotA n) : TotL 2 6 n := fun s at_ h1 h2 h3 h4 => by
  obtain ⟨v, g1, g2⟩ := h s at_ h1 h2 h3 h4
  refine ⟨v, g1, fun k hk => ?_⟩
  obtain ⟨k, rfl⟩ : ∃ m, k = m + 1 := ⟨k - 1, by omega⟩
  rw [spec_l2Level.f, if_pos rfl, g2 k (by omega)]; rfl
theorem lv_loop (x2 x8 : Int) (hx : 3 ≤ x2 ∧ x2 ≤ 5) (c N : Nat) (hc : c ≤ 10) (hp : ∀ m, m ≤ N → TotL (x2 - 1) c m) (s : ByteArray) (hs : s.size ≤ 1000000) (a0 : Int) (h0 : 0 ≤ a0) : ∀ m, m ≤ N → ∀ (nx : Int) (acc : List S62), okM acc → a0 < nx → nx ≤ s.size → (acc.length : Int) ≤ nx - a0 → (s.size : Int) - nx ≤ m → ∃ v : SdT, InvS s a0 v ∧ ∀ k, 10 * m + 1 ≤ k → spec_l2Level.l0 k s x2 x8 acc nx = some v := by
  intro m
  induction m with
  | zero =>
    intro _ nx acc hm h1 h2 h3 h4
    refine ⟨(acc, nx), ⟨hm, .inr ⟨h1, h2, h3⟩⟩, fun k hk => ?_⟩
    obtain ⟨k, rfl⟩ : ∃ m, k = m + 1 := ⟨k - 1, by omega⟩
    rw [spec_l2Level.l0, if_pos (by omega), if_neg (by omega)]
  | succ m ih =>
    intro hmN nx acc hm h1 h2 h3 h4
    by_cases c1 : nx < (s.size : Int)
    · by_cases c2 : bt s nx = x8
      · obtain ⟨w, ⟨w0, w1⟩, w2⟩ := hp m (by omega) s (nx + 1) hs (by omega) (by omega) (by omega)
        have hl : (acc ++ w.1 ++ [(⟨x2, 0⟩ : S62)]).length = acc.length + w.1.length + 1 := by simp only [List.length_append, List.length_singleton]
        have hl2 : (acc ++ w.1).length = acc.length + w.1.length := List.length_append ..
        have hok : okM (acc ++ w.1 ++ [(⟨x2, 0⟩ : S62)]) := okM_app (okM_app hm w0) (okM_one (by omega) (by omega))
        have run : ∀ k, 10 * m + c ≤ k → spec_l2Level.l0 (k + 1) s x2 x8 acc nx = spec_l2Level.l0 k s x2 x8 (acc ++ w.1 ++ [(⟨x2, 0⟩ : S62)]) w.2 := by
          intro k hk
          rw [spec_l2Level.l0, if_pos (by omega), if_pos c1, if_pos (by omega), if_pos c2, w64 (x := nx + 1) (by omega) (by omega), w64 (x := x2 - 1) (by omega) (by omega), w2 k hk]
          simp only [Option.bind_some, List.nil_append, List.length_nil, Nat.zero_add]
          rcases w1 with ⟨w1, w3⟩ | ⟨w1, w3, w4⟩ <;> rw [if_pos (by omega), if_pos (by omega), if_pos (by omega)]
        rcases w1 with ⟨w1, w3⟩ | ⟨w1, w3, w4⟩
        · refine ⟨(acc ++ w.1 ++ [(⟨x2, 0⟩ : S62)], -1), ⟨hok, .inl ⟨rfl, by show ((acc ++ w.1 ++ [(⟨x2, 0⟩ : S62)]).length : Int) ≤ _; omega⟩⟩, fun k hk => ?_⟩
          obtain ⟨k, rfl⟩ : ∃ m, k = m + 1 + 1 := ⟨k - 2, by omega⟩
          rw [run (k + 1) (by omega), w1, spec_l2Level.l0, if_neg (by omega)]
        · obtain ⟨v, g1, g2⟩ := ih (by omega) w.2 (acc ++ w.1 ++ [(⟨x2, 0⟩ : S62)]) hok (by omega) w3 (by omega) (by omega)
          refine ⟨v, g1, fun k hk => ?_⟩
          obtain ⟨k, rfl⟩ : ∃ m, k = m + 1 := ⟨k - 1, by omega⟩
          rw [run k (by omega)]
          exact g2 k (by omega)
      · refine ⟨(acc, nx), ⟨hm, .inr ⟨h1, h2, h3⟩⟩, fun k hk => ?_⟩
        obtain ⟨k, rfl⟩ : ∃ m, k = m + 1 := ⟨k - 1, by omega⟩
        rw [spec_l2Level.l0, if_pos (by omega), if_pos c1, if_pos (by omega), if_neg c2]
    · refine ⟨(acc, nx), ⟨hm, .inr ⟨h1, h2, h3⟩⟩, fun k hk => ?_⟩
      obtain ⟨k, rfl⟩ : ∃ m, k = m + 1 := ⟨k - 1, by omega⟩
      rw [spec_l2Level.l0, if_pos (by omega), if_neg c1]
theorem lv_tot (x2 : Int) (hx : 3 ≤ x2 ∧ x2 ≤ 5) (c N : Nat) (hc : 1 ≤ c ∧ c ≤ 9) (hp : ∀ m, m ≤ N → TotL (x2 - 1) c m) : ∀ m, m ≤ N → TotL x2 (c + 1) m := by
  intro m hm s at_ h1 h2 h3 h4
  obtain ⟨v, ⟨v0, v1⟩, g2⟩ := hp m hm s at_ h1 h2 h3 h4
  have run : ∀ k, 10 * m + c ≤ k → spec_l2Level.f (k + 1) s at_ x2 = spec_l2Level.l0 k s x2 (bt (⟨#[38, 124, 61]⟩ : ByteArray) (x2 - 3)) v.1 v.2 := by
    intro k hk
    rw [spec_l2Level.f, if_neg (by omega), w64 (x := x2 - 3) (by omega) (by omega), if_pos (by omega), if_pos (by omega), w64 (x := x2 - 1) (by omega) (by omega), g2 k hk]; rfl
  rcases v1 with ⟨w1, w3⟩ | ⟨w1, w3, w4⟩
  · refine ⟨v, ⟨v0, .inl ⟨w1, w3⟩⟩, fun k hk => ?_⟩
    obtain ⟨k, rfl⟩ : ∃ m, k = m + 1 + 1 := ⟨k - 2, by omega⟩
    rw [run (k + 1) (by omega), spec_l2Level.l0, if_neg (by omega)]
  · obtain ⟨z, z1, z2⟩ := lv_loop x2 (bt (⟨#[38, 124, 61]⟩ : ByteArray) (x2 - 3)) hx c N (by omega) hp s h1 at_ h2 m hm v.2 v.1 v0 w1 w3 w4 (by omega)
    refine ⟨z, z1, fun k hk => ?_⟩
    obtain ⟨k, rfl⟩ : ∃ m, k = m + 1 := ⟨k - 1, by omega⟩
    rw [run k (by omega)]
    exact z2 k (by omega)
theorem lv5_tot (N : Nat) (h : ∀ m, m ≤ N → TotA m) : ∀ m, m ≤ N → TotL 5 9 m :=
  lv_tot 5 (by omega) 8 N (by omega) (lv_tot 4 (by omega) 7 N (by omega) (lv_tot 3 (by omega) 6 N (by omega) (fun m hm => lv2_tot m (h m hm))))
theorem atom_tot : ∀ m, TotA m := by
  intro m
  induction m using Nat.strongRecOn with
  | _ m ih =>
    intro s at_ h1 h2 h3 h4
    have hb := bt_range s at_
    by_cases hend : at_ ≥ (s.size : Int)
    · refine ⟨([], -1), ⟨okM_nil, .inl ⟨rfl, by show (0 : Int) ≤ _; omega⟩⟩, fun k hk => ?_⟩
      obtain ⟨k, rfl⟩ : ∃ m, k = m + 1 + 1 := ⟨k - 2, by omega⟩
      rw [spec_l2Atom.f, if_neg (by omega), decide_eq_true hend, spec_l2Atom.j0, if_pos rfl]
    · have start : ∀ k, spec_l2Atom.f (k + 1 + 1) s at_ = if bt s at_ ≥ 97 then spec_l2Atom.j1 k s at_ (decide (bt s at_ ≤ 100)) else spec_l2Atom.j1 k s at_ false := by
        intro k
        rw [spec_l2Atom.f, if_neg (by omega), decide_eq_false hend, spec_l2Atom.j0, if_neg (by decide), if_pos h2, if_pos (by omega)]
      have j1f : ∀ k, spec_l2Atom.j1 (k + 1) s at_ false = if bt s at_ ≥ 48 then spec_l2Atom.j2 k s at_ (decide (bt s at_ ≤ 53)) else spec_l2Atom.j2 k s at_ false := by
        intro k
        rw [spec_l2Atom.j1, if_neg (by decide), if_pos h2, if_pos (by omega)]
      have bad : InvS s at_ ([], -1) := ⟨okM_nil, .inl ⟨rfl, by show (0 : Int) ≤ _; omega⟩⟩
      have rest : ∃ v : SdT, InvS s at_ v ∧ ∀ k, 10 * m + 2 ≤ k → spec_l2Atom.j2 k s at_ false = some v := by
        by_cases c33 : bt s at_ = 33
        · obtain ⟨v, ⟨v0, v1⟩, g⟩ := ih (m - 1) (by omega) s (at_ + 1) h1 (by omega) (by omega) (by omega)
          have hl : (v.1 ++ [(⟨2, 0⟩ : S62)]).length = v.1.length + 1 := by simp
          refine ⟨(v.1 ++ [(⟨2, 0⟩ : S62)], v.2), ⟨okM_app v0 (okM_one (by omega) (by omega)), ?_⟩, fun k hk => ?_⟩
          · show (v.2 = -1 ∧ ((v.1 ++ [(⟨2, 0⟩ : S62)]).length : Int) ≤ _) ∨ (at_ < v.2 ∧ v.2 ≤ _ ∧ ((v.1 ++ [(⟨2, 0⟩ : S62)]).length : Int) ≤ v.2 - at_)
            rcases v1 with ⟨w1, w3⟩ | ⟨w1, w3, w4⟩
            · exact .inl ⟨w1, by omega⟩
            · exact .inr ⟨by omega, w3, by omega⟩
          · obtain ⟨k, rfl⟩ : ∃ m, k = m + 1 := ⟨k - 1, by omega⟩
            rw [spec_l2Atom.j2, if_neg (by decide), if_pos h2, if_pos (by omega), if_pos c33, w64 (x := at_ + 1) (by omega) (by omega), g k (by omega)]
            simp only [Option.bind_some, List.nil_append, List.length_nil, Nat.zero_add]
            rcases v1 with ⟨w1, w3⟩ | ⟨w1, w3, w4⟩ <;> rw [if_pos (by omega), if_pos (by omega)]
        · by_cases c40 : bt s at_ = 40
          · obtain ⟨v, ⟨v0, v1⟩, g⟩ := lv5_tot (m - 1) (fun q hq => ih q (by omega)) (m - 1) (Nat.le_refl _) s (at_ + 1) h1 (by omega) (by omega) (by omega)
            have run : ∀ k, 10 * m + 1 ≤ k → spec_l2Atom.j2 (k + 1) s at_ false = (if v.2 < 0 then (some ((([] : List (S62))), (-1))) else (if v.2 ≥ (s.size : Int) then (some ((([] : List (S62))), (-1))) else (if 0 ≤ v.2 then (if v.2 < (s.size : Int) then (if (bt s v.2) = 41 then (some (v.1, wrap64 (v.2 + 1))) else (some ((([] : List (S62))), (-1)))) else (none)) else (none)))) := by
              intro k hk
              rw [spec_l2Atom.j2, if_neg (by decide), if_pos h2, if_pos (by omega), if_neg c33, if_pos c40, w64 (x := at_ + 1) (by omega) (by omega), g k (by omega), Option.bind_some]
            by_cases d1 : v.2 < 0
            · refine ⟨([], -1), bad, fun k hk => ?_⟩
              obtain ⟨k, rfl⟩ : ∃ m, k = m + 1 := ⟨k - 1, by omega⟩
              rw [run k (by omega), if_pos d1]
            · by_cases d2 : v.2 ≥ (s.size : Int)
              · refine ⟨([], -1), bad, fun k hk => ?_⟩
                obtain ⟨k, rfl⟩ : ∃ m, k = m + 1 := ⟨k - 1, by omega⟩
                rw [run k (by omega), if_neg d1, if_pos d2]
              · by_cases d3 : bt s v.2 = 41
                · refine ⟨(v.1, v.2 + 1), ⟨v0, .inr ?_⟩, fun k hk => ?_⟩
                  · show at_ < v.2 + 1 ∧ v.2 + 1 ≤ _ ∧ (v.1.length : Int) ≤ v.2 + 1 - at_
                    rcases v1 with ⟨w1, w3⟩ | ⟨w1, w3, w4⟩
                    · omega
                    · exact ⟨by omega, by omega, by omega⟩
                  · obtain ⟨k, rfl⟩ : ∃ m, k = m + 1 := ⟨k - 1, by omega⟩
                    rw [run k (by omega), if_neg d1, if_neg d2, if_pos (by omega), if_pos (by omega), if_pos d3, w64 (by omega) (by omega)]
                · refine ⟨([], -1), bad, fun k hk => ?_⟩
                  obtain ⟨k, rfl⟩ : ∃ m, k = m + 1 := ⟨k - 1, by omega⟩
                  rw [run k (by omega), if_neg d1, if_neg d2, if_pos (by omega), if_pos (by omega), if_neg d3]
          · refine ⟨([], -1), bad, fun k hk => ?_⟩
            obtain ⟨k, rfl⟩ : ∃ m, k = m + 1 := ⟨k - 1, by omega⟩
            rw [spec_l2Atom.j2, if_neg (by decide), if_pos h2, if_pos (by omega), if_neg c33, if_neg c40]
      have good : ∀ a b : Int, 0 ≤ a ∧ a ≤ 1000 → 0 ≤ b ∧ b ≤ 1000 → InvS s at_ ([(⟨a, b⟩ : S62)], at_ + 1) := fun a b ha hb => ⟨okM_one ha hb, .inr ⟨by show at_ < at_ + 1; omega, by show at_ + 1 ≤ _; omega, by show (1 : Int) ≤ at_ + 1 - at_; omega⟩⟩
      have rest2 : ∃ v : SdT, InvS s at_ v ∧ ∀ k, 10 * m + 3 ≤ k → spec_l2Atom.j1 k s at_ false = some v := by
        obtain ⟨v, g1, g2⟩ := rest
        by_cases d1 : bt s at_ ≥ 48
        · by_cases d2 : bt s at_ ≤ 53
          · refine ⟨([(⟨1, (bt s at_ - 48) % 256⟩ : S62)], at_ + 1), good _ _ (by omega) (by omega), fun k hk => ?_⟩
            obtain ⟨k, rfl⟩ : ∃ m, k = m + 1 + 1 := ⟨k - 2, by omega⟩
            rw [j1f, if_pos d1, decide_eq_true d2, spec_l2Atom.j2, if_pos rfl, if_pos h2, if_pos (by omega), w64 (by omega) (by omega)]
          · refine ⟨v, g1, fun k hk => ?_⟩
            obtain ⟨k, rfl⟩ : ∃ m, k = m + 1 := ⟨k - 1, by omega⟩
            rw [j1f, if_pos d1, decide_eq_false d2]
            exact g2 k (by omega)
        · refine ⟨v, g1, fun k hk => ?_⟩
          obtain ⟨k, rfl⟩ : ∃ m, k = m + 1 := ⟨k - 1, by omega⟩
          rw [j1f, if_neg d1]
          exact g2 k (by omega)
      obtain ⟨v, g1, g2⟩ := rest2
      by_cases d1 : bt s at_ ≥ 97
      · by_cases d2 : bt s at_ ≤ 100
        · refine ⟨([(⟨0, (bt s at_ - 97) % 256⟩ : S62)], at_ + 1), good _ _ (by omega) (by omega), fun k hk => ?_⟩
          obtain ⟨k, rfl⟩ : ∃ m, k = m + 1 + 1 + 1 := ⟨k - 3, by omega⟩
          rw [start, if_pos d1, decide_eq_true d2, spec_l2Atom.j1, if_pos rfl, if_pos h2, if_pos (by omega), w64 (by omega) (by omega)]
        · refine ⟨v, g1, fun k hk => ?_⟩
          obtain ⟨k, rfl⟩ : ∃ m, k = m + 1 + 1 := ⟨k - 2, by omega⟩
          rw [start, if_pos d1, decide_eq_false d2]
          exact g2 k (by omega)
      · refine ⟨v, g1, fun k hk => ?_⟩
        obtain ⟨k, rfl⟩ : ∃ m, k = m + 1 + 1 := ⟨k - 2, by omega⟩
        rw [start, if_neg d1]
        exact g2 k (by omega)
theorem lv5_end (s : ByteArray) (hs : s.size ≤ 1000000) : ∃ v : SdT, okM v.1 ∧ v.1.length ≤ s.size ∧ ∀ k, 10 * s.size + 9 ≤ k → spec_l2Level.f k s 0 5 = some v := by
  obtain ⟨v, ⟨v0, v1⟩, g⟩ := lv5_tot s.size (fun m _ => atom_tot m) s.size (Nat.le_refl _) s 0 hs (by omega) (by omega) (by omega)
  exact ⟨v, v0, by rcases v1 with ⟨w1, w3⟩ | ⟨w1, w3, w4⟩ <;> omega, g⟩

/-! ### the reference reads the text of a term to the term -/
def PA (s : ByteArray) (at_ : Int) (v : SdT) : Prop := ∃ k0, ∀ k, k0 ≤ k → spec_l2Atom.f k s at_ = some v
def PL (x2 : Int) (s : ByteArray) (at_ : Int) (v : SdT) : Prop := ∃ k0, ∀ k, k0 ≤ k → spec_l2Level.f k s at_ x2 = some v
def sgn (x2 : Int) : Int := bt (⟨#[38, 124, 61]⟩ : ByteArray) (x2 - 3)
def LL (x2 : Int) (s : ByteArray) (acc : List S62) (nx : Int) (v : SdT) : Prop := ∃ k0, ∀ k, k0 ≤ k → spec_l2Level.l0 k s x2 (sgn x2) acc nx = some v
theorem PL2 {s : ByteArray} {at_ : Int} {v : SdT} (h : PA s at_ v) : PL 2 s at_ v := by
  obtain ⟨k1, h1⟩ := h
  refine ⟨k1 + 1, fun k hk => ?_⟩
  obtain ⟨k, rfl⟩ : ∃ m, k = m + 1 := ⟨k - 1, by omega⟩
  rw [spec_l2Level.f, if_pos rfl, h1 k (by omega)]; rfl
theorem PL_of {x2 y : Int} (hx : 3 ≤ x2 ∧ x2 ≤ 5) (hy : y = x2 - 1) {s : ByteArray} {at_ nx : Int} {t : List S62} {v : SdT} (h : PL y s at_ (t, nx)) (hl : LL x2 s t nx v) : PL x2 s at_ v := by
  subst hy
  obtain ⟨k1, h1⟩ := h
  obtain ⟨k2, h2⟩ := hl
  refine ⟨k1 + k2 + 1, fun k hk => ?_⟩
  obtain ⟨k, rfl⟩ : ∃ m, k = m + 1 := ⟨k - 1, by omega⟩
  rw [spec_l2Level.f, if_neg (by omega), w64 (x := x2 - 3) (by omega) (by omega), if_pos (by omega), if_pos (by omega), w64 (x := x2 - 1) (by omega) (by omega), h1 k (by omega)]
  exact h2 k (by omega)
theorem LL_step {x2 y : Int} (hx : 3 ≤ x2 ∧ x2 ≤ 5) (hy : y = x2 - 1) {d : UInt8} (hd : sgn x2 = (d.toNat : Int)) {s u q : ByteArray} (hs : s.size ≤ 1000000) (e : s = u ++ (b1 d ++ q)) {nx nx' : Int} (hn : nx = (u.size : Int)) {a b : List S62} (hab : a.length + b.length ≤ 1000000) {v : SdT} (h : PL y s (nx + 1) (b, nx')) (hl : LL x2 s (a ++ b ++ [(⟨x2, 0⟩ : S62)]) nx' v) : LL x2 s a nx v := by
  subst hy
  obtain ⟨k1, h1⟩ := h
  obtain ⟨k2, h2⟩ := hl
  have hl2 : (a ++ b).length = a.length + b.length := List.length_append ..
  have hsz : s.size = u.size + (q.size + 1) := by rw [e, ByteArray.size_append, cons_size]
  have hb : bt s nx = (d.toNat : Int) := by rw [e]; exact bt_mid u q d nx hn
  refine ⟨k1 + k2 + 1, fun k hk => ?_⟩
  obtain ⟨k, rfl⟩ : ∃ m, k = m + 1 := ⟨k - 1, by omega⟩
  rw [spec_l2Level.l0, if_pos (by omega), if_pos (by omega), if_pos (by omega), if_pos (by rw [hb, hd]), w64 (x := nx + 1) (by omega) (by omega), w64 (x := x2 - 1) (by omega) (by omega), h1 k (by omega)]
  simp only [Option.bind_some, List.nil_append, List.length_nil, Nat.zero_add]
  rw [if_pos (by omega), if_pos (by omega), if_pos (by omega)]
  exact h2 k (by omega)
theorem LL_stop {x2 : Int} {d : UInt8} (hd : sgn x2 = (d.toNat : Int)) {s u r : ByteArray} (e : s = u ++ r) {nx : Int} (hn : nx = (u.size : Int)) (a : List S62) (h : NS r d) : LL x2 s a nx (a, nx) := by
  refine ⟨1, fun k hk => ?_⟩
  obtain ⟨k, rfl⟩ : ∃ m, k = m + 1 := ⟨k - 1, by omega⟩
  rw [spec_l2Level.l0, if_pos (by omega)]
  rcases ba_cons r with h0 | ⟨c, q, rfl⟩
  · have : s.size = u.size := by rw [e, ByteArray.size_append]; omega
    rw [if_neg (by omega)]
  · have hsz : s.size = u.size + (q.size + 1) := by rw [e, ByteArray.size_append, cons_size]
    have hb : bt s nx = (c.toNat : Int) := by rw [e]; exact bt_mid u q c nx hn
    have hne : ¬ bt s nx = sgn x2 := by
      rw [hb, hd]
      intro hh
      have : c = d := UInt8.toNat_inj.1 (by omega)
      exact h q (by rw [this])
    rw [if_pos (by omega), if_pos (by omega), if_neg hne]
theorem sg3 : sgn 3 = ((38 : UInt8).toNat : Int) := by decide
theorem sg4 : sgn 4 = ((124 : UInt8).toNat : Int) := by decide
theorem sg5 : sgn 5 = ((61 : UInt8).toNat : Int) := by decide
/-- The text of a part where it stands for more. -/
def wt' (j : Int) (t : List S62) : ByteArray := sw j (tx t).2 (tx t).1
def A3 (t : List S62) : Prop := ∀ (s u r : ByteArray) (at_ nx : Int), s.size ≤ 1000000 → s = u ++ (wt' 3 t ++ r) → at_ = (u.size : Int) → nx = at_ + (wt' 3 t).size → PA s at_ (t, nx)
def A2 (t : List S62) : Prop := ∀ (s u r : ByteArray) (at_ nx : Int), s.size ≤ 1000000 → NS r 38 → s = u ++ (wt' 2 t ++ r) → at_ = (u.size : Int) → nx = at_ + (wt' 2 t).size → PL 3 s at_ (t, nx)
def A1 (t : List S62) : Prop := ∀ (s u r : ByteArray) (at_ nx : Int), s.size ≤ 1000000 → NS r 38 → NS r 124 → s = u ++ (wt' 1 t ++ r) → at_ = (u.size : Int) → nx = at_ + (wt' 1 t).size → PL 4 s at_ (t, nx)
def A0 (t : List S62) : Prop := ∀ (s u r : ByteArray) (at_ nx : Int), s.size ≤ 1000000 → NS r 38 → NS r 124 → NS r 61 → s = u ++ (wt' 0 t ++ r) → at_ = (u.size : Int) → nx = at_ + (wt' 0 t).size → PL 5 s at_ (t, nx)
def G2 (t : List S62) : Prop := ∀ (s u r : ByteArray) (at_ nx : Int) v, s.size ≤ 1000000 → s = u ++ (wt' 2 t ++ r) → at_ = (u.size : Int) → nx = at_ + (wt' 2 t).size → LL 3 s t nx v → PL 3 s at_ v
def G1 (t : List S62) : Prop := ∀ (s u r : ByteArray) (at_ nx : Int) v, s.size ≤ 1000000 → NS r 38 → s = u ++ (wt' 1 t ++ r) → at_ = (u.size : Int) → nx = at_ + (wt' 1 t).size → LL 4 s t nx v → PL 4 s at_ v
def G0 (t : List S62) : Prop := ∀ (s u r : ByteArray) (at_ nx : Int) v, s.size ≤ 1000000 → NS r 38 → NS r 124 → s = u ++ (wt' 0 t ++ r) → at_ = (u.size : Int) → nx = at_ + (wt' 0 t).size → LL 5 s t nx v → PL 5 s at_ v
theorem re_l {s u w r : ByteArray} (h : s = u ++ (w ++ r)) : s = (u ++ w) ++ r := by rw [h, ByteArray.append_assoc]
theorem A2_of {t : List S62} (h : G2 t) : A2 t := fun s u r at_ nx hs n1 e ea en => h s u r at_ nx _ hs e ea en (LL_stop sg3 (re_l e) (by rw [ByteArray.size_append]; omega) t n1)
theorem A1_of {t : List S62} (h : G1 t) : A1 t := fun s u r at_ nx hs n1 n2 e ea en => h s u r at_ nx _ hs n1 e ea en (LL_stop sg4 (re_l e) (by rw [ByteArray.size_append]; omega) t n2)
theorem A0_of {t : List S62} (h : G0 t) : A0 t := fun s u r at_ nx hs n1 n2 n3 e ea en => h s u r at_ nx _ hs n1 n2 e ea en (LL_stop sg5 (re_l e) (by rw [ByteArray.size_append]; omega) t n3)
theorem G2_of {t : List S62} (ew : wt' 2 t = wt' 3 t) (h : A3 t) : G2 t := fun s u r at_ nx v hs e ea en hl => by
  rw [ew] at e en
  exact PL_of (by omega) (by omega) (PL2 (h s u r at_ nx hs e ea en)) hl
theorem G1_of {t : List S62} (ew : wt' 1 t = wt' 2 t) (h : A2 t) : G1 t := fun s u r at_ nx v hs n1 e ea en hl => by
  rw [ew] at e en
  exact PL_of (by omega) (by omega) (h s u r at_ nx hs n1 e ea en) hl
theorem G0_of {t : List S62} (ew : wt' 0 t = wt' 1 t) (h : A1 t) : G0 t := fun s u r at_ nx v hs n1 n2 e ea en hl => by
  rw [ew] at e en
  exact PL_of (by omega) (by omega) (h s u r at_ nx hs n1 n2 e ea en) hl
theorem wt_in' {j : Int} {t : List S62} (h : mn (5 - (tx t).2) 3 < j) : wt' j t = b1 40 ++ ((tx t).1 ++ b1 41) := by
  unfold wt' sw
  rw [if_pos h, ByteArray.append_assoc]; rfl
theorem wt_out' {j : Int} {t : List S62} (h : ¬ mn (5 - (tx t).2) 3 < j) : wt' j t = (tx t).1 := by
  unfold wt' sw
  rw [if_neg h]
theorem atom_start (s : ByteArray) (at_ : Int) (h0 : 0 ≤ at_) (h1 : at_ < s.size) (h : bt s at_ < 48) (k : Nat) : spec_l2Atom.f (k + 1 + 1 + 1) s at_ = spec_l2Atom.j2 k s at_ false := by
  rw [spec_l2Atom.f, if_neg (by omega), decide_eq_false (by omega), spec_l2Atom.j0, if_neg (by decide), if_pos h0, if_pos h1, if_neg (by omega), spec_l2Atom.j1, if_neg (by decide), if_pos h0, if_pos h1, if_neg (by omega)]
theorem A3_of {p : Int} {t : List S62} (ht : Tm p t) (hb : mn (5 - (tx t).2) 3 < 3) (h : A0 t) : A3 t := by
  intro s u r at_ nx hs e ea en
  have e0 : wt' 0 t = (tx t).1 := by unfold wt'; exact sw0 t ht
  rw [wt_in' hb] at e en
  have hz1 : (b1 40 ++ ((tx t).1 ++ b1 41)).size = (tx t).1.size + 2 := by rw [cons_size, ByteArray.size_append, b1_size]
  have e1 : s = (u ++ b1 40) ++ (wt' 0 t ++ (b1 41 ++ r)) := by rw [e, e0]; simp only [ByteArray.append_assoc]
  have e2 : s = ((u ++ b1 40) ++ wt' 0 t) ++ (b1 41 ++ r) := re_l e1
  have e3 : s = u ++ (b1 40 ++ ((tx t).1 ++ (b1 41 ++ r))) := by rw [e]; simp only [ByteArray.append_assoc]
  have hu1 : (u ++ b1 40).size = u.size + 1 := by rw [ByteArray.size_append, b1_size]
  have hu2 : ((u ++ b1 40) ++ wt' 0 t).size = u.size + 1 + (tx t).1.size := by rw [ByteArray.size_append, hu1, e0]
  have hsz : s.size = u.size + 1 + (tx t).1.size + (r.size + 1) := by rw [e2, ByteArray.size_append, hu2, cons_size]
  obtain ⟨k1, h1⟩ := h s (u ++ b1 40) (b1 41 ++ r) (at_ + 1) (nx - 1) hs (NS_cons r (by decide)) (NS_cons r (by decide)) (NS_cons r (by decide)) e1 (by omega) (by rw [e0]; omega)
  have c1 : bt s at_ = 40 := by rw [e3]; exact bt_mid u _ 40 at_ ea
  have c2 : bt s (nx - 1) = 41 := by rw [e2]; exact bt_mid _ r 41 (nx - 1) (by omega)
  refine ⟨k1 + 4, fun k hk => ?_⟩
  obtain ⟨k, rfl⟩ : ∃ m, k = m + 1 + 1 + 1 + 1 := ⟨k - 4, by omega⟩
  rw [atom_start s at_ (by omega) (by omega) (by omega) (k + 1), spec_l2Atom.j2, if_neg (by decide), if_pos (by omega), if_pos (by omega), if_neg (by omega), if_pos (by omega), w64 (x := at_ + 1) (by omega) (by omega), h1 k (by omega)]
  simp only [Option.bind_some]
  rw [if_neg (by omega), if_neg (by omega), if_pos (by omega), if_pos (by omega), if_pos c2, w64 (by omega) (by omega), show nx - 1 + 1 = nx by omega]
def AllS (t : List S62) : Prop := A3 t ∧ A2 t ∧ A1 t ∧ A0 t ∧ G2 t ∧ G1 t ∧ G0 t
theorem sread_all {p : Int} (hp : 1 ≤ p ∧ p ≤ 4) : ∀ t : List S62, Tm p t → t.length ≤ 1000 → AllS t := by
  apply Tm_ind
  · intro m hm _
    have ek : (tx [m]).2 = m.f0 := by
      rcases hm with ⟨e, _⟩ | ⟨e, _⟩
      · rw [tx_tells m e]; exact e.symm
      · rw [tx_count m e]; exact e.symm
    have hk : m.f0 ≤ 1 ∧ 0 ≤ m.f0 := by rcases hm with ⟨e, _⟩ | ⟨e, _⟩ <;> omega
    have eb : mn (5 - (tx [m]).2) 3 = 3 := by rw [ek]; unfold mn; split <;> omega
    have w3 : wt' 3 [m] = (tx [m]).1 := wt_out' (by omega)
    have w2 : wt' 2 [m] = (tx [m]).1 := wt_out' (by omega)
    have w1 : wt' 1 [m] = (tx [m]).1 := wt_out' (by omega)
    have w0 : wt' 0 [m] = (tx [m]).1 := wt_out' (by omega)
    have p3 : A3 [m] := by
      intro s u r at_ nx hs e ea en
      rw [w3] at e en
      refine ⟨4, fun k hk' => ?_⟩
      obtain ⟨k, rfl⟩ : ∃ m, k = m + 1 + 1 + 1 + 1 := ⟨k - 4, by omega⟩
      rcases hm with ⟨e', h0, h1⟩ | ⟨e', h0, h1⟩
      · have hc : (UInt8.ofNat (97 + m.f1).toNat).toNat = (97 + m.f1).toNat := by rw [UInt8.toNat_ofNat']; omega
        have et : (tx [m]).1 = b1 (UInt8.ofNat (97 + m.f1).toNat) := by rw [tx_tells m e']; rfl
        rw [et] at e en
        have hsz : s.size = u.size + (r.size + 1) := by rw [e, ByteArray.size_append, cons_size]
        have c1 : bt s at_ = 97 + m.f1 := by rw [e, bt_mid u r _ at_ ea, hc]; omega
        have hz := b1_size (UInt8.ofNat (97 + m.f1).toNat)
        have em : m = (⟨0, m.f1⟩ : S62) := by cases m; simp only at e'; rw [e']
        rw [spec_l2Atom.f, if_neg (by omega), decide_eq_false (by omega), spec_l2Atom.j0, if_neg (by decide), if_pos (by omega), if_pos (by omega), c1, if_pos (by omega), decide_eq_true (by omega), spec_l2Atom.j1, if_pos rfl, if_pos (by omega), if_pos (by omega), c1, show (97 + m.f1 - 97) % 256 = m.f1 by omega, ← em, w64 (by omega) (by omega), show at_ + 1 = nx by omega]
      · have hc : (UInt8.ofNat (48 + m.f1).toNat).toNat = (48 + m.f1).toNat := by rw [UInt8.toNat_ofNat']; omega
        have et : (tx [m]).1 = b1 (UInt8.ofNat (48 + m.f1).toNat) := by rw [tx_count m e']; rfl
        rw [et] at e en
        have hsz : s.size = u.size + (r.size + 1) := by rw [e, ByteArray.size_append, cons_size]
        have c1 : bt s at_ = 48 + m.f1 := by rw [e, bt_mid u r _ at_ ea, hc]; omega
        have hz := b1_size (UInt8.ofNat (48 + m.f1).toNat)
        have em : m = (⟨1, m.f1⟩ : S62) := by cases m; simp only at e'; rw [e']
        rw [spec_l2Atom.f, if_neg (by omega), decide_eq_false (by omega), spec_l2Atom.j0, if_neg (by decide), if_pos (by omega), if_pos (by omega), c1, if_neg (by omega), spec_l2Atom.j1, if_neg (by decide), if_pos (by omega), if_pos (by omega), c1, if_pos (by omega), decide_eq_true (by omega), spec_l2Atom.j2, if_pos rfl, if_pos (by omega), if_pos (by omega), c1, show (48 + m.f1 - 48) % 256 = m.f1 by omega, ← em, w64 (by omega) (by omega), show at_ + 1 = nx by omega]
    have h2 := G2_of (by rw [w2, w3]) p3
    have p2 := A2_of h2
    have h1 := G1_of (by rw [w1, w2]) p2
    have p1 := A1_of h1
    have h0 := G0_of (by rw [w0, w1]) p1
    exact ⟨p3, p2, p1, A0_of h0, h2, h1, h0⟩
  · intro a m ha e e0 ih hl
    have hn1 : (a ++ [m]).length = a.length + 1 := by simp
    have iha := ih (by omega)
    have et := tx_not a m ha e
    have eb : mn (5 - (tx (a ++ [m])).2) 3 = 3 := by rw [et]; rfl
    have w3 : wt' 3 (a ++ [m]) = (tx (a ++ [m])).1 := wt_out' (by omega)
    have w2 : wt' 2 (a ++ [m]) = (tx (a ++ [m])).1 := wt_out' (by omega)
    have w1 : wt' 1 (a ++ [m]) = (tx (a ++ [m])).1 := wt_out' (by omega)
    have w0 : wt' 0 (a ++ [m]) = (tx (a ++ [m])).1 := wt_out' (by omega)
    have et1 : (tx (a ++ [m])).1 = b1 33 ++ wt' 3 a := by rw [et]; rfl
    have p3 : A3 (a ++ [m]) := by
      intro s u r at_ nx hs es ea en
      rw [w3, et1] at es en
      have hz := cons_size 33 (wt' 3 a)
      have e1 : s = (u ++ b1 33) ++ (wt' 3 a ++ r) := by rw [es]; simp only [ByteArray.append_assoc]
      have e2 : s = u ++ (b1 33 ++ (wt' 3 a ++ r)) := by rw [es]; simp only [ByteArray.append_assoc]
      have hsz : s.size = u.size + ((wt' 3 a ++ r).size + 1) := by rw [e2, ByteArray.size_append, cons_size]
      obtain ⟨k1, h1⟩ := iha.1 s (u ++ b1 33) r (at_ + 1) nx hs e1 (by rw [ByteArray.size_append, b1_size]; omega) (by omega)
      have c1 : bt s at_ = 33 := by rw [e2]; exact bt_mid u _ 33 at_ ea
      have em : m = (⟨2, 0⟩ : S62) := by cases m; simp only at e e0; rw [e, e0]
      refine ⟨k1 + 4, fun k hk => ?_⟩
      obtain ⟨k, rfl⟩ : ∃ m, k = m + 1 + 1 + 1 + 1 := ⟨k - 4, by omega⟩
      rw [atom_start s at_ (by omega) (by omega) (by omega) (k + 1), spec_l2Atom.j2, if_neg (by decide), if_pos (by omega), if_pos (by omega), if_pos c1, w64 (x := at_ + 1) (by omega) (by omega), h1 k (by omega)]
      simp only [Option.bind_some, List.nil_append, List.length_nil, Nat.zero_add]
      rw [if_pos (by omega), if_pos (by omega), ← em]
    have h2 := G2_of (by rw [w2, w3]) p3
    have p2 := A2_of h2
    have h1 := G1_of (by rw [w1, w2]) p2
    have p1 := A1_of h1
    have h0 := G0_of (by rw [w0, w1]) p1
    exact ⟨p3, p2, p1, A0_of h0, h2, h1, h0⟩
  · intro a b m ha hb e3 e5 e0 iha ihb hl
    have hn1 : (a ++ b ++ [m]).length = a.length + b.length + 1 := by simp only [List.length_append, List.length_singleton]
    have iha := iha (by omega)
    have ihb := ihb (by omega)
    have ht : Tm p (a ++ b ++ [m]) := Tm_bin ha hb e3 e5 e0
    have et := tx_bin a b m ha hb e3
    have et1 : (tx (a ++ b ++ [m])).1 = wt' (5 - m.f0) a ++ (sg m.f0 ++ wt' (5 - m.f0 + 1) b) := by rw [et, ← ByteArray.append_assoc]; rfl
    have eb : mn (5 - (tx (a ++ b ++ [m])).2) 3 = 5 - m.f0 := by rw [et]; show mn (5 - m.f0) 3 = 5 - m.f0; unfold mn; split <;> omega
    have em : m = (⟨m.f0, 0⟩ : S62) := by cases m; simp only at e0; rw [e0]
    rcases (by omega : m.f0 = 3 ∨ m.f0 = 4 ∨ m.f0 = 5) with c | c | c
    · rw [c] at eb
      have w2 : wt' 2 (a ++ b ++ [m]) = (tx (a ++ b ++ [m])).1 := wt_out' (by omega)
      have w1 : wt' 1 (a ++ b ++ [m]) = (tx (a ++ b ++ [m])).1 := wt_out' (by omega)
      have w0 : wt' 0 (a ++ b ++ [m]) = (tx (a ++ b ++ [m])).1 := wt_out' (by omega)
      have h2 : G2 (a ++ b ++ [m]) := by
        intro s u r at_ nx v hs es ea en hh
        have ew : wt' 2 (a ++ b ++ [m]) = wt' 2 a ++ (b1 38 ++ wt' 3 b) := by rw [w2, et1, c]; rfl
        rw [ew] at es en
        have hz : (wt' 2 a ++ (b1 38 ++ wt' 3 b)).size = (wt' 2 a).size + ((wt' 3 b).size + 1) := by rw [ByteArray.size_append, cons_size]
        have e1 : s = u ++ (wt' 2 a ++ (b1 38 ++ (wt' 3 b ++ r))) := by rw [es]; simp only [ByteArray.append_assoc]
        have e2 : s = (u ++ wt' 2 a) ++ (b1 38 ++ (wt' 3 b ++ r)) := by rw [es]; simp only [ByteArray.append_assoc]
        have e4 : s = (u ++ wt' 2 a ++ b1 38) ++ (wt' 3 b ++ r) := by rw [es]; simp only [ByteArray.append_assoc]
        rw [em, c] at hh
        exact iha.2.2.2.2.1 s u _ at_ (at_ + (wt' 2 a).size) v hs e1 ea rfl (LL_step (by omega) (by omega) sg3 hs e2 (by rw [ByteArray.size_append]; omega) (by omega) (PL2 (ihb.1 s (u ++ wt' 2 a ++ b1 38) r _ nx hs e4 (by rw [ByteArray.size_append, ByteArray.size_append, b1_size]; omega) (by omega))) hh)
      have p2 := A2_of h2
      have h1 := G1_of (by rw [w1, w2]) p2
      have p1 := A1_of h1
      have h0 := G0_of (by rw [w0, w1]) p1
      have p0 := A0_of h0
      exact ⟨A3_of ht (by omega) p0, p2, p1, p0, h2, h1, h0⟩
    · rw [c] at eb
      have w2 : wt' 2 (a ++ b ++ [m]) = wt' 3 (a ++ b ++ [m]) := by rw [wt_in' (by omega), wt_in' (by omega)]
      have w1 : wt' 1 (a ++ b ++ [m]) = (tx (a ++ b ++ [m])).1 := wt_out' (by omega)
      have w0 : wt' 0 (a ++ b ++ [m]) = (tx (a ++ b ++ [m])).1 := wt_out' (by omega)
      have h1 : G1 (a ++ b ++ [m]) := by
        intro s u r at_ nx v hs n1 es ea en hh
        have ew : wt' 1 (a ++ b ++ [m]) = wt' 1 a ++ (b1 124 ++ wt' 2 b) := by rw [w1, et1, c]; rfl
        rw [ew] at es en
        have hz : (wt' 1 a ++ (b1 124 ++ wt' 2 b)).size = (wt' 1 a).size + ((wt' 2 b).size + 1) := by rw [ByteArray.size_append, cons_size]
        have e1 : s = u ++ (wt' 1 a ++ (b1 124 ++ (wt' 2 b ++ r))) := by rw [es]; simp only [ByteArray.append_assoc]
        have e2 : s = (u ++ wt' 1 a) ++ (b1 124 ++ (wt' 2 b ++ r)) := by rw [es]; simp only [ByteArray.append_assoc]
        have e4 : s = (u ++ wt' 1 a ++ b1 124) ++ (wt' 2 b ++ r) := by rw [es]; simp only [ByteArray.append_assoc]
        rw [em, c] at hh
        exact iha.2.2.2.2.2.1 s u _ at_ (at_ + (wt' 1 a).size) v hs (NS_cons _ (by decide)) e1 ea rfl (LL_step (by omega) (by omega) sg4 hs e2 (by rw [ByteArray.size_append]; omega) (by omega) (ihb.2.1 s (u ++ wt' 1 a ++ b1 124) r _ nx hs n1 e4 (by rw [ByteArray.size_append, ByteArray.size_append, b1_size]; omega) (by omega)) hh)
      have p1 := A1_of h1
      have h0 := G0_of (by rw [w0, w1]) p1
      have p0 := A0_of h0
      have p3 := A3_of ht (by omega) p0
      have h2 := G2_of w2 p3
      exact ⟨p3, A2_of h2, p1, p0, h2, h1, h0⟩
    · rw [c] at eb
      have w2 : wt' 2 (a ++ b ++ [m]) = wt' 3 (a ++ b ++ [m]) := by rw [wt_in' (by omega), wt_in' (by omega)]
      have w1 : wt' 1 (a ++ b ++ [m]) = wt' 2 (a ++ b ++ [m]) := by rw [wt_in' (by omega), wt_in' (by omega)]
      have w0 : wt' 0 (a ++ b ++ [m]) = (tx (a ++ b ++ [m])).1 := wt_out' (by omega)
      have h0 : G0 (a ++ b ++ [m]) := by
        intro s u r at_ nx v hs n1 n2 es ea en hh
        have ew : wt' 0 (a ++ b ++ [m]) = wt' 0 a ++ (b1 61 ++ wt' 1 b) := by rw [w0, et1, c]; rfl
        rw [ew] at es en
        have hz : (wt' 0 a ++ (b1 61 ++ wt' 1 b)).size = (wt' 0 a).size + ((wt' 1 b).size + 1) := by rw [ByteArray.size_append, cons_size]
        have e1 : s = u ++ (wt' 0 a ++ (b1 61 ++ (wt' 1 b ++ r))) := by rw [es]; simp only [ByteArray.append_assoc]
        have e2 : s = (u ++ wt' 0 a) ++ (b1 61 ++ (wt' 1 b ++ r)) := by rw [es]; simp only [ByteArray.append_assoc]
        have e4 : s = (u ++ wt' 0 a ++ b1 61) ++ (wt' 1 b ++ r) := by rw [es]; simp only [ByteArray.append_assoc]
        rw [em, c] at hh
        exact iha.2.2.2.2.2.2 s u _ at_ (at_ + (wt' 0 a).size) v hs (NS_cons _ (by decide)) (NS_cons _ (by decide)) e1 ea rfl (LL_step (by omega) (by omega) sg5 hs e2 (by rw [ByteArray.size_append]; omega) (by omega) (ihb.2.2.1 s (u ++ wt' 0 a ++ b1 61) r _ nx hs n1 n2 e4 (by rw [ByteArray.size_append, ByteArray.size_append, b1_size]; omega) (by omega)) hh)
      have p0 := A0_of h0
      have p3 := A3_of ht (by omega) p0
      have h2 := G2_of w2 p3
      have p2 := A2_of h2
      have h1 := G1_of w1 p2
      exact ⟨p3, p2, A1_of h1, p0, h2, h1, h0⟩
/-- The text of a term is read to it. -/
theorem lv5_comp {p : Int} (hp : 1 ≤ p ∧ p ≤ 4) (t : List S62) (ht : Tm p t) (hl : t.length ≤ 1000) (hs : (tx t).1.size ≤ 1000000) : PL 5 (tx t).1 0 (t, (tx t).1.size) := by
  have hz : (ByteArray.empty).size = 0 := rfl
  have e0 : wt' 0 t = (tx t).1 := by unfold wt'; exact sw0 t ht
  exact (sread_all hp t ht hl).2.2.2.1 _ ByteArray.empty ByteArray.empty 0 _ hs (NS_nil hz 38) (NS_nil hz 124) (NS_nil hz 61) (by rw [e0, ByteArray.append_empty, ByteArray.empty_append]) rfl (by rw [e0]; omega)

theorem starts_ {p : Int} : ∀ b : List S62, Tm p b → ∀ (x y : List S62) (n : Int) (K : Nat), 1 ≤ n → n ≤ 1000 - (b.length : Int) → x.length + b.length ≤ 1000 →
    spec_l2Starts.l0 (K + b.length) (x ++ b ++ y) n ((x.length + b.length : Nat) - 1 : Int) = spec_l2Starts.l0 K (x ++ b ++ y) (n - 1) ((x.length : Int) - 1) := by
  apply Tm_ind
  · intro m hm x y n K h1 h2 h3
    have hr : rd_T62 (x ++ [m] ++ y) ((x.length + [m].length : Nat) - 1 : Int) = m := rdm_mid x y _ m (by simp) _ (by simp)
    have hl : (x ++ [m] ++ y).length = x.length + 1 + y.length := by simp only [List.length_append, List.length_singleton]
    have hb1 : [m].length = 1 := rfl
    have hk : m.f0 ≤ 1 := by rcases hm with ⟨e, _⟩ | ⟨e, _⟩ <;> omega
    rw [show K + [m].length = K + 1 from rfl, spec_l2Starts.l0, if_pos (by omega), if_pos (by omega), if_pos (by omega), hr, if_pos hk, w64 (x := n - 1) (by omega) (by omega), w64 (by omega) (by omega)]
    congr 1; omega
  · intro a m ha e e0 ih x y n K h1 h2 h3
    have hn1 : (a ++ [m]).length = a.length + 1 := by simp
    have hr : rd_T62 (x ++ (a ++ [m]) ++ y) ((x.length + (a ++ [m]).length : Nat) - 1 : Int) = m := rdm_mid (x ++ a) y _ m (by simp) _ (by rw [hn1, List.length_append]; omega)
    have hl : (x ++ (a ++ [m]) ++ y).length = x.length + (a.length + 1) + y.length := by simp only [List.length_append, List.length_singleton]
    have := ih x ([m] ++ y) n K h1 (by omega) (by omega)
    have el : x ++ a ++ ([m] ++ y) = x ++ (a ++ [m]) ++ y := by simp
    rw [el] at this
    rw [show K + (a ++ [m]).length = K + a.length + 1 by omega, spec_l2Starts.l0, if_pos (by omega), if_pos (by omega), if_pos (by omega), hr, if_neg (by omega), if_neg (by omega), w64 (by omega) (by omega), ← this]
    congr 1; omega
  · intro a b m ha hb e3 e5 e0 iha ihb x y n K h1 h2 h3
    have hn1 : (a ++ b ++ [m]).length = a.length + b.length + 1 := by simp only [List.length_append, List.length_singleton]
    have hr : rd_T62 (x ++ (a ++ b ++ [m]) ++ y) ((x.length + (a ++ b ++ [m]).length : Nat) - 1 : Int) = m := rdm_mid (x ++ a ++ b) y _ m (by simp) _ (by rw [hn1, List.length_append, List.length_append]; omega)
    have hl : (x ++ (a ++ b ++ [m]) ++ y).length = x.length + (a.length + b.length + 1) + y.length := by simp only [List.length_append, List.length_singleton]
    have hxa : (x ++ a).length = x.length + a.length := List.length_append ..
    have tb := ihb (x ++ a) ([m] ++ y) (n + 1) (K + a.length) (by omega) (by omega) (by omega)
    have ta := iha x (b ++ ([m] ++ y)) n K h1 (by omega) (by omega)
    have el : x ++ a ++ b ++ ([m] ++ y) = x ++ (a ++ b ++ [m]) ++ y := by simp
    have el2 : x ++ a ++ (b ++ ([m] ++ y)) = x ++ (a ++ b ++ [m]) ++ y := by simp
    rw [el] at tb
    rw [el2] at ta
    rw [show K + (a ++ b ++ [m]).length = K + a.length + b.length + 1 by omega, spec_l2Starts.l0, if_pos (by omega), if_pos (by omega), if_pos (by omega), hr, if_neg (by omega), if_pos (by omega), w64 (x := n + 1) (by omega) (by omega), w64 (by omega) (by omega), ← ta, show ((x.length + (a ++ b ++ [m]).length : Nat) - 1 - 1 : Int) = (((x ++ a).length + b.length : Nat) - 1 : Int) by omega, tb]
    congr 1 <;> omega
theorem starts_eq {p : Int} (a b : List S62) (m : S62) (hb : Tm p b) (hl : a.length + b.length ≤ 900) (k : Nat) (hk : b.length + 1 < k) : spec_l2Starts.f k (a ++ b ++ [m]) ((a.length + b.length : Nat) - 1 : Int) = some (a.length : Int) := by
  have := starts_ b hb a [m] 1 (k - b.length) (by omega) (by omega) (by omega)
  rw [show k - b.length + b.length = k by omega] at this
  unfold spec_l2Starts.f
  rw [this]
  obtain ⟨q, hq⟩ : ∃ q, k - b.length = q + 1 := ⟨k - b.length - 1, by omega⟩
  rw [hq, spec_l2Starts.l0, if_neg (by omega), w64 (by omega) (by omega)]
  congr 1; omega
theorem binds_eq (x : List S62) (m : S62) (h0 : 0 ≤ m.f0 ∧ m.f0 ≤ 5) (hl : x.length ≤ 1000) : spec_l2Binds.f (x ++ [m]) = some (mn (5 - m.f0) 3) := by
  have hn : (x ++ [m]).length = x.length + 1 := by simp
  have hw : wrap64 (((x ++ [m]).length : Int) - 1) = (x.length : Int) := by rw [w64 (by omega) (by omega)]; omega
  unfold spec_l2Binds.f
  rw [hw, if_pos (by omega), if_pos (by omega), lastm, w64 (by omega) (by omega)]
theorem sheld {p : Int} (t : List S62) (ht : Tm p t) (hl : t.length ≤ 100) (j : Int) (k : Nat) (h : spec_l2Text.f k t = some (tx t).1) : spec_l2Held.f (k + 1) t j = some (sw j (tx t).2 (tx t).1) := by
  obtain ⟨x, m, e, ek, h0, h5⟩ := tx_kind t ht
  have hs := tx_size t ht
  have hn : t.length = x.length + 1 := by rw [e]; simp
  have e1 : (⟨#[40]⟩ : ByteArray).size = 1 := rfl
  have hb := binds_eq x m ⟨h0, h5⟩ (by omega)
  rw [← e] at hb
  rw [spec_l2Held.f, hb, Option.bind_some, h]
  unfold sw
  rw [ek]
  by_cases c : mn (5 - m.f0) 3 < j
  · rw [if_pos c, if_pos c, Option.bind_some, if_pos (by omega), if_pos (by rw [ByteArray.size_append]; omega)]
  · rw [if_neg c, if_neg c, Option.bind_some]
theorem letter_eq {x : Int} (h0 : 0 ≤ x) (h1 : x < 4) : (⟨#[97, 98, 99, 100]⟩ : ByteArray).extract x.toNat (x + 1).toNat = strOfNums [97 + x] := by
  rcases (by omega : x = 0 ∨ x = 1 ∨ x = 2 ∨ x = 3) with rfl | rfl | rfl | rfl <;> decide
theorem sign_eq {m : S62} (h3 : 3 ≤ m.f0) (h5 : m.f0 ≤ 5) : (⟨#[38, 124, 61]⟩ : ByteArray).extract (2 - (5 - m.f0)).toNat (3 - (5 - m.f0)).toNat = sg m.f0 := by
  rcases (by omega : m.f0 = 3 ∨ m.f0 = 4 ∨ m.f0 = 5) with e | e | e <;> rw [e] <;> decide
theorem stext {p : Int} (hp : p ≤ 4) : ∀ t : List S62, Tm p t → t.length ≤ 100 → ∀ k, 6 * t.length + 10 < k → spec_l2Text.f k t = some (tx t).1 := by
  apply Tm_ind
  · intro m hm hl k hk
    obtain ⟨k, rfl⟩ : ∃ m, k = m + 1 + 1 := ⟨k - 2, by omega⟩
    have hn : ([m].length : Int) = 1 := rfl
    have hr : rd_T62 [m] 0 = m := rfl
    rw [spec_l2Text.f, hn, w64 (x := (1 : Int) - 1) (by omega) (by omega), show (1 : Int) - 1 = 0 from rfl, if_pos (by omega), if_pos (by omega), hr]
    rcases hm with ⟨e, h0, h1⟩ | ⟨e, h0, h1⟩
    · rw [if_pos e, tx_tells m e, w64 (by omega) (by omega), if_pos h0, if_pos (by omega), if_pos (by omega), letter_eq h0 (by omega)]
    · have hx : mx m.f1 0 = m.f1 := by unfold mx; split <;> omega
      rw [if_neg (by omega), if_pos e, tx_count m e, spec_l1Number.f, if_pos (by omega), hx, w64 (by omega) (by omega), show (48 + m.f1) % 256 = 48 + m.f1 by omega]; rfl
  · intro a m ha e e0 ih hl k hk
    have hn1 : (a ++ [m]).length = a.length + 1 := by simp
    obtain ⟨k, rfl⟩ : ∃ m, k = m + 1 + 1 := ⟨k - 2, by omega⟩
    have hw : wrap64 (((a ++ [m]).length : Int) - 1) = (a.length : Int) := by rw [w64 (by omega) (by omega)]; omega
    have hs := tx_size a ha
    have hs2 := sw_size 3 (tx a).2 (tx a).1
    rw [spec_l2Text.f, hw, if_pos (by omega), if_pos (by omega), lastm a m, if_neg (by omega), if_neg (by omega), if_pos e, if_pos (by omega), Int.toNat_natCast, List.take_left, sheld a ha (by omega) 3 k (ih (by omega) k (by omega)), Option.bind_some, if_pos (by omega), tx_not a m ha e]
  · intro a b m ha hb e3 e5 e0 iha ihb hl k hk
    have hn1 : (a ++ b ++ [m]).length = a.length + b.length + 1 := by simp only [List.length_append, List.length_singleton]
    have hab : (a ++ b).length = a.length + b.length := List.length_append ..
    obtain ⟨k, rfl⟩ : ∃ m, k = m + 1 + 1 := ⟨k - 2, by omega⟩
    have hw : wrap64 (((a ++ b ++ [m]).length : Int) - 1) = ((a ++ b).length : Int) := by rw [w64 (by omega) (by omega)]; omega
    have hw2 : wrap64 (((a ++ b).length : Int) - 1) = ((a.length + b.length : Nat) - 1 : Int) := by rw [w64 (by omega) (by omega)]; omega
    have tk : (a ++ b ++ [m]).take (a ++ b).length = a ++ b := List.take_left
    have tk2 : (a ++ b ++ [m]).take a.length = a := by rw [List.append_assoc]; exact List.take_left
    have dr : (a ++ b).drop a.length = b := List.drop_left
    have na := Tm_ne ha
    have nb := Tm_ne hb
    have sa := tx_size a ha
    have sb := tx_size b hb
    have hA := iha (by omega) k (by omega)
    have hB := ihb (by omega) k (by omega)
    have z1 := sw_size (5 - m.f0) (tx a).2 (tx a).1
    have z2 := sw_size (5 - m.f0 + 1) (tx b).2 (tx b).1
    have z3 := sg_size m.f0
    have eb : mn (5 - m.f0) 3 = 5 - m.f0 := by unfold mn; split <;> omega
    rw [spec_l2Text.f, hw, if_pos (by omega), if_pos (by omega), lastm (a ++ b) m, if_neg (by omega), if_neg (by omega), if_neg (by omega), hw2, starts_eq a b m hb (by omega) (k + 1) (by omega), Option.bind_some, binds_eq (a ++ b) m (by omega) (by omega), Option.bind_some, eb, if_pos (by omega), if_pos (by omega)]
    simp only [Int.toNat_natCast]
    rw [tk2, tk, dr, sheld a ha (by omega) (5 - m.f0) k hA, Option.bind_some, w64 (x := 2 - (5 - m.f0)) (by omega) (by omega), w64 (x := 3 - (5 - m.f0)) (by omega) (by omega), w64 (x := 5 - m.f0 + 1) (by omega) (by omega), sign_eq e3 e5, if_pos (by omega), if_pos (by omega), if_pos (by omega), if_pos (by omega), if_pos (by omega), if_pos (by omega), sheld b hb (by omega) (5 - m.f0 + 1) k hB, Option.bind_some, if_pos (by rw [ByteArray.size_append]; omega), tx_bin a b m ha hb e3]

theorem in_eq (a b c : Int) : spec_l1In.f a b c = some (decide (b ≤ a ∧ a ≤ c)) := by
  unfold spec_l1In.f
  by_cases h : a ≥ b
  · rw [if_pos h]; congr 1; rw [decide_eq_decide]; omega
  · rw [if_neg h]; congr 1; symm; rw [decide_eq_false_iff_not]; omega

theorem stermok_loop (p : Int) (hp : -9223372036854775808 ≤ p ∧ p ≤ 9223372036854775807) (l : List S62) (hn : l.length ≤ 1048576) (hw : ∀ m ∈ l, MarkW m) (d : Nat) : ∀ (i : Nat) (n : Int), i + d = l.length → 0 ≤ n → n ≤ i → ∀ k, 4 * d < k →
    spec_TermOk.l0 k p l n ((i : Nat) : Int) = some (decide (tfold p n (l.drop i) = some 1 ∧ 1 ≤ p ∧ p ≤ 4 ∧ l.length ≤ 15)) := by
  induction d with
  | zero =>
    intro i n hi h0 h1 k hk
    obtain ⟨k, rfl⟩ : ∃ m, k = m + 1 := ⟨k - 1, by omega⟩
    rw [spec_TermOk.l0, if_neg (by omega), in_eq, Option.bind_some, List.drop_of_length_le (by omega)]
    by_cases hpp : 1 ≤ p ∧ p ≤ 4
    · rw [if_pos (by simpa using hpp)]
      by_cases hn1 : n = 1
      · rw [if_pos hn1]; congr 1; rw [decide_eq_decide]; simp [tfold, hn1]; omega
      · rw [if_neg hn1]; congr 1; symm; rw [decide_eq_false_iff_not]; simp [tfold, hn1]
    · rw [if_neg (by simpa using hpp)]; congr 1; symm; rw [decide_eq_false_iff_not]; rintro ⟨_, a, b, _⟩; exact hpp ⟨a, b⟩
  | succ d ih =>
    intro i n hi h0 h1 k hk
    obtain ⟨k, rfl⟩ : ∃ m, k = m + 4 := ⟨k - 4, by omega⟩
    have hlt : i < l.length := by omega
    have hm := hw _ (List.getElem_mem hlt)
    unfold MarkW at hm
    have next : ∀ (n' : Int) (k' : Nat), tstep p n l[i] = some n' → 0 ≤ n' → n' ≤ i + 1 → 4 * d < k' →
        spec_TermOk.l0 k' p l n' (wrap64 ((i : Int) + 1)) = some (decide (tfold p n (l.drop i) = some 1 ∧ 1 ≤ p ∧ p ≤ 4 ∧ l.length ≤ 15)) := by
      intro n' k' hs h0' h1' hk'
      have := ih (i + 1) n' (by omega) h0' (by omega) k' hk'
      rw [w64 (by omega) (by omega), show (i : Int) + 1 = ((i + 1 : Nat) : Int) by omega, this, List.drop_eq_getElem_cons hlt, tfold_some _ hs]
    have stop : tstep p n l[i] = none → some false = some (decide (tfold p n (l.drop i) = some 1 ∧ 1 ≤ p ∧ p ≤ 4 ∧ l.length ≤ 15)) := by
      intro hs
      rw [List.drop_eq_getElem_cons hlt, tfold_none _ hs]; simp
    generalize hgm : l[i] = m at *
    have hrd : rd_T62 l ((i : Nat) : Int) = m := by rw [rdm l i hlt]; exact hgm
    -- the ways behind the first two tests
    have g3 : ∀ b, (b = true ↔ (m.f0 = 2 ∧ m.f1 = 0 ∧ n ≥ 1)) → ¬ (m.f0 = 0 ∧ m.f1 ≥ 0 ∧ m.f1 < p) → ¬ (m.f0 = 1 ∧ m.f1 ≥ 0 ∧ m.f1 ≤ p + 1) → spec_TermOk.j3 (k + 1) p l n ((i : Nat) : Int) b = some (decide (tfold p n (l.drop i) = some 1 ∧ 1 ≤ p ∧ p ≤ 4 ∧ l.length ≤ 15)) := by
      intro b hb n0 n1
      rw [spec_TermOk.j3]
      by_cases hbt : b = true
      · have := hb.1 hbt
        rw [if_pos hbt]
        exact next n k (by unfold tstep; rw [if_neg (by omega), if_neg (by omega), if_pos this.1, if_pos (by omega)]) (by omega) (by omega) (by omega)
      · have hb' : ¬ (m.f0 = 2 ∧ m.f1 = 0 ∧ n ≥ 1) := fun h => hbt (hb.2 h)
        rw [if_neg hbt, if_pos (by omega), if_pos (by omega), hrd, in_eq, Option.bind_some]
        by_cases h35 : 3 ≤ m.f0 ∧ m.f0 ≤ 5
        · rw [if_pos (by simpa using h35)]
          by_cases ha : m.f1 = 0
          · rw [if_pos ha]
            by_cases h2 : n ≥ 2
            · rw [if_pos h2, w64 (x := n - 1) (by omega) (by omega)]
              exact next (n - 1) k (by unfold tstep; rw [if_neg (by omega), if_neg (by omega), if_neg (by omega), if_pos h35, if_pos (by omega)]) (by omega) (by omega) (by omega)
            · rw [if_neg h2]
              exact stop (by unfold tstep; rw [if_neg (by omega), if_neg (by omega), if_neg (by omega), if_pos h35, if_neg (by omega)])
          · rw [if_neg ha]
            exact stop (by unfold tstep; rw [if_neg (by omega), if_neg (by omega), if_neg (by omega), if_pos h35, if_neg (by omega)])
        · rw [if_neg (by simpa using h35)]
          refine stop ?_
          unfold tstep
          by_cases e0 : m.f0 = 0
          · rw [if_pos e0, if_neg (by omega)]
          · rw [if_neg e0]
            by_cases e1 : m.f0 = 1
            · rw [if_pos e1, if_neg (by omega)]
            · rw [if_neg e1]
              by_cases e2 : m.f0 = 2
              · rw [if_pos e2, if_neg (by omega)]
              · rw [if_neg e2, if_neg h35]
    have g2 : ∀ b, (b = true ↔ (m.f0 = 1 ∧ m.f1 ≥ 0 ∧ m.f1 ≤ p + 1)) → ¬ (m.f0 = 0 ∧ m.f1 ≥ 0 ∧ m.f1 < p) → spec_TermOk.j2 (k + 2) p l n ((i : Nat) : Int) b = some (decide (tfold p n (l.drop i) = some 1 ∧ 1 ≤ p ∧ p ≤ 4 ∧ l.length ≤ 15)) := by
      intro b hb n0
      rw [spec_TermOk.j2]
      by_cases hbt : b = true
      · have := hb.1 hbt
        rw [if_pos hbt, w64 (x := n + 1) (by omega) (by omega)]
        exact next (n + 1) (k + 1) (by unfold tstep; rw [if_neg (by omega), if_pos this.1, if_pos (by omega)]) (by omega) (by omega) (by omega)
      · have hb' : ¬ (m.f0 = 1 ∧ m.f1 ≥ 0 ∧ m.f1 ≤ p + 1) := fun h => hbt (hb.2 h)
        rw [if_neg hbt, if_pos (by omega), if_pos (by omega), hrd]
        by_cases h2 : (m.f0 == 2 && m.f1 == 0) = true
        · rw [if_pos h2]
          rw [Bool.and_eq_true, beq_iff_eq, beq_iff_eq] at h2
          exact g3 _ (by rw [decide_eq_true_iff]; omega) n0 hb'
        · rw [if_neg h2]
          rw [Bool.and_eq_true, beq_iff_eq, beq_iff_eq] at h2
          exact g3 _ (by simp; omega) n0 hb'
    have g1 : ∀ b, (b = true ↔ (m.f0 = 0 ∧ m.f1 ≥ 0 ∧ m.f1 < p)) → spec_TermOk.j1 (k + 3) p l n ((i : Nat) : Int) b = some (decide (tfold p n (l.drop i) = some 1 ∧ 1 ≤ p ∧ p ≤ 4 ∧ l.length ≤ 15)) := by
      intro b hb
      rw [spec_TermOk.j1]
      by_cases hbt : b = true
      · have := hb.1 hbt
        rw [if_pos hbt, w64 (x := n + 1) (by omega) (by omega)]
        exact next (n + 1) (k + 2) (by unfold tstep; rw [if_pos this.1, if_pos (by omega)]) (by omega) (by omega) (by omega)
      · have hb' : ¬ (m.f0 = 0 ∧ m.f1 ≥ 0 ∧ m.f1 < p) := fun h => hbt (hb.2 h)
        rw [if_neg hbt, if_pos (by omega), if_pos (by omega), hrd]
        by_cases e1 : m.f0 = 1
        · rw [if_pos e1]
          by_cases e2 : m.f1 ≥ 0
          · rw [if_pos e2]
            by_cases e3 : m.f1 ≤ p
            · rw [if_pos e3]; exact g2 _ (by simp; omega) hb'
            · rw [if_neg e3, w64 (x := m.f1 - 1) (by omega) (by omega)]; exact g2 _ (by rw [beq_iff_eq]; omega) hb'
          · rw [if_neg e2]; exact g2 _ (by simp; omega) hb'
        · rw [if_neg e1]; exact g2 _ (by simp; omega) hb'
    rw [show k + 4 = (k + 3) + 1 from rfl, spec_TermOk.l0, if_pos (by omega), if_pos (by omega), hrd]
    by_cases e0 : m.f0 = 0
    · rw [if_pos e0]
      by_cases e1 : m.f1 ≥ 0
      · rw [if_pos e1]; exact g1 _ (by rw [decide_eq_true_iff]; omega)
      · rw [if_neg e1]; exact g1 _ (by simp; omega)
    · rw [if_neg e0]; exact g1 _ (by simp; omega)
theorem stermok (p : Int) (hp : -9223372036854775808 ≤ p ∧ p ≤ 9223372036854775807) (l : List S62) (hn : l.length ≤ 1048576) (hw : ∀ m ∈ l, MarkW m) (k : Nat) (hk : 4 * l.length < k) : spec_TermOk.f k p l = some (decide (TermB p l)) := by
  unfold spec_TermOk.f
  have := stermok_loop p hp l hn hw l.length 0 0 (by omega) (by omega) (by omega) k hk
  rw [show ((0 : Nat) : Int) = 0 from rfl] at this
  rw [this, List.drop_zero]
  congr 1; rw [decide_eq_decide]; unfold TermB
  constructor
  · rintro ⟨a, b, c, d⟩; exact ⟨b, c, d, a⟩
  · rintro ⟨a, b, c, d⟩; exact ⟨d, a, b, c⟩

theorem sreadt (p : Int) (hp : -9223372036854775808 ≤ p ∧ p ≤ 9223372036854775807) (s : ByteArray) (k : Nat) (hk : 900 < k) : spec_ReadTerm.f k p s = some (readR p s) := by
  unfold spec_ReadTerm.f
  by_cases hs : (s.size : Int) > 60
  · rw [if_pos hs, readR_no (fun ⟨t, _, _, h⟩ => by omega)]
  · obtain ⟨v, hok, hv, hrun⟩ := lv5_end s (by omega)
    rw [if_neg hs, hrun k (by omega)]
    simp only [Option.bind_some]
    by_cases h : ∃ t : List S62, TermB p t ∧ (tx t).1 = s ∧ s.size ≤ 60
    · obtain ⟨t, hT, et, _, er⟩ := readR_yes h
      obtain ⟨k1, h1⟩ := lv5_comp ⟨hT.1, hT.2.1⟩ t hT.2.2.2 (by have := hT.2.2.1; omega) (by rw [et]; omega)
      have ev : v = (t, (s.size : Int)) := by
        have g1 := h1 (k1 + 10 * s.size + 9) (by omega)
        rw [et, hrun _ (by omega)] at g1
        exact Option.some.inj g1
      have h15 := hT.2.2.1
      rw [ev] at hok hv ⊢
      rw [if_pos rfl, stermok p hp t (by omega) hok k (by omega), Option.bind_some, if_pos (by simpa using hT), stext hT.2.1 t hT.2.2.2 (by omega) k (by omega), Option.bind_some, et, if_pos rfl, er]
    · rw [readR_no h]
      by_cases c1 : v.2 = (s.size : Int)
      · rw [if_pos c1, stermok p hp v.1 (by omega) hok k (by omega), Option.bind_some]
        by_cases hT : TermB p v.1
        · have h15 := hT.2.2.1
          rw [if_pos (by simpa using hT), stext hT.2.1 v.1 hT.2.2.2 (by omega) k (by omega), Option.bind_some]
          by_cases c3 : (tx v.1).1.toList = s.toList
          · exact absurd ⟨v.1, hT, (toL_eq _ _).1 c3, by omega⟩ h
          · rw [if_neg c3]
        · rw [if_neg (by simpa using hT)]
      · rw [if_neg c1]

theorem stermtext (p : Int) (hp : -9223372036854775808 ≤ p ∧ p ≤ 9223372036854775807) (t : List S62) (hn : t.length ≤ 1048576) (hw : ∀ m ∈ t, MarkW m) (k : Nat) (hk : 4 * t.length + 110 < k) : spec_TermText.f k p t = some (txT p t) := by
  unfold spec_TermText.f txT
  rw [stermok p hp t hn hw k (by omega), Option.bind_some]
  by_cases hT : TermB p t
  · have h15 := hT.2.2.1
    rw [if_pos (by simpa using hT), if_pos hT, stext hT.2.1 t hT.2.2.2 (by omega) k (by omega)]; rfl
  · rw [if_neg (by simpa using hT), if_neg hT]

theorem sameMarks_loop (l : List S62) (hl : l.length ≤ 1000) (d : Nat) : ∀ (i : Nat), i + d = l.length → ∀ k, d < k → laws_sameMarks.l0 k l l (i : Int) = some true := by
  induction d with
  | zero =>
    intro i h k hk
    obtain ⟨k, rfl⟩ : ∃ m, k = m + 1 := ⟨k - 1, by omega⟩
    rw [laws_sameMarks.l0, if_neg (by omega)]
  | succ d ih =>
    intro i h k hk
    obtain ⟨k, rfl⟩ : ∃ m, k = m + 1 := ⟨k - 1, by omega⟩
    rw [laws_sameMarks.l0, if_pos (by omega), if_pos (by omega), if_pos (by omega), if_neg (by simp), w64 (by omega) (by omega), show (i : Int) + 1 = ((i + 1 : Nat) : Int) by omega]
    exact ih (i + 1) (by omega) k (by omega)
theorem sameMarks_self (l : List S62) (hl : l.length ≤ 1000) (k : Nat) (hk : l.length < k) : laws_sameMarks.f k l l = some true := by
  unfold laws_sameMarks.f
  rw [if_pos rfl]
  exact sameMarks_loop l hl l.length 0 (by omega) k hk

/-- The bytes that are drawn from. -/
def Bytes (l : List Int) : Prop := l.length ≤ 2000 ∧ ∀ x ∈ l, 0 ≤ x ∧ x ≤ 255
theorem open_ok (l : List Int) (h : ∀ x ∈ l, (Lit.int .u8 x).wf = true) : ∃ b, Bytes b ∧ spec_l20Open.f l = some (b, 0) := by
  unfold spec_l20Open.f
  by_cases hl : (l.length : Int) > 2000
  · refine ⟨l.take 2000, ⟨by simp; omega, fun x hx => wf8 (h x (List.mem_of_mem_take hx))⟩, ?_⟩
    rw [if_pos hl, if_pos (by omega)]
  · exact ⟨l, ⟨by omega, fun x hx => wf8 (h x hx)⟩, by rw [if_neg hl]⟩

theorem rd_byte {b : List Int} (h : Bytes b) (i : Int) : 0 ≤ rd b i ∧ rd b i ≤ 255 := by
  unfold rd
  rw [List.getD_eq_getElem?_getD]
  by_cases hi : i.toNat < b.length
  · rw [List.getElem?_eq_getElem hi, Option.getD_some]; exact h.2 _ (List.getElem_mem hi)
  · rw [List.getElem?_eq_none (by omega)]; decide
theorem pick_ok {b : List Int} (hb : Bytes b) (pos n : Int) (h0 : 0 ≤ pos) (h1 : pos ≤ 1000000000) :
    ∃ r, (0 ≤ r ∧ (1 ≤ n → r < n) ∧ (n < 1 → r = 0)) ∧ ∀ k, spec_l20Rd_pick.f (k + 1) b pos n = some (r, pos + 1) := by
  have hl := hb.1
  have e1 : wrap64 (pos + 1) = pos + 1 := w64 (by omega) (by omega)
  have e2 : wrap64 (pos + 1 - 1) = pos := by rw [w64 (by omega) (by omega)]; omega
  by_cases hn : n < 1
  · refine ⟨0, ⟨by omega, by omega, fun _ => rfl⟩, fun k => ?_⟩
    unfold spec_l20Rd_pick.f
    rw [if_pos hn, e1]; rw [spec_l20Rd_pick.j0]; rw [if_pos rfl]
  · by_cases hz : b.length = 0
    · refine ⟨0, ⟨by omega, by omega, fun _ => rfl⟩, fun k => ?_⟩
      unfold spec_l20Rd_pick.f
      rw [if_neg hn, e1]; rw [spec_l20Rd_pick.j0]; rw [if_pos (by simp; exact List.eq_nil_of_length_eq_zero hz)]
    · by_cases hp : pos < (b.length : Int)
      · have hr := rd_byte hb pos
        refine ⟨Int.tmod (rd b pos) n, ⟨Int.tmod_nonneg _ hr.1, fun _ => Int.tmod_lt_of_pos _ (by omega), by omega⟩, fun k => ?_⟩
        unfold spec_l20Rd_pick.f
        rw [if_neg hn, e1]; rw [spec_l20Rd_pick.j0]
        rw [if_neg (by simp; exact List.ne_nil_of_length_pos (by omega)), e2, if_pos hp, if_pos h0, if_neg (by omega), w64 (x := rd b pos) (by omega) (by omega)]
      · have hr1 := rd_byte hb (Int.tmod pos (b.length : Int))
        have em : wrap64 (wrap64 (pos * 7) + 3) = pos * 7 + 3 := by rw [w64 (x := pos * 7) (by omega) (by omega), w64 (by omega) (by omega)]
        have hr2 := rd_byte hb (Int.tmod (pos * 7 + 3) (b.length : Int))
        have hd : 0 ≤ Int.tdiv pos (b.length : Int) ∧ Int.tdiv pos (b.length : Int) ≤ pos := ⟨Int.tdiv_nonneg h0 (by omega), by rw [Int.tdiv_eq_ediv_of_nonneg h0]; exact Int.ediv_le_self _ h0⟩
        generalize hA : rd b (Int.tmod pos (b.length : Int)) = A at hr1
        generalize hB : rd b (Int.tmod (pos * 7 + 3) (b.length : Int)) = B at hr2
        generalize hD : Int.tdiv pos (b.length : Int) = D at hd
        obtain ⟨X, hX⟩ : ∃ X : Nat, A * 131 + B * 1117 + pos * 29 + D * 53 = (X : Int) := Int.eq_ofNat_of_zero_le (by omega)
        have hXb : (X : Int) < 4611686018427387904 := by omega
        refine ⟨Int.tmod ((X ^^^ (X / 64) : Nat) : Int) n, ⟨Int.tmod_nonneg _ (by omega), fun _ => Int.tmod_lt_of_pos _ (by omega), by omega⟩, fun k => ?_⟩
        unfold spec_l20Rd_pick.f
        rw [if_neg hn, e1]; rw [spec_l20Rd_pick.j0]
        rw [if_neg (by simp; exact List.ne_nil_of_length_pos (by omega)), e2, if_neg hp, if_neg (by omega), if_pos (Int.tmod_nonneg _ h0), if_pos (Int.tmod_lt_of_pos _ (by omega)), em, if_pos (Int.tmod_nonneg _ (by omega)), if_pos (Int.tmod_lt_of_pos _ (by omega)), if_neg (by omega), hA, hB, hD]
        have w1 : wrap64 (wrap64 A * 131) = A * 131 := by rw [w64 (x := A) (by omega) (by omega), w64 (by omega) (by omega)]
        have w2 : wrap64 (wrap64 B * 1117) = B * 1117 := by rw [w64 (x := B) (by omega) (by omega), w64 (by omega) (by omega)]
        have w3 : wrap64 (pos * 29) = pos * 29 := w64 (by omega) (by omega)
        have w4 : wrap64 (wrap64 D * 53) = D * 53 := by rw [w64 (x := D) (by omega) (by omega), w64 (by omega) (by omega)]
        have w5 : wrap64 (A * 131 + B * 1117) = A * 131 + B * 1117 := w64 (by omega) (by omega)
        have w6 : wrap64 (A * 131 + B * 1117 + pos * 29) = A * 131 + B * 1117 + pos * 29 := w64 (by omega) (by omega)
        have w7 : wrap64 (A * 131 + B * 1117 + pos * 29 + D * 53) = (X : Int) := by rw [w64 (by omega) (by omega)]; exact hX
        rw [w1, w2, w3, w4, w5, w6, w7]
        have w8 : wrap64 (Int.tdiv (X : Int) 64) = ((X / 64 : Nat) : Int) := by
          rw [Int.tdiv_eq_ediv_of_nonneg (by omega), w64 (by omega) (by omega)]; simp
        rw [w8, xor64 _ _ (by omega) (by omega)]

/-- A mark that is drawn; rows of them, none empty; how many there are. -/
def DMk (m : S62) : Prop := (0 ≤ m.f0 ∧ m.f0 ≤ 5) ∧ 0 ≤ m.f1 ∧ m.f1 ≤ 6
def RowsOk (x : List (List S62)) : Prop := ∀ r ∈ x, r ≠ [] ∧ ∀ m ∈ r, DMk m
def tot (x : List (List S62)) : Nat := (x.map List.length).sum
theorem tot_app (x y : List (List S62)) : tot (x ++ y) = tot x + tot y := by simp [tot]
theorem tot_cons (a : List S62) (y : List (List S62)) : tot (a :: y) = a.length + tot y := by simp [tot]
theorem tot_nil : tot [] = 0 := rfl
theorem cut1 (x : List (List S62)) (i : Nat) (h : i < x.length) : ∃ A a C, x = A ++ a :: C ∧ A.length = i :=
  ⟨x.take i, x[i], x.drop (i + 1), by rw [← List.drop_eq_getElem_cons h, List.take_append_drop], by simp; omega⟩
theorem cut2 (x : List (List S62)) (i : Nat) (h : i + 1 < x.length) : ∃ A a b C, x = A ++ a :: b :: C ∧ A.length = i :=
  ⟨x.take i, x[i], x[i + 1], x.drop (i + 1 + 1), by rw [← List.drop_eq_getElem_cons h, ← List.drop_eq_getElem_cons (by omega), List.take_append_drop], by simp; omega⟩
theorem take_at (A C : List (List S62)) (a a' : List S62) : (A ++ a :: a' :: C).take A.length = A := List.take_left
theorem drop_at (A C : List (List S62)) (a a' : List S62) : (A ++ a :: a' :: C).drop (A.length + 2) = C := by
  induction A with
  | nil => rfl
  | cons h t ih => exact ih
theorem len_at (A C : List (List S62)) (a a' : List S62) : (A ++ a :: a' :: C).length = A.length + 2 + C.length := by
  simp only [List.length_append, List.length_cons]; omega
theorem set_at (A C : List (List S62)) (a a' r : List S62) : (A ++ a :: a' :: C).set A.length r = A ++ r :: a' :: C := by
  induction A with
  | nil => rfl
  | cons h t ih => exact congrArg (h :: ·) ih
theorem rdL_at (A C : List (List S62)) (a : List S62) (i : Int) (hi : i = A.length) : rd_L3 (A ++ a :: C) i = a := by
  subst hi; simp [rd_L3, List.getD_eq_getElem?_getD]
theorem rdL_at2 (A C : List (List S62)) (a b : List S62) (i : Int) (hi : i = A.length + 1) : rd_L3 (A ++ a :: b :: C) i = b := by
  have e : A ++ a :: b :: C = (A ++ [a]) ++ b :: C := by simp
  rw [e]; exact rdL_at _ _ _ _ (by simp; omega)
theorem odd_ok {b : List Int} (hb : Bytes b) (pos n : Int) (h0 : 0 ≤ pos) (h1 : pos ≤ 1000000000) (hn : 0 ≤ n ∧ n ≤ 1000) :
    ∃ o e, (pos ≤ e ∧ e ≤ pos + 1) ∧ ∀ k, 0 < k → spec_l20Rd_odd.f k b pos n = some (o, e) := by
  by_cases h : n > 0
  · obtain ⟨r, hr, p⟩ := pick_ok hb pos n h0 h1
    refine ⟨r == wrap64 (n - 1), pos + 1, by omega, fun k hk => ?_⟩
    obtain ⟨k, rfl⟩ : ∃ m, k = m + 1 := ⟨k - 1, by omega⟩
    unfold spec_l20Rd_odd.f
    rw [if_pos h, p]; rfl
  · refine ⟨false, pos, by omega, fun k hk => ?_⟩
    unfold spec_l20Rd_odd.f
    rw [if_neg h]
theorem tj2_ok {b : List Int} (hb : Bytes b) (n : Int) (hn : 0 ≤ n ∧ n ≤ 1000) (x : List S62) (hx : x ≠ []) (hm : ∀ m ∈ x, DMk m) (hl : x.length ≤ 11) (pos : Int) (h0 : 0 ≤ pos) (h1 : pos ≤ 100000) :
    ∃ t e, ((t.length ≤ 12 ∧ ∀ m ∈ t, DMk m) ∧ pos ≤ e ∧ e ≤ pos + 3) ∧ ∀ k, 1 < k → spec_l20Term.j2 k n x b pos = some (t, e) := by
  obtain ⟨o, e, he, po⟩ := odd_ok hb pos n h0 (by omega) hn
  obtain ⟨r1, hr1, p1⟩ := pick_ok hb e 3 (by omega) (by omega)
  obtain ⟨r2, hr2, p2⟩ := pick_ok hb (e + 1) 2 (by omega) (by omega)
  have hx0 : 0 < x.length := List.length_pos_iff.2 hx
  have run : ∀ k, 1 < k → spec_l20Term.j2 k n x b pos = (if o = true then (if r1 = 0 then some ([], e + 1) else if r1 = 1 then some (x ++ [⟨5, 0⟩], e + 1) else some (x.set 0 ⟨r2, 6⟩, e + 1 + 1)) else some (x, e)) := by
    intro k hk
    obtain ⟨k, rfl⟩ : ∃ m, k = m + 2 := ⟨k - 2, by omega⟩
    rw [spec_l20Term.j2, po _ (by omega)]; simp only [Option.bind_some]
    by_cases ho : o = true
    · rw [if_pos ho, if_pos ho, p1]; simp only [Option.bind_some]
      by_cases c0 : r1 = 0
      · rw [if_pos c0, if_pos c0]
      · rw [if_neg c0, if_neg c0]
        by_cases c1 : r1 = 1
        · rw [if_pos c1, if_pos c1, if_pos (by omega)]
        · rw [if_neg c1, if_neg c1, p2]; simp only [Option.bind_some]
          rw [if_pos (by omega)]; rfl
    · rw [if_neg ho, if_neg ho]
  by_cases ho : o = true
  · by_cases c0 : r1 = 0
    · exact ⟨[], e + 1, ⟨⟨by simp, by simp⟩, by omega, by omega⟩, fun k hk => by rw [run k hk, if_pos ho, if_pos c0]⟩
    · by_cases c1 : r1 = 1
      · refine ⟨x ++ [⟨5, 0⟩], e + 1, ⟨⟨by simp; omega, fun m h => ?_⟩, by omega, by omega⟩, fun k hk => by rw [run k hk, if_pos ho, if_neg c0, if_pos c1]⟩
        rcases List.mem_append.1 h with h | h
        · exact hm m h
        · rw [List.mem_singleton.1 h]; exact ⟨by decide, by decide⟩
      · refine ⟨x.set 0 ⟨r2, 6⟩, e + 1 + 1, ⟨⟨by simp; omega, fun m h => ?_⟩, by omega, by omega⟩, fun k hk => by rw [run k hk, if_pos ho, if_neg c0, if_neg c1]⟩
        rcases List.mem_or_eq_of_mem_set h with h | h
        · exact hm m h
        · subst h; exact ⟨⟨hr2.1, by have := hr2.2.1 (by omega); show r2 ≤ 5; omega⟩, by show (0 : Int) ≤ 6 ∧ (6 : Int) ≤ 6; omega⟩
  · exact ⟨x, e, ⟨⟨by omega, hm⟩, by omega, by omega⟩, fun k hk => by rw [run k hk, if_neg ho]⟩
theorem pick_ok' {b : List Int} (hb : Bytes b) (pos n : Int) (h0 : 0 ≤ pos) (h1 : pos ≤ 1000000000) :
    ∃ r, (0 ≤ r ∧ (1 ≤ n → r < n) ∧ (n < 1 → r = 0)) ∧ ∀ k, 0 < k → spec_l20Rd_pick.f k b pos n = some (r, pos + 1) := by
  obtain ⟨r, hr, p⟩ := pick_ok hb pos n h0 h1
  refine ⟨r, hr, fun k hk => ?_⟩
  obtain ⟨k, rfl⟩ : ∃ m, k = m + 1 := ⟨k - 1, by omega⟩
  exact p k
theorem DMk0 {f : Int} (h0 : 0 ≤ f) (h1 : f ≤ 5) : DMk (⟨f, 0⟩ : S62) := ⟨⟨h0, h1⟩, Int.le_refl 0, by show (0 : Int) ≤ 6; omega⟩
theorem all_app {P : S62 → Prop} {x y : List S62} (hx : ∀ m ∈ x, P m) (hy : ∀ m ∈ y, P m) : ∀ m ∈ x ++ y, P m := fun m h => by
  rcases List.mem_append.1 h with h | h
  · exact hx m h
  · exact hy m h
theorem all_one {P : S62 → Prop} {a : S62} (h : P a) : ∀ m ∈ [a], P m := fun m hm => by rw [List.mem_singleton.1 hm]; exact h
theorem rows_app {x y : List (List S62)} (hx : RowsOk x) (hy : RowsOk y) : RowsOk (x ++ y) := fun r h => by
  rcases List.mem_append.1 h with h | h
  · exact hx r h
  · exact hy r h
theorem rows_cons {a : List S62} {y : List (List S62)} (h0 : a ≠ []) (ha : ∀ m ∈ a, DMk m) (hy : RowsOk y) : RowsOk (a :: y) := fun r h => by
  rcases List.mem_cons.1 h with h | h
  · rw [h]; exact ⟨h0, ha⟩
  · exact hy r h
theorem rows_nil : RowsOk [] := fun r h => by cases h
theorem snoc_ne (a : List S62) (m : S62) : a ++ [m] ≠ [] := by simp
theorem tl1_end {b : List Int} (hb : Bytes b) (n : Int) (hn : 0 ≤ n ∧ n ≤ 1000) (x : List (List S62)) (c pos : Int) (h1 : x.length = 1) (hr : RowsOk x) (ht : tot x ≤ 10) (h0 : 0 ≤ pos) (hp : pos ≤ 50000) :
    ∃ t e, ((t.length ≤ 12 ∧ ∀ m ∈ t, DMk m) ∧ pos ≤ e ∧ e ≤ pos + 4) ∧ ∀ k, 3 < k → spec_l20Term.l1 k n x c b pos = some (t, e) := by
  obtain ⟨A, a, C, hx, hA⟩ := cut1 x 0 (by omega)
  have hxa : rd_L3 x 0 = a := by rw [hx]; exact rdL_at _ _ _ _ (by omega)
  have ha := hr a (by rw [hx]; simp)
  have htt : tot x = tot A + (a.length + tot C) := by rw [hx, tot_app, tot_cons]
  obtain ⟨r, hr5, p5⟩ := pick_ok' hb pos 5 h0 (by omega)
  by_cases c0 : r = 0
  · obtain ⟨t, e, hte, hk⟩ := tj2_ok hb n hn (a ++ [⟨2, 0⟩]) (snoc_ne _ _) (all_app ha.2 (all_one (DMk0 (by omega) (by omega)))) (by rw [List.length_append]; show a.length + 1 ≤ 11; omega) (pos + 1) (by omega) (by omega)
    refine ⟨t, e, ⟨hte.1, by omega, by omega⟩, fun k hk' => ?_⟩
    obtain ⟨k, rfl⟩ : ∃ m, k = m + 1 := ⟨k - 1, by omega⟩
    rw [spec_l20Term.l1, if_neg (by omega), if_pos (by omega), p5 k (by omega), Option.bind_some, if_pos c0, hxa, if_pos (by omega)]
    exact hk k (by omega)
  · obtain ⟨t, e, hte, hk⟩ := tj2_ok hb n hn a ha.1 ha.2 (by omega) (pos + 1) (by omega) (by omega)
    refine ⟨t, e, ⟨hte.1, by omega, by omega⟩, fun k hk' => ?_⟩
    obtain ⟨k, rfl⟩ : ∃ m, k = m + 1 := ⟨k - 1, by omega⟩
    rw [spec_l20Term.l1, if_neg (by omega), if_pos (by omega), p5 k (by omega), Option.bind_some, if_neg c0, hxa]
    exact hk k (by omega)
theorem tl1_ok {b : List Int} (hb : Bytes b) (n : Int) (hn : 0 ≤ n ∧ n ≤ 1000) (d : Nat) : ∀ (x : List (List S62)) (c : Nat) (pos : Int), 1 ≤ x.length → x.length + c ≤ d + 1 → RowsOk x → tot x + x.length + c ≤ 11 → 0 ≤ pos → pos + 3 * d ≤ 50000 →
    ∃ t e, ((t.length ≤ 12 ∧ ∀ m ∈ t, DMk m) ∧ pos ≤ e ∧ e ≤ pos + 3 * d + 4) ∧ ∀ k, d + 3 < k → spec_l20Term.l1 k n x (c : Int) b pos = some (t, e) := by
  induction d with
  | zero =>
    intro x c pos h1 h2 hr ht h0 hp
    obtain ⟨t, e, hte, hk⟩ := tl1_end hb n hn x c pos (by omega) hr (by omega) h0 (by omega)
    exact ⟨t, e, ⟨hte.1, by omega, by omega⟩, fun k hk' => hk k (by omega)⟩
  | succ d ih =>
    intro x c pos h1 h2 hr ht h0 hp
    by_cases hx1 : x.length = 1
    · obtain ⟨t, e, hte, hk⟩ := tl1_end hb n hn x c pos (by omega) hr (by omega) h0 (by omega)
      exact ⟨t, e, ⟨hte.1, by omega, by omega⟩, fun k hk' => hk k (by omega)⟩
    · obtain ⟨i, hi, p1⟩ := pick_ok' hb pos ((x.length : Int) - 1) h0 (by omega)
      obtain ⟨i, rfl⟩ := Int.eq_ofNat_of_zero_le hi.1
      have hi1 : i + 1 < x.length := by have := hi.2.1 (by omega); omega
      clear hi
      obtain ⟨A, a, a', C, hx, hA⟩ := cut2 x i hi1
      have hd : rd_L3 x (i : Int) = a := by rw [hx]; exact rdL_at _ _ _ _ (by omega)
      have hd2 : rd_L3 x ((i : Int) + 1) = a' := by rw [hx]; exact rdL_at2 _ _ _ _ _ (by omega)
      have hin : (i : Int).toNat = A.length := by rw [hA]; exact Int.toNat_natCast i
      have hin2 : ((i : Int) + 2).toNat = A.length + 2 := by rw [hA]; exact Int.toNat_natCast (i + 2)
      have htake : x.take (i : Int).toNat = A := by rw [hin, hx]; exact take_at _ _ _ _
      have hdrop : x.drop ((i : Int) + 2).toNat = C := by rw [hin2, hx]; exact drop_at _ _ _ _
      have hxlen : x.length = A.length + 2 + C.length := by rw [hx]; exact len_at _ _ _ _
      have ha := hr a (by rw [hx]; exact List.mem_append_right _ List.mem_cons_self)
      have ha' := hr a' (by rw [hx]; exact List.mem_append_right _ (List.mem_cons_of_mem _ List.mem_cons_self))
      have hrA : RowsOk A := fun r h => hr r (by rw [hx]; exact List.mem_append_left _ h)
      have hrC : RowsOk C := fun r h => hr r (by rw [hx]; exact List.mem_append_right _ (List.mem_cons_of_mem _ (List.mem_cons_of_mem _ h)))
      have htot : tot x = tot A + (a.length + (a'.length + tot C)) := by rw [hx, tot_app, tot_cons, tot_cons]
      have hl1 : a.length ≤ 11 := by omega
      have hl2 : a'.length ≤ 11 := by omega
      have join : ∀ q : Int, pos ≤ q → q ≤ pos + 2 → ∃ v t e, (0 ≤ v ∧ v < 3) ∧ (∀ k, 0 < k → spec_l20Rd_pick.f k b q 3 = some (v, q + 1)) ∧ ((t.length ≤ 12 ∧ ∀ m ∈ t, DMk m) ∧ pos ≤ e ∧ e ≤ pos + 3 * (d + 1 : Nat) + 4) ∧ ∀ k, d + 3 < k → spec_l20Term.l1 k n (A ++ [a ++ a' ++ [(⟨3 + v, 0⟩ : S62)]] ++ C) (c : Int) b (q + 1) = some (t, e) := by
        intro q hq1 hq2
        obtain ⟨v, hv, p3⟩ := pick_ok' hb q 3 (by omega) (by omega)
        have hv3 := hv.2.1 (by omega)
        have hlen : (A ++ [a ++ a' ++ [(⟨3 + v, 0⟩ : S62)]] ++ C).length = A.length + 1 + C.length := by simp only [List.length_append, List.length_cons, List.length_nil]; try omega
        have htt : tot (A ++ [a ++ a' ++ [(⟨3 + v, 0⟩ : S62)]] ++ C) = tot A + (a.length + a'.length + 1) + tot C := by
          simp only [tot_app, tot_cons, tot_nil, List.length_append, List.length_cons, List.length_nil]; try omega
        obtain ⟨t, e, hte, hk⟩ := ih (A ++ [a ++ a' ++ [(⟨3 + v, 0⟩ : S62)]] ++ C) c (q + 1) (by omega) (by omega) (rows_app (rows_app hrA (rows_cons (snoc_ne _ _) (all_app (all_app ha.2 ha'.2) (all_one (DMk0 (by omega) (by omega)))) rows_nil)) hrC) (by omega) (by omega) (by omega)
        exact ⟨v, t, e, ⟨hv.1, hv3⟩, p3, ⟨hte.1, by omega, by omega⟩, hk⟩
      have fin : ∀ (k : Nat) (q v : Int), d + 3 < k → (0 ≤ v ∧ v < 3) → (∀ k, 0 < k → spec_l20Rd_pick.f k b q 3 = some (v, q + 1)) → ((some (([] : List (S62)) : List (S62))).bind fun y206 => (if 0 ≤ (i : Int) then (if (i : Int) < (x.length : Int) then (if y206.length + (rd_L3 x (i : Int)).length < 8796093022208 then ((some (y206 ++ (rd_L3 x (i : Int)) : List (S62))).bind fun y210 => (if 0 ≤ (wrap64 ((i : Int) + 1)) then (if (wrap64 ((i : Int) + 1)) < (x.length : Int) then (if y210.length + (rd_L3 x (wrap64 ((i : Int) + 1))).length < 8796093022208 then ((some (y210 ++ (rd_L3 x (wrap64 ((i : Int) + 1))) : List (S62))).bind fun y214 => ((spec_l20Rd_pick.f k b q 3).bind fun bt217 => (if y214.length < 8796093022208 then ((some (([] : List (List (S62))) : List (List (S62)))).bind fun y222 => (if (i : Int) ≤ (x.length : Int) then ((some (x.take ((i : Int) : Int).toNat : List (List (S62)))).bind fun y225 => (if y222.length + y225.length < 5864062014805 then ((some (y222 ++ y225 : List (List (S62)))).bind fun y229 => (if y229.length < 5864062014805 then ((some (y229 ++ [(y214 ++ [(⟨wrap64 (3 + bt217.1), 0⟩ : S62)])] : List (List (S62)))).bind fun y232 => (if 0 ≤ (wrap64 ((i : Int) + 2)) then (if (wrap64 ((i : Int) + 2)) ≤ (x.length : Int) then ((some (x.drop ((wrap64 ((i : Int) + 2)) : Int).toNat : List (List (S62)))).bind fun y235 => (if y232.length + y235.length < 5864062014805 then (spec_l20Term.l1 k n (y232 ++ y235) (c : Int) b bt217.2) else (none))) else (none)) else (none))) else (none))) else (none))) else (none))) else (none)))) else (none)) else (none)) else (none))) else (none)) else (none)) else (none))) = spec_l20Term.l1 k n (A ++ [a ++ a' ++ [(⟨3 + v, 0⟩ : S62)]] ++ C) (c : Int) b (q + 1) := by
        intro k q v hk hv p3
        simp only [Option.bind_some, w64 (x := (i : Int) + 1) (by omega) (by omega), w64 (x := (i : Int) + 2) (by omega) (by omega), hd, hd2, htake, hdrop, List.nil_append, List.length_nil, Nat.zero_add]
        have e1 : (a ++ a').length ≤ 22 := by rw [List.length_append]; omega
        have e2 : (A ++ [a ++ a' ++ [(⟨wrap64 (3 + v), 0⟩ : S62)]]).length = A.length + 1 := by simp only [List.length_append, List.length_cons, List.length_nil]
        rw [if_pos (by omega), if_pos (by omega), if_pos (by omega), if_pos (by omega), if_pos (by omega), if_pos (by omega), p3 k (by omega), Option.bind_some]
        rw [if_pos (by omega), if_pos (by omega), if_pos (by omega), if_pos (by omega), if_pos (by omega), if_pos (by omega), if_pos (by rw [e2]; omega), w64 (x := 3 + v) (by omega) (by omega)]
      by_cases hc : c = 0
      · obtain ⟨v, t, e, hv, p3, hte, hk⟩ := join (pos + 1) (by omega) (by omega)
        refine ⟨t, e, hte, fun k hk' => ?_⟩
        obtain ⟨k, rfl⟩ : ∃ m, k = m + 1 := ⟨k - 1, by omega⟩
        rw [spec_l20Term.l1, if_pos (by omega), w64 (x := (x.length : Int) - 1) (by omega) (by omega), p1 k (by omega), Option.bind_some, if_neg (by omega), ← hk k (by omega)]
        exact fin k (pos + 1) v (by omega) hv p3
      · obtain ⟨r2, hr2, p2⟩ := pick_ok' hb (pos + 1) 4 (by omega) (by omega)
        by_cases c0 : r2 = 0
        · obtain ⟨c, rfl⟩ : ∃ m, c = m + 1 := ⟨c - 1, by omega⟩
          have hlen : (A ++ (a ++ [(⟨2, 0⟩ : S62)]) :: a' :: C).length = A.length + 2 + C.length := by simp only [List.length_append, List.length_cons]; try omega
          have htt : tot (A ++ (a ++ [(⟨2, 0⟩ : S62)]) :: a' :: C) = tot A + (a.length + 1 + (a'.length + tot C)) := by simp only [tot_app, tot_cons, List.length_append, List.length_cons, List.length_nil]; try omega
          obtain ⟨t, e, hte, hk⟩ := ih (A ++ (a ++ [(⟨2, 0⟩ : S62)]) :: a' :: C) c (pos + 1 + 1) (by omega) (by omega) (rows_app hrA (rows_cons (snoc_ne _ _) (all_app ha.2 (all_one (DMk0 (by omega) (by omega)))) (rows_cons ha'.1 ha'.2 hrC))) (by omega) (by omega) (by omega)
          refine ⟨t, e, ⟨hte.1, by omega, by omega⟩, fun k hk' => ?_⟩
          obtain ⟨k, rfl⟩ : ∃ m, k = m + 1 := ⟨k - 1, by omega⟩
          have hset : x.set (i : Int).toNat (a ++ [(⟨2, 0⟩ : S62)]) = A ++ (a ++ [(⟨2, 0⟩ : S62)]) :: a' :: C := by
            rw [hin, hx]; exact set_at _ _ _ _ _
          rw [spec_l20Term.l1, if_pos (by omega), w64 (x := (x.length : Int) - 1) (by omega) (by omega), p1 k (by omega), Option.bind_some, if_pos (by omega), p2 k (by omega), Option.bind_some, if_pos c0]
          simp only [Option.bind_some, hd, List.nil_append, List.length_nil, Nat.zero_add]
          rw [if_pos (by omega), if_pos (by omega), if_pos (by omega), if_pos (by omega), hset, w64 (by omega) (by omega), show ((c + 1 : Nat) : Int) - 1 = (c : Int) by omega]
          exact hk k (by omega)
        · obtain ⟨v, t, e, hv, p3, hte, hk⟩ := join (pos + 1 + 1) (by omega) (by omega)
          refine ⟨t, e, hte, fun k hk' => ?_⟩
          obtain ⟨k, rfl⟩ : ∃ m, k = m + 1 := ⟨k - 1, by omega⟩
          rw [spec_l20Term.l1, if_pos (by omega), w64 (x := (x.length : Int) - 1) (by omega) (by omega), p1 k (by omega), Option.bind_some, if_pos (by omega), p2 k (by omega), Option.bind_some, if_neg c0, ← hk k (by omega)]
          exact fin k (pos + 1 + 1) v (by omega) hv p3
theorem tl0_ok {b : List Int} (hb : Bytes b) (p n : Int) (hp : 1 ≤ p ∧ p ≤ 4) (hn : 0 ≤ n ∧ n ≤ 1000) (d : Nat) : ∀ (x : List (List S62)) (pos : Int), 1 ≤ x.length + d → x.length + d ≤ 4 → RowsOk x → tot x = x.length → 0 ≤ pos → pos + 2 * d ≤ 10000 →
    ∃ t e, ((t.length ≤ 12 ∧ ∀ m ∈ t, DMk m) ∧ pos ≤ e ∧ e ≤ pos + 2 * d + 25) ∧ ∀ k, d + 11 < k → spec_l20Term.l0 k p n x (d : Int) b pos = some (t, e) := by
  induction d with
  | zero =>
    intro x pos h1 h2 hr ht h0 hp'
    obtain ⟨t, e, hte, hk⟩ := tl1_ok hb n hn 6 x 3 pos (by omega) (by omega) hr (by omega) h0 (by omega)
    refine ⟨t, e, ⟨hte.1, by omega, by omega⟩, fun k hk' => ?_⟩
    obtain ⟨k, rfl⟩ : ∃ m, k = m + 1 := ⟨k - 1, by omega⟩
    rw [spec_l20Term.l0, if_neg (by omega)]
    exact hk k (by omega)
  | succ d ih =>
    intro x pos h1 h2 hr ht h0 hp'
    obtain ⟨r1, hr1, p1⟩ := pick_ok' hb pos 4 h0 (by omega)
    have e1 : ((d + 1 : Nat) : Int) - 1 = (d : Int) := by omega
    by_cases c0 : r1 = 0
    · obtain ⟨r2, hr2, p2⟩ := pick_ok' hb (pos + 1) (p + 2) (by omega) (by omega)
      have := hr2.2.1 (by omega)
      obtain ⟨t, e, hte, hk⟩ := ih (x ++ [[(⟨1, r2⟩ : S62)]]) (pos + 1 + 1) (by simp; omega) (by simp; omega) (rows_app hr (rows_cons (by simp) (all_one ⟨by show 0 ≤ (1 : Int) ∧ (1 : Int) ≤ 5; omega, by show 0 ≤ r2 ∧ r2 ≤ 6; omega⟩) rows_nil)) (by rw [tot_app, ht]; simp [tot]) (by omega) (by omega)
      refine ⟨t, e, ⟨hte.1, by omega, by omega⟩, fun k hk' => ?_⟩
      obtain ⟨k, rfl⟩ : ∃ m, k = m + 1 := ⟨k - 1, by omega⟩
      rw [spec_l20Term.l0, if_pos (by omega), p1 k (by omega)]; simp only [Option.bind_some]
      rw [if_pos c0, w64 (x := p + 2) (by omega) (by omega), p2 k (by omega)]; simp only [Option.bind_some]
      rw [if_pos (by omega), w64 (by omega) (by omega), e1]
      exact hk k (by omega)
    · obtain ⟨r2, hr2, p2⟩ := pick_ok' hb (pos + 1) p (by omega) (by omega)
      have := hr2.2.1 (by omega)
      obtain ⟨t, e, hte, hk⟩ := ih (x ++ [[(⟨0, r2⟩ : S62)]]) (pos + 1 + 1) (by simp; omega) (by simp; omega) (rows_app hr (rows_cons (by simp) (all_one ⟨by show 0 ≤ (0 : Int) ∧ (0 : Int) ≤ 5; omega, by show 0 ≤ r2 ∧ r2 ≤ 6; omega⟩) rows_nil)) (by rw [tot_app, ht]; simp [tot]) (by omega) (by omega)
      refine ⟨t, e, ⟨hte.1, by omega, by omega⟩, fun k hk' => ?_⟩
      obtain ⟨k, rfl⟩ : ∃ m, k = m + 1 := ⟨k - 1, by omega⟩
      rw [spec_l20Term.l0, if_pos (by omega), p1 k (by omega)]; simp only [Option.bind_some]
      rw [if_neg c0, p2 k (by omega)]; simp only [Option.bind_some]
      rw [if_pos (by omega), w64 (by omega) (by omega), e1]
      exact hk k (by omega)
/-- The term that is drawn. -/
theorem l20Term_ok {b : List Int} (hb : Bytes b) (pos p n : Int) (h0 : 0 ≤ pos) (h1 : pos ≤ 5000) (hn : 0 ≤ n ∧ n ≤ 1000) :
    ∃ t e, ((t.length ≤ 12 ∧ ∀ m ∈ t, DMk m) ∧ pos ≤ e ∧ e ≤ pos + 40) ∧ ∀ k, 16 < k → spec_l20Term.f k b pos p n = some (t, e) := by
  obtain ⟨r, hr, p1⟩ := pick_ok' hb pos 4 h0 (by omega)
  have hr4 := hr.2.1 (by omega)
  have hm : 1 ≤ mn (mx p 1) 4 ∧ mn (mx p 1) 4 ≤ 4 := by unfold mn mx; (repeat' split) <;> omega
  obtain ⟨d, hd⟩ : ∃ d : Nat, 1 + r = (d : Int) := Int.eq_ofNat_of_zero_le (by omega)
  obtain ⟨t, e, hte, hk⟩ := tl0_ok hb (mn (mx p 1) 4) n hm hn d [] (pos + 1) (by simp; omega) (by simp; omega) (fun r h => by cases h) rfl (by omega) (by omega)
  refine ⟨t, e, ⟨hte.1, by omega, by omega⟩, fun k hk' => ?_⟩
  unfold spec_l20Term.f
  rw [p1 k (by omega)]; simp only [Option.bind_some]
  rw [w64 (by omega) (by omega), hd]
  exact hk k (by omega)

theorem DMk_W {m : S62} (h : DMk m) : -9223372036854775808 ≤ m.f0 ∧ m.f0 ≤ 9223372036854775807 ∧ -9223372036854775808 ≤ m.f1 ∧ m.f1 ≤ 9223372036854775807 := by
  obtain ⟨h0, h1⟩ := h
  omega

/-- A text is that of one term. -/
theorem PE_one {f : Nat → ByteArray → Option RdT} {s : ByteArray} {v w : RdT} (h : PE f s v) (g : PE f s w) : v = w := by
  obtain ⟨k1, h1⟩ := h
  obtain ⟨k2, h2⟩ := g
  have e := h1 (k1 + k2) (by omega)
  rw [h2 _ (by omega)] at e
  exact (Option.some.inj e).symm
theorem tx_inj {p : Int} (hp : 1 ≤ p ∧ p ≤ 4) {a b : List S62} (ha : Tm p a) (hb : Tm p b) (la : a.length ≤ 1000) (lb : b.length ≤ 1000) (e : (tx a).1 = (tx b).1) : a = b := by
  obtain ⟨r, _, h⟩ := same_comp hp a ha la
  obtain ⟨q, _, g⟩ := same_comp hp b hb lb
  rw [e] at h
  exact congrArg (fun x => x.1) (PE_one h g)
/-- In brackets it is that of none. -/
theorem tx_paren {p : Int} (hp : 1 ≤ p ∧ p ≤ 4) {a b : List S62} (ha : Tm p a) (hb : Tm p b) (la : a.length ≤ 1000) (lb : b.length ≤ 1000) : (tx b).1 ≠ b1 40 ++ ((tx a).1 ++ b1 41) := by
  intro e
  obtain ⟨r, _, h⟩ := paren_comp hp a ha la
  obtain ⟨q, _, g⟩ := same_comp hp b hb lb
  rw [e] at g
  have eq : a = b := congrArg (fun x => x.1) (PE_one h g)
  rw [eq] at e
  have := congrArg ByteArray.size e
  rw [cons_size, ByteArray.size_append, b1_size] at this
  omega

def WOk (p w : Int) : Prop := 1 ≤ p ∧ p ≤ 4 ∧ 0 ≤ w ∧ w < pw p
instance (p w : Int) : Decidable (WOk p w) := by unfold WOk; infer_instance
theorem iworld (p w : Int) : impl_WorldOk.f p w = some (decide (WOk p w)) := by
  unfold impl_WorldOk.f
  rw [people_eq, Option.bind_some]
  by_cases h : 1 ≤ p ∧ p ≤ 4
  · rw [if_pos (by simpa using h)]
    by_cases h2 : w ≥ 0
    · rw [if_pos h2, if_pos (by omega), shl_pw h.1 h.2]; congr 1; rw [decide_eq_decide]; unfold WOk; omega
    · rw [if_neg h2]; congr 1; symm; rw [decide_eq_false_iff_not]; unfold WOk; omega
  · rw [if_neg (by simpa using h)]; congr 1; symm; rw [decide_eq_false_iff_not]; unfold WOk; omega

theorem alive_eq : laws_alive.f = some true := by
  unfold laws_alive.f
  rw [iworld, Option.bind_some, if_pos (by decide), iworld, Option.bind_some]
  decide

/-! ### the law -/
theorem rdOf_one (i : Nat) (hi : i < 9) : ∃ z, rdOf ByteArray.empty [(⟨#[]⟩ : ByteArray), (⟨#[40]⟩ : ByteArray), (⟨#[41]⟩ : ByteArray), (⟨#[38]⟩ : ByteArray), (⟨#[124]⟩ : ByteArray), (⟨#[61]⟩ : ByteArray), (⟨#[33]⟩ : ByteArray), (⟨#[97]⟩ : ByteArray), (⟨#[54]⟩ : ByteArray)] (i : Int) = z ∧ z.size ≤ 1 := by
  refine ⟨_, rfl, ?_⟩
  rcases (by omega : i = 0 ∨ i = 1 ∨ i = 2 ∨ i = 3 ∨ i = 4 ∨ i = 5 ∨ i = 6 ∨ i = 7 ∨ i = 8) with rfl | rfl | rfl | rfl | rfl | rfl | rfl | rfl | rfl <;> decide
theorem drawRead_ok (l : List Int) (h : ∀ x ∈ l, (Lit.int .u8 x).wf = true) : ∃ p s, ((1 ≤ p ∧ p ≤ 4) ∧ s.size ≤ 200) ∧ ∀ k, 500 < k → spec_DrawReadTerm.f k l = some (p, s) := by
  obtain ⟨b, hb, ho⟩ := open_ok l h
  obtain ⟨r0, h0, p0⟩ := pick_ok' hb 0 4 (by omega) (by omega)
  have a0 := h0.2.1 (by omega)
  obtain ⟨t, e, hte, hk⟩ := l20Term_ok hb (0 + 1) (1 + r0) 0 (by omega) (by omega) (by omega)
  obtain ⟨r1, h1, p1⟩ := pick_ok' hb e 3 (by omega) (by omega)
  have hm : ∀ m ∈ t, MarkW m := fun m h => DMk_W (hte.1.2 m h)
  have h12 := hte.1.1
  have hs : (txT (1 + r0) t).size ≤ 75 := by
    unfold txT
    by_cases hT : TermB (1 + r0) t
    · rw [if_pos hT]; have := tx_size t hT.2.2.2; omega
    · rw [if_neg hT]; exact Nat.zero_le _
  have start : ∀ k, 500 < k → spec_DrawReadTerm.f k l = if r1 = 0 then spec_DrawReadTerm.j0 k (1 + r0) (txT (1 + r0) t) (decide (((txT (1 + r0) t).size : Int) > 0)) b (e + 1) else spec_DrawReadTerm.j0 k (1 + r0) (txT (1 + r0) t) false b (e + 1) := by
    intro k hk'
    unfold spec_DrawReadTerm.f
    rw [ho]; simp only [Option.bind_some]
    rw [p0 k (by omega)]; simp only [Option.bind_some]
    rw [w64 (x := 1 + r0) (by omega) (by omega), hk k (by omega)]; simp only [Option.bind_some]
    rw [stermtext (1 + r0) (by omega) t (by omega) hm k (by omega)]; simp only [Option.bind_some]
    rw [p1 k (by omega)]; rfl
  have plain : ∀ k, 500 < k → spec_DrawReadTerm.j0 k (1 + r0) (txT (1 + r0) t) false b (e + 1) = some (1 + r0, txT (1 + r0) t) := by
    intro k hk'
    obtain ⟨k, rfl⟩ : ∃ m, k = m + 1 := ⟨k - 1, by omega⟩
    rw [spec_DrawReadTerm.j0, if_neg (by decide)]
  by_cases c : r1 = 0 ∧ ((txT (1 + r0) t).size : Int) > 0
  · obtain ⟨r2, h2, p2⟩ := pick_ok' hb (e + 1) ((txT (1 + r0) t).size : Int) (by omega) (by omega)
    have a2 := h2.2.1 (by omega)
    obtain ⟨r3, h3, p3⟩ := pick_ok' hb (e + 1 + 1) 9 (by omega) (by omega)
    have a3 := h3.2.1 (by omega)
    obtain ⟨r4, h4, p4⟩ := pick_ok' hb (e + 1 + 1 + 1) 2 (by omega) (by omega)
    have a4 := h4.2.1 (by omega)
    obtain ⟨n3, rfl⟩ := Int.eq_ofNat_of_zero_le h3.1
    obtain ⟨z, ez, hz⟩ := rdOf_one n3 (by omega)
    have s1 : ((txT (1 + r0) t).extract 0 r2.toNat).size ≤ (txT (1 + r0) t).size := by rw [ByteArray.size_extract]; omega
    have s2 : ((txT (1 + r0) t).extract (r2 + r4).toNat (txT (1 + r0) t).size).size ≤ (txT (1 + r0) t).size := by rw [ByteArray.size_extract]; omega
    refine ⟨1 + r0, (txT (1 + r0) t).extract 0 r2.toNat ++ z ++ (txT (1 + r0) t).extract (r2 + r4).toNat (txT (1 + r0) t).size, ⟨by omega, by rw [ByteArray.size_append, ByteArray.size_append]; omega⟩, fun k hk' => ?_⟩
    rw [start k hk', if_pos c.1, decide_eq_true c.2]
    obtain ⟨k, rfl⟩ : ∃ m, k = m + 1 := ⟨k - 1, by omega⟩
    rw [spec_DrawReadTerm.j0, if_pos rfl, p2 k (by omega)]; simp only [Option.bind_some]
    rw [if_pos h2.1, if_pos (by omega), p3 k (by omega)]; simp only [Option.bind_some]
    rw [ez, if_pos (by omega), if_pos (by simp only [List.length_cons, List.length_nil]; omega), if_pos (by omega), p4 k (by omega)]; simp only [Option.bind_some]
    rw [w64 (x := r2 + r4) (by omega) (by omega), if_pos (by omega), if_pos (by omega), if_pos (by rw [ByteArray.size_append]; omega)]
  · refine ⟨1 + r0, txT (1 + r0) t, ⟨by omega, by omega⟩, fun k hk' => ?_⟩
    rw [start k hk']
    by_cases c1 : r1 = 0
    · rw [if_pos c1, decide_eq_false (fun hh => c ⟨c1, hh⟩)]; exact plain k hk'
    · rw [if_neg c1]; exact plain k hk'
theorem FnReadTerm : laws_FnReadTerm.Pure := by
  intro l _ _ h
  obtain ⟨p, s, hb, hk⟩ := drawRead_ok l h
  refine ⟨1000, ?_⟩
  unfold laws_FnReadTerm.f
  by_cases hl : (l.length : Int) > 1048576
  · rw [if_pos hl]
  · have hlen := readR_len p s
    have b0 : ((readR p s).2 != (readR p s).2) = false := by simp
    rw [if_neg hl, hk 1000 (by omega)]; simp only [Option.bind_some]
    rw [ireadt p s 1000 (by omega)]; simp only [Option.bind_some]
    rw [sreadt p (by omega) s 1000 (by omega)]; simp only [Option.bind_some]
    rw [sameMarks_self _ (by omega) 1000 (by omega), Option.bind_some, if_pos rfl, b0, laws_FnReadTerm.j0, if_neg (by decide)]
    by_cases hh : ∃ t : List S62, TermB p t ∧ (tx t).1 = s ∧ s.size ≤ 60
    · obtain ⟨t, hT, et, _, er⟩ := readR_yes hh
      have h15 := hT.2.2.1
      have e1 : (⟨#[40]⟩ : ByteArray).size = 1 := rfl
      have eq : readR p (((⟨#[40]⟩ : ByteArray) ++ s) ++ (⟨#[41]⟩ : ByteArray)) = ([], false) := readR_no (fun ⟨t2, hT2, et2, _⟩ => by
        have := hT2.2.2.1
        refine tx_paren ⟨hT.1, hT.2.1⟩ hT.2.2.2 hT2.2.2.2 (by omega) (by omega) ?_
        rw [et2, et, ByteArray.append_assoc]; rfl)
      have ett : txT p t = s := by unfold txT; rw [if_pos hT, et]
      rw [er, if_pos rfl, if_pos (by omega), if_pos (by rw [ByteArray.size_append]; omega), ireadt p _ 999 (by omega), eq]
      simp only [Option.bind_some]
      rw [itermtext p t 999 (by omega), Option.bind_some, ett, if_pos rfl, itermok p t 999 (by omega), Option.bind_some, if_pos (by simpa using hT)]; rfl
    · rw [readR_no hh, if_neg (by simp), if_pos (by rfl), alive_eq]; rfl

end Go.Proofs.Ytfhmafmfaoknlaa.Pure
