-- Made by a program of this session (wip/tools/patchprint.py), not by the kit itself.
import Derived.Test.YtigkmppgbaoafaaPFnSameOkx0
import Derived.Test.YtigkmppgbaoafaaPFnSameOkx2
import Derived.Test.YtigkmppgbaoafaaPFnSameOkx4
namespace Go.Proofs.Ytigkmppgbaoafaa.PFnSameOk
open Go.RowKit Go.Proofs.YtigkmppgbaoafaaW.PrintWords Go.Proofs.YtigkmppgbaoafaaW.PrintLast Go.Proofs.YtigkmppgbaoafaaW.PrintMore
attribute [local go_sem] max2_int min2_int max_two min_two max_three min_three max_four min_four   -- for this text's walks alone
set_option linter.unusedVariables false
set_option linter.unusedSimpArgs false

attribute [local go_sem] setCell_isSome
/-! ### impl_AlwaysOk: function 40 -/
def impl_AlwaysOk.f (k : Nat) (a0 : Int) (l1 : List (S41)) : Option (Bool) := (impl_TermOk.f k a0 l1).bind fun t337 => (if t337 = true then ((impl_TableOf.f k a0 l1).bind fun t338 => (if 0 ≤ a0 then (some (t338 == (wrap64 ((shl .i64 1 (shl .u64 1 a0)) - 1)))) else (none))) else (some false))
theorem impl_AlwaysOk.mono : ∀ a0 a1 k, LeO (impl_AlwaysOk.f k a0 a1) (impl_AlwaysOk.f (k + 1) a0 a1) := by
 intro a0 a1 k
 unfold impl_AlwaysOk.f
 repeat' first
   | (with_reducible exact impl_TableOf.mono _ _ _)
   | (with_reducible exact impl_TermOk.mono _ _ _)
   | (with_reducible exact LeO.refl _)
   | (with_reducible exact LeO.none _)
   | (with_reducible refine LeO.ite ?_ ?_)
   | (with_reducible refine LeO.bind ?_ (fun _ => ?_))
   | exact impl_TableOf.mono _ _ _
   | exact impl_TermOk.mono _ _ _
   | exact LeO.none _
   | refine LeO.ite ?_ ?_
   | refine LeO.bind ?_ (fun _ => ?_)
def impl_AlwaysOk.T1 : Bool × List (List Nat × List Nat) := (true, [([], []), ([], []), ([0, 1], [0, 1]), ([2, 2], [2]), ([3], [3]), ([3], [3]), ([4, 5, 3, 3], [3, 4, 5]), ([3], [3]), ([7, 3], [3, 7]), ([8, 3], [3, 8]), ([9, 3], [3, 9]), ([6, 10, 3], [3, 6, 10]), ([3, 11], [3, 11]), ([12, 6, 0, 1, 2, 3, 4, 5, 6, 7, 8, 9, 10, 11, 12], [12])])
def impl_AlwaysOk.B1 : List Nat := [0, 0, 3, 7, 15, 15, 63, 15, 143, 399, 911, 2047, 4095, 8191]
theorem impl_AlwaysOk.tab1 : rtab .any (opsOf Try.f40 1) = impl_AlwaysOk.T1 := by kernel_rfl
theorem impl_AlwaysOk.bits1 : waitsOk impl_AlwaysOk.T1.2 impl_AlwaysOk.B1 = true := by kernel_rfl
set_option maxHeartbeats 8000000 in
set_option maxRecDepth 100000 in
theorem impl_AlwaysOk.calls (k : Nat) (a0 : Int) (A1 : Option Addr) (c1 : Nat) (l1 : List (S41)) (r : Bool) (w : World) (hr1 : Kd.C k41 w A1 l1.length l1) (hc1 : l1.length ≤ c1) (h : impl_AlwaysOk.f k a0 l1 = some r) :
  Calls Try.prog 40 #[.int .i64 a0, .slice A1 l1.length c1] w fun e w' => e = .returned (.bool r) ∧ Below w.heap.size w w' := by
 have HR1 := Aside0.mk hr1
 have HC1 := Aside0.mk hc1
 clear hr1 hc1
 have HB := Aside0.mk (Below.refl w.heap.size w)
 have H : ((impl_TermOk.f k a0 l1).bind fun t337 => (if t337 = true then ((impl_TableOf.f k a0 l1).bind fun t338 => (if 0 ≤ a0 then (some (t338 == (wrap64 ((shl .i64 1 (shl .u64 1 a0)) - 1)))) else (none))) else (some false))) = some r := h
 clear h
 replace H := Option.bind_eq_some_iff.mp H
 obtain ⟨t337, A30, H⟩ := H
 replace H : (if t337 = true then ((impl_TableOf.f k a0 l1).bind fun t338 => (if 0 ≤ a0 then (some (t338 == (wrap64 ((shl .i64 1 (shl .u64 1 a0)) - 1)))) else (none))) else (some false)) = some r := H
 have A3 := Aside0.mk A30
 clear A30
 by_cases c4 : t337 = true
 ·subst c4
  have H1 : ((impl_TableOf.f k a0 l1).bind fun t338 => (if 0 ≤ a0 then (some (t338 == (wrap64 ((shl .i64 1 (shl .u64 1 a0)) - 1)))) else (none))) = some r := by rw [if_pos rfl] at H; exact H
  clear H
  have H := H1
  clear H1
  replace H := Option.bind_eq_some_iff.mp H
  obtain ⟨t338, A50, H⟩ := H
  replace H : (if 0 ≤ a0 then (some (t338 == (wrap64 ((shl .i64 1 (shl .u64 1 a0)) - 1)))) else (none)) = some r := H
  have A5 := Aside0.mk A50
  clear A50
  by_cases c6 : 0 ≤ a0
  ·rw [if_pos c6] at H
   have c6b0 := eq_true c6
   have c6b1 : decide (0 ≤ a0) = true := decide_eq_true c6
   clear c6
   obtain ⟨ji7, hji7⟩ : ∃ j_ : Int, (shl .u64 1 a0) = j_ := ⟨_, rfl⟩
   replace H : (some (t338 == (wrap64 ((shl .i64 1 (ji7)) - 1)))) = some r := by first | (rw [hji7] at H; exact H) | (simp only [hji7] at H ⊢; exact H)
   (try rw [hji7] at A3)
   (try rw [hji7] at A5)
   have hji7_ : (IntKind.u64.wrap (1 * 2 ^ min a0.toNat 64)) = ji7 := hji7
   have hji7z : a0 ≤ 64 → (IntKind.u64.wrap (1 * 2 ^ a0.toNat)) = ji7 := shl_small hji7
   have hji7n0 : 0 ≤ ji7 := by rw [← hji7]; unfold shl; rw [IntKind.wrap_u64]; omega
   have hji7n1 := eq_true hji7n0
   have hji7n2 : decide (0 ≤ ji7) = true := decide_eq_true hji7n0
   clear hji7n0
   have hji7u : (IntKind.u64.wrap (2 ^ min a0.toNat 64)) = ji7 := by have h_ := hji7_; rw [Int.one_mul] at h_; exact h_
   have hji7v : a0 ≤ 64 → (IntKind.u64.wrap (2 ^ a0.toNat)) = ji7 := fun hle_ => by have h_ := hji7z hle_; rw [Int.one_mul] at h_; exact h_
   obtain ⟨ji8, hji8⟩ : ∃ j_ : Int, (shl .i64 1 (ji7)) = j_ := ⟨_, rfl⟩
   replace H : (some (t338 == (wrap64 ((ji8) - 1)))) = some r := by first | (rw [hji8] at H; exact H) | (simp only [hji8] at H ⊢; exact H)
   (try rw [hji8] at A3)
   (try rw [hji8] at A5)
   have hji8_ : (IntKind.i64.wrap (1 * 2 ^ min (ji7).toNat 64)) = ji8 := hji8
   have hji8z : (ji7) ≤ 64 → (IntKind.i64.wrap (1 * 2 ^ (ji7).toNat)) = ji8 := shl_small hji8
   have hji8u : (IntKind.i64.wrap (2 ^ min (ji7).toNat 64)) = ji8 := by have h_ := hji8_; rw [Int.one_mul] at h_; exact h_
   have hji8v : (ji7) ≤ 64 → (IntKind.i64.wrap (2 ^ (ji7).toNat)) = ji8 := fun hle_ => by have h_ := hji8z hle_; rw [Int.one_mul] at h_; exact h_
   have hji8y : (wrap64 (1 * 2 ^ min (ji7).toNat 64)) = ji8 := (i64_w _).symm.trans hji8_
   have hji8x : (ji7) ≤ 64 → (wrap64 (1 * 2 ^ (ji7).toNat)) = ji8 := fun h_ => (i64_w _).symm.trans (hji8z h_)
   obtain rfl := Option.some.inj H
   go_enter Try.func40, Try.ntmps40
   try go_wp2
   have n0_ := Aside0.mk (below_drew1 HB.out)
   clear HB
   have HB := n0_
   clear n0_
   refine start_ (n := 14) (S := fun w' => True) (ds := []) #[false, false, false, false, false, false, false, false, false, false, false, false, false, false] (by kernel_rfl) rfl rfl trivial (fun hHeld => ?_); refine with_tabW impl_AlwaysOk.tab1 impl_AlwaysOk.bits1 (fun HT_ HW_ => ?_)
   generalize w.drew = w9 at HB hHeld ⊢
   refine pure_ (i := 0) (N := some 5) (v := ?_) (a' := ?_) #[true, false, false, false, false, false, false, false, false, false, false, false, false, false] rfl rfl (any_of HT_.out (by kernel_rfl)) (fun _ _ _ h => h) (Or.inl ⟨by rfl, ?_⟩) ?_ ?_
   rotate_left
   ·intro w'
    go_simp
    with_reducible rfl
   rotate_left
   ·simp only [Act.put, List.setIfInBounds_toArray, List.set_cons_zero, List.set_cons_succ, i64_w, i32_w]
    rfl
   refine pure_ (i := 1) (N := some 6) (v := ?_) (a' := ?_) #[true, true, false, false, false, false, false, false, false, false, false, false, false, false] rfl rfl (any_of HT_.out (by kernel_rfl)) (fun _ _ _ h => h) (Or.inl ⟨by rfl, ?_⟩) ?_ ?_
   rotate_left
   ·intro w'
    go_simp
    with_reducible rfl
   rotate_left
   ·simp only [Act.put, List.setIfInBounds_toArray, List.set_cons_zero, List.set_cons_succ, i64_w, i32_w]
    rfl
   refine one_ (i := 2) (N := some 7) #[true, true, true, false, false, false, false, false, false, false, false, false, false, false] rfl rfl (one_of HT_.out (by kernel_rfl)) (by decide) (fun K hK => ?_)
   refine goes_ Try.func20 (by kernel_rfl) rfl #[.int .i64 a0, .slice A1 l1.length c1] (by rfl) rfl rfl pwi_ ?_
   with_reducible refine (impl_TermOk.calls k a0 _ _ l1 true _ ?side1 ?side2 A3.out).mono ?_
   (case side1 => repeat (first | exact (Kd.C_below HR1.out HB.out) | (with_reducible refine Kd.C_alloc ?_ _) | (with_reducible refine Kd.C_drewN ?_ _) | (with_reducible refine Kd.C_drew ?_)))
   (case side2 => exact HC1.out)
   rintro e w10 ⟨rfl, hb⟩
   refine ⟨_, rfl, ?_⟩
   have n0_ := Aside0.mk (below_step pwg_ hb)
   clear HB
   have HB := n0_
   clear n0_
   (try clear hb)
   (try clear hb2)
   (try clear hk)
   (try clear hi)
   refine hK.out _ _ trivial (fun hHeld => ?_)
   clear hK K
   refine norm_ (a' := ?_) ?_ ?_
   rotate_left
   ·show Act.put _ (some 7) _ = _
    simp only [Act.put, List.setIfInBounds_toArray, List.set_cons_zero, List.set_cons_succ, i64_w, i32_w]
    rfl
   refine pure_ (i := 3) (N := some 8) (v := ?_) (a' := ?_) #[true, true, true, true, false, false, false, false, false, false, false, false, false, false] rfl rfl (any_of HT_.out (by kernel_rfl)) (fun _ _ _ h => h) (Or.inl ⟨by rfl, ?_⟩) ?_ ?_
   rotate_left
   ·intro w'
    go_simp
    with_reducible rfl
   rotate_left
   ·simp only [Act.put, List.setIfInBounds_toArray, List.set_cons_zero, List.set_cons_succ, i64_w, i32_w]
    rfl
   refine pure_ (i := 4) (N := some 9) (v := ?_) (a' := ?_) #[true, true, true, true, true, false, false, false, false, false, false, false, false, false] rfl rfl (any_of HT_.out (by kernel_rfl)) (fun _ _ _ h => h) (Or.inl ⟨by rfl, ?_⟩) ?_ ?_
   rotate_left
   ·intro w'
    go_simp
    with_reducible rfl
   rotate_left
   ·simp only [Act.put, List.setIfInBounds_toArray, List.set_cons_zero, List.set_cons_succ, i64_w, i32_w]
    rfl
   refine pure_ (i := 5) (N := some 10) (v := ?_) (a' := ?_) #[true, true, true, true, true, true, false, false, false, false, false, false, false, false] rfl rfl (any_of HT_.out (by kernel_rfl)) (fun _ _ _ h => h) (Or.inl ⟨by rfl, ?_⟩) ?_ ?_
   rotate_left
   ·intro w'
    go_simp
    with_reducible rfl
   rotate_left
   ·simp only [Act.put, List.setIfInBounds_toArray, List.set_cons_zero, List.set_cons_succ, i64_w, i32_w]
    rfl
   refine pure_ (i := 7) (N := some 12) (v := ?_) (a' := ?_) #[true, true, true, true, true, true, false, true, false, false, false, false, false, false] rfl rfl (any_of HT_.out (by kernel_rfl)) (fun _ _ _ h => h) (Or.inl ⟨by rfl, ?_⟩) ?_ ?_
   rotate_left
   ·intro w'
    go_simp
    with_reducible rfl
   rotate_left
   ·simp only [Act.put, List.setIfInBounds_toArray, List.set_cons_zero, List.set_cons_succ, i64_w, i32_w]
    rfl
   refine pure_ (i := 8) (N := some 13) (v := ?_) (a' := ?_) #[true, true, true, true, true, true, false, true, true, false, false, false, false, false] rfl rfl (any_of HT_.out (by kernel_rfl)) (fun _ _ _ h => h) (Or.inl ⟨by rfl, ?_⟩) ?_ ?_
   rotate_left
   ·intro w'
    go_simp
    with_reducible rfl
   rotate_left
   ·simp only [Act.put, List.setIfInBounds_toArray, List.set_cons_zero, List.set_cons_succ, i64_w, i32_w]
    rfl
   refine pure_ (i := 9) (N := some 14) (v := ?_) (a' := ?_) #[true, true, true, true, true, true, false, true, true, true, false, false, false, false] rfl rfl (any_of HT_.out (by kernel_rfl)) (fun _ _ _ h => h) (Or.inl ⟨by rfl, ?_⟩) ?_ ?_
   rotate_left
   ·intro w'
    go_simp
    with_reducible rfl
   rotate_left
   ·simp only [Act.put, List.setIfInBounds_toArray, List.set_cons_zero, List.set_cons_succ, i64_w, i32_w]
    rfl
   refine pure_ (i := 10) (N := some 15) (v := ?_) (a' := ?_) #[true, true, true, true, true, true, false, true, true, true, true, false, false, false] rfl rfl (any_of HT_.out (by kernel_rfl)) (fun _ _ _ h => h) (Or.inl ⟨by rfl, ?_⟩) ?_ ?_
   rotate_left
   ·intro w'
    go_simp
    with_reducible rfl
   rotate_left
   ·simp only [Act.put, List.setIfInBounds_toArray, List.set_cons_zero, List.set_cons_succ, i64_w, i32_w]
    rfl
   refine one_ (i := 6) (N := some 11) #[true, true, true, true, true, true, true, true, true, true, true, false, false, false] rfl rfl (one_of HT_.out (by kernel_rfl)) (by decide) (fun K hK => ?_)
   refine goes_ Try.func18 (by kernel_rfl) rfl #[.int .i64 a0, .slice A1 l1.length c1] (by rfl) rfl rfl pwi_ ?_
   with_reducible refine (impl_TableOf.calls k a0 _ _ l1 t338 _ ?side1 ?side2 A5.out).mono ?_
   (case side1 => repeat (first | exact (Kd.C_below HR1.out HB.out) | (with_reducible refine Kd.C_alloc ?_ _) | (with_reducible refine Kd.C_drewN ?_ _) | (with_reducible refine Kd.C_drew ?_)))
   (case side2 => exact HC1.out)
   rintro e w11 ⟨rfl, hb⟩
   refine ⟨_, rfl, ?_⟩
   have n0_ := Aside0.mk (below_step pwg_ hb)
   clear HB
   have HB := n0_
   clear n0_
   (try clear hb)
   (try clear hb2)
   (try clear hk)
   (try clear hi)
   refine hK.out _ _ trivial (fun hHeld => ?_)
   clear hK K
   refine norm_ (a' := ?_) ?_ ?_
   rotate_left
   ·show Act.put _ (some 11) _ = _
    simp only [Act.put, List.setIfInBounds_toArray, List.set_cons_zero, List.set_cons_succ, i64_w, i32_w]
    rfl
   refine pure_ (i := 11) (N := some 16) (v := ?_) (a' := ?_) #[true, true, true, true, true, true, true, true, true, true, true, true, false, false] rfl rfl (any_of HT_.out (by kernel_rfl)) (fun _ _ _ h => h) (Or.inl ⟨by rfl, ?_⟩) ?_ ?_
   rotate_left
   ·intro w'
    go_simp
    with_reducible rfl
   rotate_left
   ·simp only [Act.put, List.setIfInBounds_toArray, List.set_cons_zero, List.set_cons_succ, i64_w, i32_w]
    rfl
   refine pure_ (i := 12) (N := some 17) (v := ?_) (a' := ?_) #[true, true, true, true, true, true, true, true, true, true, true, true, true, false] rfl rfl (any_of HT_.out (by kernel_rfl)) (fun _ _ _ h => h) (Or.inl ⟨by rfl, ?_⟩) ?_ ?_
   rotate_left
   ·intro w'
    go_simp
    with_reducible rfl
   rotate_left
   ·simp only [Act.put, List.setIfInBounds_toArray, List.set_cons_zero, List.set_cons_succ, i64_w, i32_w]
    rfl
   refine pure_ (i := 13) (N := some 4) (v := ?_) (a' := ?_) #[true, true, true, true, true, true, true, true, true, true, true, true, true, true] rfl rfl (any_of HT_.out (by kernel_rfl)) (fun _ _ _ h => h) (Or.inl ⟨by rfl, ?_⟩) ?_ ?_
   rotate_left
   ·intro w'
    go_simp
    with_reducible rfl
   rotate_left
   ·simp only [Act.put, List.setIfInBounds_toArray, List.set_cons_zero, List.set_cons_succ, i64_w, i32_w]
    rfl
   refine done_ (done_of HT_.out (by kernel_rfl)) ?_
   try go_wp2
   go_ret
   exact ⟨by first | rfl | (simp [errW_none, errW_some] <;> rfl) | (simp only [← hji7, ← hji8]; first | rfl | (simp [errW_none, errW_some] <;> rfl)) | (simp [*, errW_none, errW_some] <;> rfl), pwg_⟩
  ·rw [if_neg c6] at H
   exact absurd H (by simp)
 ·replace c4 := Bool.eq_false_iff.mpr c4
  subst c4
  have H1 : (some false) = some r := by rw [if_neg (show ¬ (false = true) by decide)] at H; exact H
  clear H
  have H := H1
  clear H1
  obtain rfl := Option.some.inj H
  go_enter Try.func40, Try.ntmps40
  try go_wp2
  have n0_ := Aside0.mk (below_drew1 HB.out)
  clear HB
  have HB := n0_
  clear n0_
  refine start_ (n := 14) (S := fun w' => True) (ds := []) #[false, false, false, false, false, false, false, false, false, false, false, false, false, false] (by kernel_rfl) rfl rfl trivial (fun hHeld => ?_); refine with_tabW impl_AlwaysOk.tab1 impl_AlwaysOk.bits1 (fun HT_ HW_ => ?_)
  generalize w.drew = w12 at HB hHeld ⊢
  refine pure_ (i := 0) (N := some 5) (v := ?_) (a' := ?_) #[true, false, false, false, false, false, false, false, false, false, false, false, false, false] rfl rfl (any_of HT_.out (by kernel_rfl)) (fun _ _ _ h => h) (Or.inl ⟨by rfl, ?_⟩) ?_ ?_
  rotate_left
  ·intro w'
   go_simp
   with_reducible rfl
  rotate_left
  ·simp only [Act.put, List.setIfInBounds_toArray, List.set_cons_zero, List.set_cons_succ, i64_w, i32_w]
   rfl
  refine pure_ (i := 1) (N := some 6) (v := ?_) (a' := ?_) #[true, true, false, false, false, false, false, false, false, false, false, false, false, false] rfl rfl (any_of HT_.out (by kernel_rfl)) (fun _ _ _ h => h) (Or.inl ⟨by rfl, ?_⟩) ?_ ?_
  rotate_left
  ·intro w'
   go_simp
   with_reducible rfl
  rotate_left
  ·simp only [Act.put, List.setIfInBounds_toArray, List.set_cons_zero, List.set_cons_succ, i64_w, i32_w]
   rfl
  refine one_ (i := 2) (N := some 7) #[true, true, true, false, false, false, false, false, false, false, false, false, false, false] rfl rfl (one_of HT_.out (by kernel_rfl)) (by decide) (fun K hK => ?_)
  refine goes_ Try.func20 (by kernel_rfl) rfl #[.int .i64 a0, .slice A1 l1.length c1] (by rfl) rfl rfl pwi_ ?_
  with_reducible refine (impl_TermOk.calls k a0 _ _ l1 false _ ?side1 ?side2 A3.out).mono ?_
  (case side1 => repeat (first | exact (Kd.C_below HR1.out HB.out) | (with_reducible refine Kd.C_alloc ?_ _) | (with_reducible refine Kd.C_drewN ?_ _) | (with_reducible refine Kd.C_drew ?_)))
  (case side2 => exact HC1.out)
  rintro e w13 ⟨rfl, hb⟩
  refine ⟨_, rfl, ?_⟩
  have n0_ := Aside0.mk (below_step pwg_ hb)
  clear HB
  have HB := n0_
  clear n0_
  (try clear hb)
  (try clear hb2)
  (try clear hk)
  (try clear hi)
  refine hK.out _ _ trivial (fun hHeld => ?_)
  clear hK K
  refine norm_ (a' := ?_) ?_ ?_
  rotate_left
  ·show Act.put _ (some 7) _ = _
   simp only [Act.put, List.setIfInBounds_toArray, List.set_cons_zero, List.set_cons_succ, i64_w, i32_w]
   rfl
  refine pure_ (i := 3) (N := some 8) (v := ?_) (a' := ?_) #[true, true, true, true, false, false, false, false, false, false, false, false, false, false] rfl rfl (any_of HT_.out (by kernel_rfl)) (fun _ _ _ h => h) (Or.inl ⟨by rfl, ?_⟩) ?_ ?_
  rotate_left
  ·intro w'
   go_simp
   with_reducible rfl
  rotate_left
  ·simp only [Act.put, List.setIfInBounds_toArray, List.set_cons_zero, List.set_cons_succ, i64_w, i32_w]
   rfl
  refine pure_ (i := 4) (N := some 9) (v := undef) (a' := ?_) #[true, true, true, true, true, false, false, false, false, false, false, false, false, false] rfl rfl (any_of HT_.out (by kernel_rfl)) (fun _ _ _ h => h) (Or.inr ⟨by rfl, rfl⟩) ?_ ?_
  rotate_left
  ·simp only [Act.put, List.setIfInBounds_toArray, List.set_cons_zero, List.set_cons_succ, i64_w, i32_w]
   rfl
  refine pure_ (i := 5) (N := some 10) (v := undef) (a' := ?_) #[true, true, true, true, true, true, false, false, false, false, false, false, false, false] rfl rfl (any_of HT_.out (by kernel_rfl)) (fun _ _ _ h => h) (Or.inr ⟨by rfl, rfl⟩) ?_ ?_
  rotate_left
  ·simp only [Act.put, List.setIfInBounds_toArray, List.set_cons_zero, List.set_cons_succ, i64_w, i32_w]
   rfl
  refine pure_ (i := 6) (N := some 11) (v := undef) (a' := ?_) #[true, true, true, true, true, true, true, false, false, false, false, false, false, false] rfl rfl (any_of HT_.out (by kernel_rfl)) (fun _ _ _ h => h) (Or.inr ⟨by rfl, rfl⟩) ?_ ?_
  rotate_left
  ·simp only [Act.put, List.setIfInBounds_toArray, List.set_cons_zero, List.set_cons_succ, i64_w, i32_w]
   rfl
  refine pure_ (i := 7) (N := some 12) (v := undef) (a' := ?_) #[true, true, true, true, true, true, true, true, false, false, false, false, false, false] rfl rfl (any_of HT_.out (by kernel_rfl)) (fun _ _ _ h => h) (Or.inr ⟨by rfl, rfl⟩) ?_ ?_
  rotate_left
  ·simp only [Act.put, List.setIfInBounds_toArray, List.set_cons_zero, List.set_cons_succ, i64_w, i32_w]
   rfl
  refine pure_ (i := 8) (N := some 13) (v := undef) (a' := ?_) #[true, true, true, true, true, true, true, true, true, false, false, false, false, false] rfl rfl (any_of HT_.out (by kernel_rfl)) (fun _ _ _ h => h) (Or.inr ⟨by rfl, rfl⟩) ?_ ?_
  rotate_left
  ·simp only [Act.put, List.setIfInBounds_toArray, List.set_cons_zero, List.set_cons_succ, i64_w, i32_w]
   rfl
  refine pure_ (i := 9) (N := some 14) (v := undef) (a' := ?_) #[true, true, true, true, true, true, true, true, true, true, false, false, false, false] rfl rfl (any_of HT_.out (by kernel_rfl)) (fun _ _ _ h => h) (Or.inr ⟨by rfl, rfl⟩) ?_ ?_
  rotate_left
  ·simp only [Act.put, List.setIfInBounds_toArray, List.set_cons_zero, List.set_cons_succ, i64_w, i32_w]
   rfl
  refine pure_ (i := 10) (N := some 15) (v := undef) (a' := ?_) #[true, true, true, true, true, true, true, true, true, true, true, false, false, false] rfl rfl (any_of HT_.out (by kernel_rfl)) (fun _ _ _ h => h) (Or.inr ⟨by rfl, rfl⟩) ?_ ?_
  rotate_left
  ·simp only [Act.put, List.setIfInBounds_toArray, List.set_cons_zero, List.set_cons_succ, i64_w, i32_w]
   rfl
  refine pure_ (i := 11) (N := some 16) (v := undef) (a' := ?_) #[true, true, true, true, true, true, true, true, true, true, true, true, false, false] rfl rfl (any_of HT_.out (by kernel_rfl)) (fun _ _ _ h => h) (Or.inr ⟨by rfl, rfl⟩) ?_ ?_
  rotate_left
  ·simp only [Act.put, List.setIfInBounds_toArray, List.set_cons_zero, List.set_cons_succ, i64_w, i32_w]
   rfl
  refine pure_ (i := 12) (N := some 17) (v := ?_) (a' := ?_) #[true, true, true, true, true, true, true, true, true, true, true, true, true, false] rfl rfl (any_of HT_.out (by kernel_rfl)) (fun _ _ _ h => h) (Or.inl ⟨by rfl, ?_⟩) ?_ ?_
  rotate_left
  ·intro w'
   go_simp
   with_reducible rfl
  rotate_left
  ·simp only [Act.put, List.setIfInBounds_toArray, List.set_cons_zero, List.set_cons_succ, i64_w, i32_w]
   rfl
  refine pure_ (i := 13) (N := some 4) (v := ?_) (a' := ?_) #[true, true, true, true, true, true, true, true, true, true, true, true, true, true] rfl rfl (any_of HT_.out (by kernel_rfl)) (fun _ _ _ h => h) (Or.inl ⟨by rfl, ?_⟩) ?_ ?_
  rotate_left
  ·intro w'
   go_simp
   with_reducible rfl
  rotate_left
  ·simp only [Act.put, List.setIfInBounds_toArray, List.set_cons_zero, List.set_cons_succ, i64_w, i32_w]
   rfl
  refine done_ (done_of HT_.out (by kernel_rfl)) ?_
  try go_wp2
  go_ret
  exact ⟨by first | rfl | (simp [errW_none, errW_some] <;> rfl) | (simp [*, errW_none, errW_some] <;> rfl), pwg_⟩

/-! ### spec_l1Heads: function 67 -/
def spec_l1Heads.l0 : Nat → Int → Int → Option (Int)
 | 0, _, _ => none
 | k + 1, x0, x3 => if x0 > 0 then (spec_l1Heads.l0 k (wrap64 (Int.tdiv x0 2)) (wrap64 (x3 + (Int.tmod x0 2)))) else (some x3)
def spec_l1Heads.f (k : Nat) (a0 : Int) : Option (Int) := spec_l1Heads.l0 k a0 0
theorem spec_l1Heads.mono_l : ∀ k, (∀ y0 y1, LeO (spec_l1Heads.l0 k y0 y1) (spec_l1Heads.l0 (k + 1) y0 y1))
 | 0 => fun _ _ r h => by simp [spec_l1Heads.l0] at h
 | k + 1 => by
  have ih0 := spec_l1Heads.mono_l k
  ·intro y0 y1
   unfold spec_l1Heads.l0
   repeat' first
   | (with_reducible exact ih0 _ _)
   | (with_reducible exact LeO.refl _)
   | (with_reducible exact LeO.none _)
   | (with_reducible refine LeO.ite ?_ ?_)
   | (with_reducible refine LeO.bind ?_ (fun _ => ?_))
   | exact ih0 _ _
   | exact LeO.none _
   | refine LeO.ite ?_ ?_
   | refine LeO.bind ?_ (fun _ => ?_)
theorem spec_l1Heads.mono : ∀ a0 k, LeO (spec_l1Heads.f k a0) (spec_l1Heads.f (k + 1) a0) := by
 intro a0 k
 have ih0 := spec_l1Heads.mono_l k
 unfold spec_l1Heads.f
 repeat' first
   | (with_reducible exact ih0 _ _)
   | (with_reducible exact LeO.refl _)
   | (with_reducible exact LeO.none _)
   | (with_reducible refine LeO.ite ?_ ?_)
   | (with_reducible refine LeO.bind ?_ (fun _ => ?_))
   | exact ih0 _ _
   | exact LeO.none _
   | refine LeO.ite ?_ ?_
   | refine LeO.bind ?_ (fun _ => ?_)
set_option maxHeartbeats 8000000 in
set_option maxRecDepth 100000 in
theorem spec_l1Heads.calls (k : Nat) (a0 : Int) (r : Int) (w : World) (h : spec_l1Heads.f k a0 = some r) :
  Calls Try.prog 67 #[.int .i64 a0] w fun e w' => e = .returned (.int .i64 r) ∧ Drawn0 w w' := by
 have H : (spec_l1Heads.l0 k a0 0) = some r := h
 clear h
 have H' := Aside0.mk H
 clear H
 go_enter Try.func67, Try.ntmps67
 go_wp2
 go_loopg [0, 3] k (fun kq v0 v3 w' => ∃ (x0_1 : Int) (x3_1 : Int), v0 = .int .i64 x0_1 ∧ v3 = .int .i64 x3_1 ∧ Aside0 (spec_l1Heads.l0 kq x0_1 x3_1 = some r) ∧ Aside0 (kq ≤ k) ∧ Drawn0 w w')
 case atStart => exact ⟨(a0), (0), pwa_, pwa_, H', ⟨Nat.le_refl _⟩, by repeat (first | exact Drawn0.refl _ | apply Drawn0.step)⟩
 case round =>
  clear H'
  obtain ⟨x0_1, x3_1, rfl, rfl, HA, HK1, ⟨m1, rfl⟩⟩ := hrel
  cases gk with
  | zero => exact absurd HA.out (by simp [spec_l1Heads.l0])
  | succ k1 =>
   have H := HA.out
   clear HA
   simp only [spec_l1Heads.l0] at H
   by_cases c2 : x0_1 > 0
   ·rw [if_pos c2] at H
    have c2b0 : decide (0 < x0_1) = true := decide_eq_true c2
    clear c2
    have H' := Aside0.mk H
    clear H
    go_wp2
    go_roundg k1
    case measure => have := HK1.out; omega
    case rel => exact ⟨(wrap64 (Int.tdiv x0_1 2)), (wrap64 (x3_1 + (Int.tmod x0_1 2))), pwa_, pwa_, H', ⟨by have := HK1.out; omega⟩, by repeat (first | exact Drawn0.refl _ | apply Drawn0.step)⟩
   ·rw [if_neg c2] at H
    have c2b0 : decide (0 < x0_1) = false := decide_eq_false c2
    clear c2
    obtain rfl := Option.some.inj H
    go_wp2
    go_ret
    exact ⟨pwa_, by repeat (first | exact Drawn0.refl _ | apply Drawn0.step)⟩

/-! ### spec_l2Starts: function 68 -/
def spec_l2Starts.l0 : Nat → List (S41) → Int → Int → Option (Int)
 | 0, _, _, _ => none
 | k + 1, x0, x5, x6 => if x5 > 0 then (if 0 ≤ x6 then (if x6 < (x0.length : Int) then (if ((rd_T41 x0 x6).f0) ≤ 1 then (spec_l2Starts.l0 k x0 (wrap64 (x5 - 1)) (wrap64 (x6 - 1))) else (if ((rd_T41 x0 x6).f0) > 2 then (spec_l2Starts.l0 k x0 (wrap64 (x5 + 1)) (wrap64 (x6 - 1))) else (spec_l2Starts.l0 k x0 x5 (wrap64 (x6 - 1))))) else (none)) else (none)) else (some (wrap64 (x6 + 1)))
def spec_l2Starts.f (k : Nat) (l0 : List (S41)) (a1 : Int) : Option (Int) := spec_l2Starts.l0 k l0 1 a1
theorem spec_l2Starts.mono_l : ∀ k, (∀ y0 y1 y2, LeO (spec_l2Starts.l0 k y0 y1 y2) (spec_l2Starts.l0 (k + 1) y0 y1 y2))
 | 0 => fun _ _ _ r h => by simp [spec_l2Starts.l0] at h
 | k + 1 => by
  have ih0 := spec_l2Starts.mono_l k
  ·intro y0 y1 y2
   unfold spec_l2Starts.l0
   repeat' first
   | (with_reducible exact ih0 _ _ _)
   | (with_reducible exact LeO.refl _)
   | (with_reducible exact LeO.none _)
   | (with_reducible refine LeO.ite ?_ ?_)
   | (with_reducible refine LeO.bind ?_ (fun _ => ?_))
   | exact ih0 _ _ _
   | exact LeO.none _
   | refine LeO.ite ?_ ?_
   | refine LeO.bind ?_ (fun _ => ?_)
theorem spec_l2Starts.mono : ∀ a0 a1 k, LeO (spec_l2Starts.f k a0 a1) (spec_l2Starts.f (k + 1) a0 a1) := by
 intro a0 a1 k
 have ih0 := spec_l2Starts.mono_l k
 unfold spec_l2Starts.f
 repeat' first
   | (with_reducible exact ih0 _ _ _)
   | (with_reducible exact LeO.refl _)
   | (with_reducible exact LeO.none _)
   | (with_reducible refine LeO.ite ?_ ?_)
   | (with_reducible refine LeO.bind ?_ (fun _ => ?_))
   | exact ih0 _ _ _
   | exact LeO.none _
   | refine LeO.ite ?_ ?_
   | refine LeO.bind ?_ (fun _ => ?_)
set_option maxHeartbeats 8000000 in
set_option maxRecDepth 100000 in
theorem spec_l2Starts.calls (k : Nat) (A0 : Option Addr) (c0 : Nat) (l0 : List (S41)) (a1 : Int) (r : Int) (w : World) (hr0 : Kd.C k41 w A0 l0.length l0) (hc0 : l0.length ≤ c0) (h : spec_l2Starts.f k l0 a1 = some r) :
  Calls Try.prog 68 #[.slice A0 l0.length c0, .int .i64 a1] w fun e w' => e = .returned (.int .i64 r) ∧ Drawn0 w w' := by
 have HR0 := Aside0.mk hr0
 have HC0 := Aside0.mk hc0
 clear hr0 hc0
 have H : (spec_l2Starts.l0 k l0 1 a1) = some r := h
 clear h
 have H' := Aside0.mk H
 clear H
 go_enter Try.func68, Try.ntmps68
 go_wp2
 go_loopg [5, 6] k (fun kq v5 v6 w' => ∃ (x5_1 : Int) (x6_1 : Int), v5 = .int .i64 x5_1 ∧ v6 = .int .i64 x6_1 ∧ Aside0 (spec_l2Starts.l0 kq l0 x5_1 x6_1 = some r) ∧ Aside0 (kq ≤ k) ∧ Drawn0 w w')
 case atStart => exact ⟨(1), (a1), pwa_, pwa_, H', ⟨Nat.le_refl _⟩, by repeat (first | exact Drawn0.refl _ | apply Drawn0.step)⟩
 case round =>
  clear H'
  try clear p2
  obtain ⟨x5_1, x6_1, rfl, rfl, HA, HK1, ⟨m1, rfl⟩⟩ := hrel
  cases gk with
  | zero => exact absurd HA.out (by simp [spec_l2Starts.l0])
  | succ k1 =>
   have H := HA.out
   clear HA
   simp only [spec_l2Starts.l0] at H
   by_cases c3 : x5_1 > 0
   ·rw [if_pos c3] at H
    have c3b0 : decide (0 < x5_1) = true := decide_eq_true c3
    clear c3
    by_cases c4 : 0 ≤ x6_1
    ·rw [if_pos c4] at H
     have c4b0 : decide (0 ≤ x6_1) = true := decide_eq_true c4
     clear c4
     by_cases c5 : x6_1 < (l0.length : Int)
     ·rw [if_pos c5] at H
      have c5b0 : decide (x6_1 < (l0.length : Int)) = true := decide_eq_true c5
      clear c5
      by_cases c6 : ((rd_T41 l0 x6_1).f0) ≤ 1
      ·rw [if_pos c6] at H
       have c6b0 : decide (((rd_T41 l0 x6_1).f0) ≤ 1) = true := decide_eq_true c6
       clear c6
       have H' := Aside0.mk H
       clear H
       have p339 : 0 ≤ (x6_1 : Int) := of_decide_eq_true pwb_
       have q339 : x6_1 < (l0.length : Int) := of_decide_eq_true pwb_
       obtain ⟨ad339, e339, hx339_0, hx339_1⟩ := at_T41 HR0.out x6_1 p339 q339
       cases e339
       replace p339 := eq_true p339
       replace q339 := eq_true q339
       go_wp2
       go_roundg k1
       case measure => have := HK1.out; omega
       case rel => exact ⟨(wrap64 (x5_1 - 1)), (wrap64 (x6_1 - 1)), pwa_, pwa_, H', ⟨by have := HK1.out; omega⟩, by repeat (first | exact Drawn0.refl _ | apply Drawn0.step)⟩
      ·rw [if_neg c6] at H
       have c6b0 : decide (((rd_T41 l0 x6_1).f0) ≤ 1) = false := decide_eq_false c6
       clear c6
       by_cases c7 : ((rd_T41 l0 x6_1).f0) > 2
       ·rw [if_pos c7] at H
        have c7b0 : decide (2 < ((rd_T41 l0 x6_1).f0)) = true := decide_eq_true c7
        clear c7
        have H' := Aside0.mk H
        clear H
        have p339 : 0 ≤ (x6_1 : Int) := of_decide_eq_true pwb_
        have q339 : x6_1 < (l0.length : Int) := of_decide_eq_true pwb_
        obtain ⟨ad339, e339, hx339_0, hx339_1⟩ := at_T41 HR0.out x6_1 p339 q339
        cases e339
        replace p339 := eq_true p339
        replace q339 := eq_true q339
        have p340 : 0 ≤ (x6_1 : Int) := of_decide_eq_true pwb_
        have q340 : x6_1 < (l0.length : Int) := of_decide_eq_true pwb_
        obtain ⟨ad340, e340, hx340_0, hx340_1⟩ := at_T41 HR0.out x6_1 p340 q340
        obtain rfl : ad339 = ad340 := (by injection e340)
        replace p340 := eq_true p340
        replace q340 := eq_true q340
        go_wp2
        go_roundg k1
        case measure => have := HK1.out; omega
        case rel => exact ⟨(wrap64 (x5_1 + 1)), (wrap64 (x6_1 - 1)), pwa_, pwa_, H', ⟨by have := HK1.out; omega⟩, by repeat (first | exact Drawn0.refl _ | apply Drawn0.step)⟩
       ·rw [if_neg c7] at H
        have c7b0 : decide (2 < ((rd_T41 l0 x6_1).f0)) = false := decide_eq_false c7
        clear c7
        have H' := Aside0.mk H
        clear H
        have p339 : 0 ≤ (x6_1 : Int) := of_decide_eq_true pwb_
        have q339 : x6_1 < (l0.length : Int) := of_decide_eq_true pwb_
        obtain ⟨ad339, e339, hx339_0, hx339_1⟩ := at_T41 HR0.out x6_1 p339 q339
        cases e339
        replace p339 := eq_true p339
        replace q339 := eq_true q339
        have p340 : 0 ≤ (x6_1 : Int) := of_decide_eq_true pwb_
        have q340 : x6_1 < (l0.length : Int) := of_decide_eq_true pwb_
        obtain ⟨ad340, e340, hx340_0, hx340_1⟩ := at_T41 HR0.out x6_1 p340 q340
        obtain rfl : ad339 = ad340 := (by injection e340)
        replace p340 := eq_true p340
        replace q340 := eq_true q340
        go_wp2
        go_roundg k1
        case measure => have := HK1.out; omega
        case rel => exact ⟨(x5_1), (wrap64 (x6_1 - 1)), pwa_, pwa_, H', ⟨by have := HK1.out; omega⟩, by repeat (first | exact Drawn0.refl _ | apply Drawn0.step)⟩
     ·rw [if_neg c5] at H
      exact absurd H (by simp)
    ·rw [if_neg c4] at H
     exact absurd H (by simp)
   ·rw [if_neg c3] at H
    have c3b0 : decide (0 < x5_1) = false := decide_eq_false c3
    clear c3
    obtain rfl := Option.some.inj H
    go_wp2
    go_ret
    exact ⟨pwa_, by repeat (first | exact Drawn0.refl _ | apply Drawn0.step)⟩

/-! ### spec_l3Holds: function 59 -/
def spec_l3Holds.f : Nat → List (S41) → Int → Option (Bool)
 | 0, _, _ => none
 | k + 1, l0, a1 => if 0 ≤ (wrap64 ((l0.length : Int) - 1)) then (if (wrap64 ((l0.length : Int) - 1)) < (l0.length : Int) then (if ((rd_T41 l0 (wrap64 ((l0.length : Int) - 1))).f0) = 0 then (if 0 ≤ ((rd_T41 l0 (wrap64 ((l0.length : Int) - 1))).f1) then (some ((Int.tmod (shr .i64 a1 ((rd_T41 l0 (wrap64 ((l0.length : Int) - 1))).f1)) 2) == 1)) else (none)) else (if ((rd_T41 l0 (wrap64 ((l0.length : Int) - 1))).f0) = 1 then ((spec_l1Heads.f k a1).bind fun t343 => (some (decide (t343 ≥ ((rd_T41 l0 (wrap64 ((l0.length : Int) - 1))).f1))))) else (if ((rd_T41 l0 (wrap64 ((l0.length : Int) - 1))).f0) = 2 then (if (wrap64 ((l0.length : Int) - 1)) ≤ (l0.length : Int) then ((spec_l3Holds.f k (l0.take ((wrap64 ((l0.length : Int) - 1)) : Int).toNat) a1).bind fun t349 => (some (!t349))) else (none)) else ((spec_l2Starts.f k l0 (wrap64 ((wrap64 ((l0.length : Int) - 1)) - 1))).bind fun t350 => (if 0 ≤ t350 then (if t350 ≤ (l0.length : Int) then ((spec_l3Holds.f k (l0.take (t350 : Int).toNat) a1).bind fun t355 => (if t350 ≤ (wrap64 ((l0.length : Int) - 1)) then (if (wrap64 ((l0.length : Int) - 1)) ≤ (l0.length : Int) then ((spec_l3Holds.f k ((l0.take ((wrap64 ((l0.length : Int) - 1)) : Int).toNat).drop (t350 : Int).toNat) a1).bind fun t360 => (if ((rd_T41 l0 (wrap64 ((l0.length : Int) - 1))).f0) = 3 then (if t355 = true then (some t360) else (some false)) else (if ((rd_T41 l0 (wrap64 ((l0.length : Int) - 1))).f0) = 4 then (if t355 = true then (some true) else (some t360)) else (some (t355 == t360))))) else (none)) else (none))) else (none)) else (none)))))) else (none)) else (none)
theorem spec_l3Holds.mono_l : ∀ k, (∀ y0 y1, LeO (spec_l3Holds.f k y0 y1) (spec_l3Holds.f (k + 1) y0 y1))
 | 0 => fun _ _ r h => by simp [spec_l3Holds.f] at h
 | k + 1 => by
  have ih0 := spec_l3Holds.mono_l k
  ·intro y0 y1
   unfold spec_l3Holds.f
   repeat' first
   | (with_reducible exact ih0 _ _)
   | (with_reducible exact spec_l1Heads.mono _ _)
   | (with_reducible exact spec_l2Starts.mono _ _ _)
   | (with_reducible exact LeO.refl _)
   | (with_reducible exact LeO.none _)
   | (with_reducible refine LeO.ite ?_ ?_)
   | (with_reducible refine LeO.bind ?_ (fun _ => ?_))
   | exact ih0 _ _
   | exact spec_l1Heads.mono _ _
   | exact spec_l2Starts.mono _ _ _
   | exact LeO.none _
   | refine LeO.ite ?_ ?_
   | refine LeO.bind ?_ (fun _ => ?_)
theorem spec_l3Holds.mono : ∀ a0 a1 k, LeO (spec_l3Holds.f k a0 a1) (spec_l3Holds.f (k + 1) a0 a1) := by
 intro a0 a1 k
 have ih0 := spec_l3Holds.mono_l k
 exact ih0 a0 a1
set_option maxHeartbeats 8000000 in
set_option maxRecDepth 100000 in
theorem spec_l3Holds.calls (k : Nat) : ∀ (A0 : Option Addr) (c0 : Nat) (l0 : List (S41)) (a1 : Int) (r : Bool) (w : World) (hr0 : Kd.C k41 w A0 l0.length l0) (hc0 : l0.length ≤ c0) (h : spec_l3Holds.f k l0 a1 = some r),
  Calls Try.prog 59 #[.slice A0 l0.length c0, .int .i64 a1] w fun e w' => e = .returned (.bool r) ∧ Drawn0 w w' := by
 induction k using Nat.strongRecOn with
 | _ k ih =>
 intro A0 c0 l0 a1 r w hr0 hc0 h
 cases k with
 | zero => exact absurd h (by simp [spec_l3Holds.f])
 | succ k =>
 simp only [spec_l3Holds.f] at h
 have HR0 := Aside0.mk hr0
 have HC0 := Aside0.mk hc0
 clear hr0 hc0
 have H : (if 0 ≤ (wrap64 ((l0.length : Int) - 1)) then (if (wrap64 ((l0.length : Int) - 1)) < (l0.length : Int) then (if ((rd_T41 l0 (wrap64 ((l0.length : Int) - 1))).f0) = 0 then (if 0 ≤ ((rd_T41 l0 (wrap64 ((l0.length : Int) - 1))).f1) then (some ((Int.tmod (shr .i64 a1 ((rd_T41 l0 (wrap64 ((l0.length : Int) - 1))).f1)) 2) == 1)) else (none)) else (if ((rd_T41 l0 (wrap64 ((l0.length : Int) - 1))).f0) = 1 then ((spec_l1Heads.f k a1).bind fun t343 => (some (decide (t343 ≥ ((rd_T41 l0 (wrap64 ((l0.length : Int) - 1))).f1))))) else (if ((rd_T41 l0 (wrap64 ((l0.length : Int) - 1))).f0) = 2 then (if (wrap64 ((l0.length : Int) - 1)) ≤ (l0.length : Int) then ((spec_l3Holds.f k (l0.take ((wrap64 ((l0.length : Int) - 1)) : Int).toNat) a1).bind fun t349 => (some (!t349))) else (none)) else ((spec_l2Starts.f k l0 (wrap64 ((wrap64 ((l0.length : Int) - 1)) - 1))).bind fun t350 => (if 0 ≤ t350 then (if t350 ≤ (l0.length : Int) then ((spec_l3Holds.f k (l0.take (t350 : Int).toNat) a1).bind fun t355 => (if t350 ≤ (wrap64 ((l0.length : Int) - 1)) then (if (wrap64 ((l0.length : Int) - 1)) ≤ (l0.length : Int) then ((spec_l3Holds.f k ((l0.take ((wrap64 ((l0.length : Int) - 1)) : Int).toNat).drop (t350 : Int).toNat) a1).bind fun t360 => (if ((rd_T41 l0 (wrap64 ((l0.length : Int) - 1))).f0) = 3 then (if t355 = true then (some t360) else (some false)) else (if ((rd_T41 l0 (wrap64 ((l0.length : Int) - 1))).f0) = 4 then (if t355 = true then (some true) else (some t360)) else (some (t355 == t360))))) else (none)) else (none))) else (none)) else (none)))))) else (none)) else (none)) = some r := h
 clear h
 obtain ⟨ji3, hji3⟩ : ∃ j_ : Int, (wrap64 ((l0.length : Int) - 1)) = j_ := ⟨_, rfl⟩
 replace H : (if 0 ≤ (ji3) then (if (ji3) < (l0.length : Int) then (if ((rd_T41 l0 (ji3)).f0) = 0 then (if 0 ≤ ((rd_T41 l0 (ji3)).f1) then (some ((Int.tmod (shr .i64 a1 ((rd_T41 l0 (ji3)).f1)) 2) == 1)) else (none)) else (if ((rd_T41 l0 (ji3)).f0) = 1 then ((spec_l1Heads.f k a1).bind fun t343 => (some (decide (t343 ≥ ((rd_T41 l0 (ji3)).f1))))) else (if ((rd_T41 l0 (ji3)).f0) = 2 then (if (ji3) ≤ (l0.length : Int) then ((spec_l3Holds.f k (l0.take ((ji3) : Int).toNat) a1).bind fun t349 => (some (!t349))) else (none)) else ((spec_l2Starts.f k l0 (wrap64 ((ji3) - 1))).bind fun t350 => (if 0 ≤ t350 then (if t350 ≤ (l0.length : Int) then ((spec_l3Holds.f k (l0.take (t350 : Int).toNat) a1).bind fun t355 => (if t350 ≤ (ji3) then (if (ji3) ≤ (l0.length : Int) then ((spec_l3Holds.f k ((l0.take ((ji3) : Int).toNat).drop (t350 : Int).toNat) a1).bind fun t360 => (if ((rd_T41 l0 (ji3)).f0) = 3 then (if t355 = true then (some t360) else (some false)) else (if ((rd_T41 l0 (ji3)).f0) = 4 then (if t355 = true then (some true) else (some t360)) else (some (t355 == t360))))) else (none)) else (none))) else (none)) else (none)))))) else (none)) else (none)) = some r := by first | (rw [hji3] at H; exact H) | (simp only [hji3] at H ⊢; exact H)
 have hji3w : (IntKind.i64.wrap ((l0.length : Int) - 1)) = ji3 := (i64_w _).trans hji3
 by_cases c4 : 0 ≤ (ji3)
 ·rw [if_pos c4] at H
  have c4b0 : decide (0 ≤ (ji3)) = true := decide_eq_true c4
  clear c4
  by_cases c5 : (ji3) < (l0.length : Int)
  ·rw [if_pos c5] at H
   have c5b0 : decide ((ji3) < (l0.length : Int)) = true := decide_eq_true c5
   clear c5
   by_cases c6 : ((rd_T41 l0 (ji3)).f0) = 0
   ·rw [if_pos c6] at H
    have c6b0 : (((rd_T41 l0 (ji3)).f0) == 0) = true := beq_iff_eq.mpr c6
    have c6b1 : (((rd_T41 l0 (ji3)).f0) != 0) = false := bne_eq_false_iff_eq.mpr c6
    clear c6
    by_cases c7 : 0 ≤ ((rd_T41 l0 (ji3)).f1)
    ·rw [if_pos c7] at H
     have c7b0 := eq_true c7
     have c7b1 : decide (0 ≤ ((rd_T41 l0 (ji3)).f1)) = true := decide_eq_true c7
     clear c7
     obtain ⟨ji8, hji8⟩ : ∃ j_ : Int, (shr .i64 a1 ((rd_T41 l0 (ji3)).f1)) = j_ := ⟨_, rfl⟩
     replace H : (some ((Int.tmod (ji8) 2) == 1)) = some r := by first | (rw [hji8] at H; exact H) | (simp only [hji8] at H ⊢; exact H)
     have hji8_ : (a1 / 2 ^ min ((rd_T41 l0 (ji3)).f1).toNat 64) = ji8 := hji8
     have hji8z : ((rd_T41 l0 (ji3)).f1) ≤ 64 → (a1 / 2 ^ ((rd_T41 l0 (ji3)).f1).toNat) = ji8 := shr_small hji8
     obtain rfl := Option.some.inj H
     have p341 : 0 ≤ ((ji3) : Int) := of_decide_eq_true pwb_
     have q341 : (ji3) < (l0.length : Int) := of_decide_eq_true pwb_
     obtain ⟨ad341, e341, hx341_0, hx341_1⟩ := at_T41 HR0.out (ji3) p341 q341
     cases e341
     replace p341 := eq_true p341
     replace q341 := eq_true q341
     have p342 : 0 ≤ ((ji3) : Int) := of_decide_eq_true pwb_
     have q342 : (ji3) < (l0.length : Int) := of_decide_eq_true pwb_
     obtain ⟨ad342, e342, hx342_0, hx342_1⟩ := at_T41 HR0.out (ji3) p342 q342
     obtain rfl : ad341 = ad342 := (by injection e342)
     replace p342 := eq_true p342
     replace q342 := eq_true q342
     go_enter Try.func59, Try.ntmps59
     go_wp2
     repeat (go_quiet (fail); try go_wp2)
     go_ret
     exact ⟨by first | rfl | (simp; done) | (simp only [← hji3, ← hji8] <;> (first | rfl | simp)) | (simp [*]; done), by repeat (first | exact Drawn0.refl _ | apply Drawn0.step)⟩
    ·rw [if_neg c7] at H
     exact absurd H (by simp)
   ·rw [if_neg c6] at H
    have c6b0 : (((rd_T41 l0 (ji3)).f0) == 0) = false := beq_eq_false_iff_ne.mpr c6
    have c6b1 : (((rd_T41 l0 (ji3)).f0) != 0) = true := bne_iff_ne.mpr c6
    by_cases c9 : ((rd_T41 l0 (ji3)).f0) = 1
    ·rw [if_pos c9] at H
     have c9b0 : (((rd_T41 l0 (ji3)).f0) == 1) = true := beq_iff_eq.mpr c9
     have c9b1 : (((rd_T41 l0 (ji3)).f0) != 1) = false := bne_eq_false_iff_eq.mpr c9
     clear c9
     replace H := Option.bind_eq_some_iff.mp H
     obtain ⟨t343, A100, H⟩ := H
     replace H : (some (decide (t343 ≥ ((rd_T41 l0 (ji3)).f1)))) = some r := H
     have A10 := Aside0.mk A100
     clear A100
     obtain rfl := Option.some.inj H
     have p341 : 0 ≤ ((ji3) : Int) := of_decide_eq_true pwb_
     have q341 : (ji3) < (l0.length : Int) := of_decide_eq_true pwb_
     obtain ⟨ad341, e341, hx341_0, hx341_1⟩ := at_T41 HR0.out (ji3) p341 q341
     cases e341
     replace p341 := eq_true p341
     replace q341 := eq_true q341
     go_enter Try.func59, Try.ntmps59
     go_wp2_with (first | (go_at_call 67; (with_reducible refine (spec_l1Heads.calls k a1 t343 _ A10.out).mono ?_); rintro e w' ⟨rfl, ⟨nd, rfl⟩⟩; (try first | exact ⟨rfl, _, World.drewN_drewN _ _ _⟩ | exact ⟨rfl, _, Eq.trans (World.drewN_drewN _ _ _) (congrArg (World.drewN _) (Nat.add_assoc _ _ _))⟩); have p344 : 0 ≤ ((ji3) : Int) := of_decide_eq_true pwb_; have q344 : (ji3) < (l0.length : Int) := of_decide_eq_true pwb_; obtain ⟨ad344, e344, hx344_0, hx344_1⟩ := at_T41 HR0.out (ji3) p344 q344; obtain rfl : ad341 = ad344 := (by injection e344); replace p344 := eq_true p344; replace q344 := eq_true q344))
     repeat (go_quiet (first | (go_at_call 67; (with_reducible refine (spec_l1Heads.calls k a1 t343 _ A10.out).mono ?_); rintro e w' ⟨rfl, ⟨nd, rfl⟩⟩; (try first | exact ⟨rfl, _, World.drewN_drewN _ _ _⟩ | exact ⟨rfl, _, Eq.trans (World.drewN_drewN _ _ _) (congrArg (World.drewN _) (Nat.add_assoc _ _ _))⟩); have p344 : 0 ≤ ((ji3) : Int) := of_decide_eq_true pwb_; have q344 : (ji3) < (l0.length : Int) := of_decide_eq_true pwb_; obtain ⟨ad344, e344, hx344_0, hx344_1⟩ := at_T41 HR0.out (ji3) p344 q344; obtain rfl : ad341 = ad344 := (by injection e344); replace p344 := eq_true p344; replace q344 := eq_true q344)); try go_wp2_with (first | (go_at_call 67; (with_reducible refine (spec_l1Heads.calls k a1 t343 _ A10.out).mono ?_); rintro e w' ⟨rfl, ⟨nd, rfl⟩⟩; (try first | exact ⟨rfl, _, World.drewN_drewN _ _ _⟩ | exact ⟨rfl, _, Eq.trans (World.drewN_drewN _ _ _) (congrArg (World.drewN _) (Nat.add_assoc _ _ _))⟩); have p344 : 0 ≤ ((ji3) : Int) := of_decide_eq_true pwb_; have q344 : (ji3) < (l0.length : Int) := of_decide_eq_true pwb_; obtain ⟨ad344, e344, hx344_0, hx344_1⟩ := at_T41 HR0.out (ji3) p344 q344; obtain rfl : ad341 = ad344 := (by injection e344); replace p344 := eq_true p344; replace q344 := eq_true q344)))
     go_ret
     exact ⟨by first | rfl | (simp; done) | (simp only [← hji3] <;> (first | rfl | simp)) | (simp [*]; done), by repeat (first | exact Drawn0.refl _ | apply Drawn0.step)⟩
    ·rw [if_neg c9] at H
     have c9b0 : (((rd_T41 l0 (ji3)).f0) == 1) = false := beq_eq_false_iff_ne.mpr c9
     have c9b1 : (((rd_T41 l0 (ji3)).f0) != 1) = true := bne_iff_ne.mpr c9
     by_cases c11 : ((rd_T41 l0 (ji3)).f0) = 2
     ·rw [if_pos c11] at H
      have c11b0 : (((rd_T41 l0 (ji3)).f0) == 2) = true := beq_iff_eq.mpr c11
      have c11b1 : (((rd_T41 l0 (ji3)).f0) != 2) = false := bne_eq_false_iff_eq.mpr c11
      clear c11
      have c12b0 := eq_true (of_decide_eq_true pwb_ : 0 ≤ (ji3))
      by_cases c13 : (ji3) ≤ (l0.length : Int)
      ·rw [if_pos c13] at H
       have c13b0 := eq_true c13
       have c13b1 : decide ((ji3) ≤ (l0.length : Int)) = true := decide_eq_true c13
       clear c13
       obtain ⟨y345, hy345⟩ : ∃ y_ : List (S41), y_ = (l0.take ((ji3) : Int).toNat) := ⟨_, rfl⟩
       replace H : ((spec_l3Holds.f k y345 a1).bind fun t349 => (some (!t349))) = some r := by first | (rw [hy345]; with_reducible exact H) | (have H2_ := (Option.bind_some _ _).symm.trans H; rw [hy345]; with_reducible exact H2_) | (have H2_ := (Option.bind_some _ _).symm.trans H; with_reducible exact H2_) | with_reducible exact H | (rw [hy345]; exact H) | exact H
       have Ny345 := Aside0.mk hy345
       clear hy345
       replace H := Option.bind_eq_some_iff.mp H
       obtain ⟨t349, A140, H⟩ := H
       replace H : (some (!t349)) = some r := H
       have A14 := Aside0.mk A140
       clear A140
       obtain rfl := Option.some.inj H
       have p341 : 0 ≤ ((ji3) : Int) := of_decide_eq_true pwb_
       have q341 : (ji3) < (l0.length : Int) := of_decide_eq_true pwb_
       obtain ⟨ad341, e341, hx341_0, hx341_1⟩ := at_T41 HR0.out (ji3) p341 q341
       cases e341
       replace p341 := eq_true p341
       replace q341 := eq_true q341
       have q15 : ((ji3) : Int) ≤ ((l0.length : Int) : Int) := of_decide_eq_true pwb_
       obtain ⟨i015, hi015, _, hsz15, _⟩ := info_parts info41
       have hroom15 : l0.length ≤ c0 := HC0.out
       have hC15 : Kd.C k41 _ (some ad341) l0.length l0 := HR0.out
       have hcut15 := cut_to (P := Try.prog) 23 41 .i64 Try.underlying23 hi015 (some ad341) l0.length c0 (ji3) (of_decide_eq_true pwb_) q15 hroom15
       have hr15 := Kd.C_take (m := ((ji3) : Int).toNat) hC15 (by omega)
       have hy15 : y345.length = ((ji3) : Int).toNat := (by rw [Ny345.out, List.length_take]; omega)
       rw [← Ny345.out] at hr15
       rw [← hy15] at hcut15
       have HR348 := Aside0.mk hr15
       have HC348 := Aside0.mk (show y345.length ≤ c0 from by omega)
       clear hr15 hC15 hroom15 hi015 hsz15
       have KY15 := Aside0.mk hy15
       clear hy15
       replace q15 := eq_true q15
       go_enter Try.func59, Try.ntmps59
       go_wp2_with (first | (go_at_call 59; (with_reducible refine (ih k (by omega) _ _ y345 a1 t349 _ ?side1 ?side2 A14.out).mono ?_); (case side1 => repeat (first | exact HR348.out | (with_reducible refine Kd.C_alloc ?_ _) | (with_reducible refine Kd.C_drewN ?_ _) | (with_reducible refine Kd.C_drew ?_))); (case side2 => exact HC348.out); rintro e w' ⟨rfl, ⟨nd, rfl⟩⟩; (try first | exact ⟨rfl, _, World.drewN_drewN _ _ _⟩ | exact ⟨rfl, _, Eq.trans (World.drewN_drewN _ _ _) (congrArg (World.drewN _) (Nat.add_assoc _ _ _))⟩)))
       repeat (go_quiet (first | (go_at_call 59; (with_reducible refine (ih k (by omega) _ _ y345 a1 t349 _ ?side1 ?side2 A14.out).mono ?_); (case side1 => repeat (first | exact HR348.out | (with_reducible refine Kd.C_alloc ?_ _) | (with_reducible refine Kd.C_drewN ?_ _) | (with_reducible refine Kd.C_drew ?_))); (case side2 => exact HC348.out); rintro e w' ⟨rfl, ⟨nd, rfl⟩⟩; (try first | exact ⟨rfl, _, World.drewN_drewN _ _ _⟩ | exact ⟨rfl, _, Eq.trans (World.drewN_drewN _ _ _) (congrArg (World.drewN _) (Nat.add_assoc _ _ _))⟩))); try go_wp2_with (first | (go_at_call 59; (with_reducible refine (ih k (by omega) _ _ y345 a1 t349 _ ?side1 ?side2 A14.out).mono ?_); (case side1 => repeat (first | exact HR348.out | (with_reducible refine Kd.C_alloc ?_ _) | (with_reducible refine Kd.C_drewN ?_ _) | (with_reducible refine Kd.C_drew ?_))); (case side2 => exact HC348.out); rintro e w' ⟨rfl, ⟨nd, rfl⟩⟩; (try first | exact ⟨rfl, _, World.drewN_drewN _ _ _⟩ | exact ⟨rfl, _, Eq.trans (World.drewN_drewN _ _ _) (congrArg (World.drewN _) (Nat.add_assoc _ _ _))⟩))))
       go_ret
       exact ⟨by first | rfl | (simp; done) | (simp only [← hji3] <;> (first | rfl | simp)) | (simp [*]; done), by repeat (first | exact Drawn0.refl _ | apply Drawn0.step)⟩
      ·rw [if_neg c13] at H
       exact absurd H (by simp)
     ·rw [if_neg c11] at H
      have c11b0 : (((rd_T41 l0 (ji3)).f0) == 2) = false := beq_eq_false_iff_ne.mpr c11
      have c11b1 : (((rd_T41 l0 (ji3)).f0) != 2) = true := bne_iff_ne.mpr c11
      replace H := Option.bind_eq_some_iff.mp H
      obtain ⟨t350, A160, H⟩ := H
      replace H : (if 0 ≤ t350 then (if t350 ≤ (l0.length : Int) then ((spec_l3Holds.f k (l0.take (t350 : Int).toNat) a1).bind fun t355 => (if t350 ≤ (ji3) then (if (ji3) ≤ (l0.length : Int) then ((spec_l3Holds.f k ((l0.take ((ji3) : Int).toNat).drop (t350 : Int).toNat) a1).bind fun t360 => (if ((rd_T41 l0 (ji3)).f0) = 3 then (if t355 = true then (some t360) else (some false)) else (if ((rd_T41 l0 (ji3)).f0) = 4 then (if t355 = true then (some true) else (some t360)) else (some (t355 == t360))))) else (none)) else (none))) else (none)) else (none)) = some r := H
      have A16 := Aside0.mk A160
      clear A160
      by_cases c17 : 0 ≤ t350
      ·rw [if_pos c17] at H
       have c17b0 := eq_true c17
       have c17b1 : decide (0 ≤ t350) = true := decide_eq_true c17
       clear c17
       by_cases c18 : t350 ≤ (l0.length : Int)
       ·rw [if_pos c18] at H
        have c18b0 := eq_true c18
        have c18b1 : decide (t350 ≤ (l0.length : Int)) = true := decide_eq_true c18
        clear c18
        obtain ⟨y351, hy351⟩ : ∃ y_ : List (S41), y_ = (l0.take (t350 : Int).toNat) := ⟨_, rfl⟩
        replace H : ((spec_l3Holds.f k y351 a1).bind fun t355 => (if t350 ≤ (ji3) then (if (ji3) ≤ (l0.length : Int) then ((spec_l3Holds.f k ((l0.take ((ji3) : Int).toNat).drop (t350 : Int).toNat) a1).bind fun t360 => (if ((rd_T41 l0 (ji3)).f0) = 3 then (if t355 = true then (some t360) else (some false)) else (if ((rd_T41 l0 (ji3)).f0) = 4 then (if t355 = true then (some true) else (some t360)) else (some (t355 == t360))))) else (none)) else (none))) = some r := by first | (rw [hy351]; with_reducible exact H) | (have H2_ := (Option.bind_some _ _).symm.trans H; rw [hy351]; with_reducible exact H2_) | (have H2_ := (Option.bind_some _ _).symm.trans H; with_reducible exact H2_) | with_reducible exact H | (rw [hy351]; exact H) | exact H
        have Ny351 := Aside0.mk hy351
        clear hy351
        replace H := Option.bind_eq_some_iff.mp H
        obtain ⟨t355, A190, H⟩ := H
        replace H : (if t350 ≤ (ji3) then (if (ji3) ≤ (l0.length : Int) then ((spec_l3Holds.f k ((l0.take ((ji3) : Int).toNat).drop (t350 : Int).toNat) a1).bind fun t360 => (if ((rd_T41 l0 (ji3)).f0) = 3 then (if t355 = true then (some t360) else (some false)) else (if ((rd_T41 l0 (ji3)).f0) = 4 then (if t355 = true then (some true) else (some t360)) else (some (t355 == t360))))) else (none)) else (none)) = some r := H
        have A19 := Aside0.mk A190
        clear A190
        have c20b0 := eq_true (of_decide_eq_true pwb_ : 0 ≤ t350)
        by_cases c21 : t350 ≤ (ji3)
        ·rw [if_pos c21] at H
         have c21b0 := eq_true c21
         have c21b1 : decide (t350 ≤ (ji3)) = true := decide_eq_true c21
         clear c21
         by_cases c22 : (ji3) ≤ (l0.length : Int)
         ·rw [if_pos c22] at H
          have c22b0 := eq_true c22
          have c22b1 : decide ((ji3) ≤ (l0.length : Int)) = true := decide_eq_true c22
          clear c22
          obtain ⟨y356, hy356⟩ : ∃ y_ : List (S41), y_ = ((l0.take ((ji3) : Int).toNat).drop (t350 : Int).toNat) := ⟨_, rfl⟩
          replace H : ((spec_l3Holds.f k y356 a1).bind fun t360 => (if ((rd_T41 l0 (ji3)).f0) = 3 then (if t355 = true then (some t360) else (some false)) else (if ((rd_T41 l0 (ji3)).f0) = 4 then (if t355 = true then (some true) else (some t360)) else (some (t355 == t360))))) = some r := by first | (rw [hy356]; with_reducible exact H) | (have H2_ := (Option.bind_some _ _).symm.trans H; rw [hy356]; with_reducible exact H2_) | (have H2_ := (Option.bind_some _ _).symm.trans H; with_reducible exact H2_) | with_reducible exact H | (rw [hy356]; exact H) | exact H
          have Ny356 := Aside0.mk hy356
          clear hy356
          replace H := Option.bind_eq_some_iff.mp H
          obtain ⟨t360, A230, H⟩ := H
          replace H : (if ((rd_T41 l0 (ji3)).f0) = 3 then (if t355 = true then (some t360) else (some false)) else (if ((rd_T41 l0 (ji3)).f0) = 4 then (if t355 = true then (some true) else (some t360)) else (some (t355 == t360)))) = some r := H
          have A23 := Aside0.mk A230
          clear A230
          by_cases c24 : ((rd_T41 l0 (ji3)).f0) = 3
          ·rw [if_pos c24] at H
           have c24b0 : (((rd_T41 l0 (ji3)).f0) == 3) = true := beq_iff_eq.mpr c24
           have c24b1 : (((rd_T41 l0 (ji3)).f0) != 3) = false := bne_eq_false_iff_eq.mpr c24
           clear c24
           by_cases c25 : t355 = true
           ·subst c25
            have H1 : (some t360) = some r := by rw [if_pos rfl] at H; exact H
            clear H
            have H := H1
            clear H1
            obtain rfl := Option.some.inj H
            have p341 : 0 ≤ ((ji3) : Int) := of_decide_eq_true pwb_
            have q341 : (ji3) < (l0.length : Int) := of_decide_eq_true pwb_
            obtain ⟨ad341, e341, hx341_0, hx341_1⟩ := at_T41 HR0.out (ji3) p341 q341
            cases e341
            replace p341 := eq_true p341
            replace q341 := eq_true q341
            go_enter Try.func59, Try.ntmps59
            go_wp2_with (first | (go_at_call 68; (with_reducible refine (spec_l2Starts.calls k _ _ l0 (wrap64 ((ji3) - 1)) t350 _ ?side1 ?side2 A16.out).mono ?_); (case side1 => repeat (first | exact HR0.out | (with_reducible refine Kd.C_alloc ?_ _) | (with_reducible refine Kd.C_drewN ?_ _) | (with_reducible refine Kd.C_drew ?_))); (case side2 => exact HC0.out); rintro e w' ⟨rfl, ⟨nd, rfl⟩⟩; (try first | exact ⟨rfl, _, World.drewN_drewN _ _ _⟩ | exact ⟨rfl, _, Eq.trans (World.drewN_drewN _ _ _) (congrArg (World.drewN _) (Nat.add_assoc _ _ _))⟩); have q26 : (t350 : Int) ≤ ((l0.length : Int) : Int) := of_decide_eq_true pwb_; obtain ⟨i026, hi026, _, hsz26, _⟩ := info_parts info41; have hroom26 : l0.length ≤ c0 := HC0.out; have hC26 : Kd.C k41 _ (some ad341) l0.length l0 := HR0.out; have hcut26 := cut_to (P := Try.prog) 23 41 .i64 Try.underlying23 hi026 (some ad341) l0.length c0 t350 (of_decide_eq_true pwb_) q26 hroom26; have hr26 := Kd.C_take (m := (t350 : Int).toNat) hC26 (by omega); have hy26 : y351.length = (t350 : Int).toNat := (by rw [Ny351.out, List.length_take]; omega); rw [← Ny351.out] at hr26; rw [← hy26] at hcut26; have HR354 := Aside0.mk hr26; have HC354 := Aside0.mk (show y351.length ≤ c0 from by omega); clear hr26 hC26 hroom26 hi026 hsz26; have KY26 := Aside0.mk hy26; clear hy26; replace q26 := eq_true q26) | (go_at_call 59; (with_reducible refine (ih k (by omega) _ _ y351 a1 true _ ?side1 ?side2 A19.out).mono ?_); (case side1 => repeat (first | exact HR354.out | (with_reducible refine Kd.C_alloc ?_ _) | (with_reducible refine Kd.C_drewN ?_ _) | (with_reducible refine Kd.C_drew ?_))); (case side2 => exact HC354.out); rintro e w' ⟨rfl, ⟨nd, rfl⟩⟩; (try first | exact ⟨rfl, _, World.drewN_drewN _ _ _⟩ | exact ⟨rfl, _, Eq.trans (World.drewN_drewN _ _ _) (congrArg (World.drewN _) (Nat.add_assoc _ _ _))⟩); have q27 : ((ji3) : Int) ≤ ((l0.length : Int) : Int) := of_decide_eq_true pwb_; obtain ⟨i027, hi027, _, hsz27, _⟩ := info_parts info41; have hroom27 : l0.length ≤ c0 := HC0.out; have hC27 : Kd.C k41 _ (some ad341) l0.length l0 := HR0.out; have ql27 : (t350 : Int) ≤ ((ji3) : Int) := of_decide_eq_true pwb_; have q027 : (0 : Int) ≤ (t350 : Int) := of_decide_eq_true pwb_; have hcut27 := cut_mid (P := Try.prog) 23 41 .i64 .i64 Try.underlying23 hi027 2 hsz27 (some ad341) l0.length c0 t350 (ji3) q027 ql27 q27 hroom27; have hr27 := Kd.C_mid (lo := (t350 : Int).toNat) (hi := ((ji3) : Int).toNat) (c := c0) hC27 (by omega) (by omega) hroom27; obtain ⟨A27, hA27⟩ : ∃ A1, A1 = (if c0 = (t350 : Int).toNat then (some ad341) else ((some ad341) : Option Addr).map (·.add ((t350 : Int).toNat * 2))) := ⟨_, rfl⟩; obtain ⟨c27, hc27⟩ : ∃ c1, c1 = c0 - (t350 : Int).toNat := ⟨_, rfl⟩; have hy27 : y356.length = ((ji3) : Int).toNat - (t350 : Int).toNat := (by rw [Ny356.out, List.length_drop, List.length_take] <;> omega); rw [show ((l0).take ((ji3) : Int).toNat).drop (t350 : Int).toNat = y356 from Ny356.out.symm] at hr27; replace hr27 : Kd.C k41 _ A27 y356.length y356 := (by rw [hA27]; exact hr27); rw [← hy27, ← hA27, ← hc27] at hcut27; have HR359 := Aside0.mk hr27; have HC359 := Aside0.mk (show y356.length ≤ c27 from by rw [hy27, hc27]; exact Nat.sub_le_sub_right (Nat.le_trans (by omega) hroom27) _); clear hr27 hC27 hroom27 hi027 hsz27 hc27; have KY27 := Aside0.mk hy27; have KA27 := Aside0.mk hA27; clear hy27 hA27; replace q27 := eq_true q27) | (go_at_call 59; (with_reducible refine (ih k (by omega) _ _ y356 a1 t360 _ ?side1 ?side2 A23.out).mono ?_); (case side1 => repeat (first | exact HR359.out | (with_reducible refine Kd.C_alloc ?_ _) | (with_reducible refine Kd.C_drewN ?_ _) | (with_reducible refine Kd.C_drew ?_))); (case side2 => exact HC359.out); rintro e w' ⟨rfl, ⟨nd, rfl⟩⟩; (try first | exact ⟨rfl, _, World.drewN_drewN _ _ _⟩ | exact ⟨rfl, _, Eq.trans (World.drewN_drewN _ _ _) (congrArg (World.drewN _) (Nat.add_assoc _ _ _))⟩); have p361 : 0 ≤ ((ji3) : Int) := of_decide_eq_true pwb_; have q361 : (ji3) < (l0.length : Int) := of_decide_eq_true pwb_; obtain ⟨ad361, e361, hx361_0, hx361_1⟩ := at_T41 HR0.out (ji3) p361 q361; obtain rfl : ad341 = ad361 := (by injection e361); replace p361 := eq_true p361; replace q361 := eq_true q361))
            repeat (go_quiet (first | (go_at_call 68; (with_reducible refine (spec_l2Starts.calls k _ _ l0 (wrap64 ((ji3) - 1)) t350 _ ?side1 ?side2 A16.out).mono ?_); (case side1 => repeat (first | exact HR0.out | (with_reducible refine Kd.C_alloc ?_ _) | (with_reducible refine Kd.C_drewN ?_ _) | (with_reducible refine Kd.C_drew ?_))); (case side2 => exact HC0.out); rintro e w' ⟨rfl, ⟨nd, rfl⟩⟩; (try first | exact ⟨rfl, _, World.drewN_drewN _ _ _⟩ | exact ⟨rfl, _, Eq.trans (World.drewN_drewN _ _ _) (congrArg (World.drewN _) (Nat.add_assoc _ _ _))⟩); have q26 : (t350 : Int) ≤ ((l0.length : Int) : Int) := of_decide_eq_true pwb_; obtain ⟨i026, hi026, _, hsz26, _⟩ := info_parts info41; have hroom26 : l0.length ≤ c0 := HC0.out; have hC26 : Kd.C k41 _ (some ad341) l0.length l0 := HR0.out; have hcut26 := cut_to (P := Try.prog) 23 41 .i64 Try.underlying23 hi026 (some ad341) l0.length c0 t350 (of_decide_eq_true pwb_) q26 hroom26; have hr26 := Kd.C_take (m := (t350 : Int).toNat) hC26 (by omega); have hy26 : y351.length = (t350 : Int).toNat := (by rw [Ny351.out, List.length_take]; omega); rw [← Ny351.out] at hr26; rw [← hy26] at hcut26; have HR354 := Aside0.mk hr26; have HC354 := Aside0.mk (show y351.length ≤ c0 from by omega); clear hr26 hC26 hroom26 hi026 hsz26; have KY26 := Aside0.mk hy26; clear hy26; replace q26 := eq_true q26) | (go_at_call 59; (with_reducible refine (ih k (by omega) _ _ y351 a1 true _ ?side1 ?side2 A19.out).mono ?_); (case side1 => repeat (first | exact HR354.out | (with_reducible refine Kd.C_alloc ?_ _) | (with_reducible refine Kd.C_drewN ?_ _) | (with_reducible refine Kd.C_drew ?_))); (case side2 => exact HC354.out); rintro e w' ⟨rfl, ⟨nd, rfl⟩⟩; (try first | exact ⟨rfl, _, World.drewN_drewN _ _ _⟩ | exact ⟨rfl, _, Eq.trans (World.drewN_drewN _ _ _) (congrArg (World.drewN _) (Nat.add_assoc _ _ _))⟩); have q27 : ((ji3) : Int) ≤ ((l0.length : Int) : Int) := of_decide_eq_true pwb_; obtain ⟨i027, hi027, _, hsz27, _⟩ := info_parts info41; have hroom27 : l0.length ≤ c0 := HC0.out; have hC27 : Kd.C k41 _ (some ad341) l0.length l0 := HR0.out; have ql27 : (t350 : Int) ≤ ((ji3) : Int) := of_decide_eq_true pwb_; have q027 : (0 : Int) ≤ (t350 : Int) := of_decide_eq_true pwb_; have hcut27 := cut_mid (P := Try.prog) 23 41 .i64 .i64 Try.underlying23 hi027 2 hsz27 (some ad341) l0.length c0 t350 (ji3) q027 ql27 q27 hroom27; have hr27 := Kd.C_mid (lo := (t350 : Int).toNat) (hi := ((ji3) : Int).toNat) (c := c0) hC27 (by omega) (by omega) hroom27; obtain ⟨A27, hA27⟩ : ∃ A1, A1 = (if c0 = (t350 : Int).toNat then (some ad341) else ((some ad341) : Option Addr).map (·.add ((t350 : Int).toNat * 2))) := ⟨_, rfl⟩; obtain ⟨c27, hc27⟩ : ∃ c1, c1 = c0 - (t350 : Int).toNat := ⟨_, rfl⟩; have hy27 : y356.length = ((ji3) : Int).toNat - (t350 : Int).toNat := (by rw [Ny356.out, List.length_drop, List.length_take] <;> omega); rw [show ((l0).take ((ji3) : Int).toNat).drop (t350 : Int).toNat = y356 from Ny356.out.symm] at hr27; replace hr27 : Kd.C k41 _ A27 y356.length y356 := (by rw [hA27]; exact hr27); rw [← hy27, ← hA27, ← hc27] at hcut27; have HR359 := Aside0.mk hr27; have HC359 := Aside0.mk (show y356.length ≤ c27 from by rw [hy27, hc27]; exact Nat.sub_le_sub_right (Nat.le_trans (by omega) hroom27) _); clear hr27 hC27 hroom27 hi027 hsz27 hc27; have KY27 := Aside0.mk hy27; have KA27 := Aside0.mk hA27; clear hy27 hA27; replace q27 := eq_true q27) | (go_at_call 59; (with_reducible refine (ih k (by omega) _ _ y356 a1 t360 _ ?side1 ?side2 A23.out).mono ?_); (case side1 => repeat (first | exact HR359.out | (with_reducible refine Kd.C_alloc ?_ _) | (with_reducible refine Kd.C_drewN ?_ _) | (with_reducible refine Kd.C_drew ?_))); (case side2 => exact HC359.out); rintro e w' ⟨rfl, ⟨nd, rfl⟩⟩; (try first | exact ⟨rfl, _, World.drewN_drewN _ _ _⟩ | exact ⟨rfl, _, Eq.trans (World.drewN_drewN _ _ _) (congrArg (World.drewN _) (Nat.add_assoc _ _ _))⟩); have p361 : 0 ≤ ((ji3) : Int) := of_decide_eq_true pwb_; have q361 : (ji3) < (l0.length : Int) := of_decide_eq_true pwb_; obtain ⟨ad361, e361, hx361_0, hx361_1⟩ := at_T41 HR0.out (ji3) p361 q361; obtain rfl : ad341 = ad361 := (by injection e361); replace p361 := eq_true p361; replace q361 := eq_true q361)); try go_wp2_with (first | (go_at_call 68; (with_reducible refine (spec_l2Starts.calls k _ _ l0 (wrap64 ((ji3) - 1)) t350 _ ?side1 ?side2 A16.out).mono ?_); (case side1 => repeat (first | exact HR0.out | (with_reducible refine Kd.C_alloc ?_ _) | (with_reducible refine Kd.C_drewN ?_ _) | (with_reducible refine Kd.C_drew ?_))); (case side2 => exact HC0.out); rintro e w' ⟨rfl, ⟨nd, rfl⟩⟩; (try first | exact ⟨rfl, _, World.drewN_drewN _ _ _⟩ | exact ⟨rfl, _, Eq.trans (World.drewN_drewN _ _ _) (congrArg (World.drewN _) (Nat.add_assoc _ _ _))⟩); have q26 : (t350 : Int) ≤ ((l0.length : Int) : Int) := of_decide_eq_true pwb_; obtain ⟨i026, hi026, _, hsz26, _⟩ := info_parts info41; have hroom26 : l0.length ≤ c0 := HC0.out; have hC26 : Kd.C k41 _ (some ad341) l0.length l0 := HR0.out; have hcut26 := cut_to (P := Try.prog) 23 41 .i64 Try.underlying23 hi026 (some ad341) l0.length c0 t350 (of_decide_eq_true pwb_) q26 hroom26; have hr26 := Kd.C_take (m := (t350 : Int).toNat) hC26 (by omega); have hy26 : y351.length = (t350 : Int).toNat := (by rw [Ny351.out, List.length_take]; omega); rw [← Ny351.out] at hr26; rw [← hy26] at hcut26; have HR354 := Aside0.mk hr26; have HC354 := Aside0.mk (show y351.length ≤ c0 from by omega); clear hr26 hC26 hroom26 hi026 hsz26; have KY26 := Aside0.mk hy26; clear hy26; replace q26 := eq_true q26) | (go_at_call 59; (with_reducible refine (ih k (by omega) _ _ y351 a1 true _ ?side1 ?side2 A19.out).mono ?_); (case side1 => repeat (first | exact HR354.out | (with_reducible refine Kd.C_alloc ?_ _) | (with_reducible refine Kd.C_drewN ?_ _) | (with_reducible refine Kd.C_drew ?_))); (case side2 => exact HC354.out); rintro e w' ⟨rfl, ⟨nd, rfl⟩⟩; (try first | exact ⟨rfl, _, World.drewN_drewN _ _ _⟩ | exact ⟨rfl, _, Eq.trans (World.drewN_drewN _ _ _) (congrArg (World.drewN _) (Nat.add_assoc _ _ _))⟩); have q27 : ((ji3) : Int) ≤ ((l0.length : Int) : Int) := of_decide_eq_true pwb_; obtain ⟨i027, hi027, _, hsz27, _⟩ := info_parts info41; have hroom27 : l0.length ≤ c0 := HC0.out; have hC27 : Kd.C k41 _ (some ad341) l0.length l0 := HR0.out; have ql27 : (t350 : Int) ≤ ((ji3) : Int) := of_decide_eq_true pwb_; have q027 : (0 : Int) ≤ (t350 : Int) := of_decide_eq_true pwb_; have hcut27 := cut_mid (P := Try.prog) 23 41 .i64 .i64 Try.underlying23 hi027 2 hsz27 (some ad341) l0.length c0 t350 (ji3) q027 ql27 q27 hroom27; have hr27 := Kd.C_mid (lo := (t350 : Int).toNat) (hi := ((ji3) : Int).toNat) (c := c0) hC27 (by omega) (by omega) hroom27; obtain ⟨A27, hA27⟩ : ∃ A1, A1 = (if c0 = (t350 : Int).toNat then (some ad341) else ((some ad341) : Option Addr).map (·.add ((t350 : Int).toNat * 2))) := ⟨_, rfl⟩; obtain ⟨c27, hc27⟩ : ∃ c1, c1 = c0 - (t350 : Int).toNat := ⟨_, rfl⟩; have hy27 : y356.length = ((ji3) : Int).toNat - (t350 : Int).toNat := (by rw [Ny356.out, List.length_drop, List.length_take] <;> omega); rw [show ((l0).take ((ji3) : Int).toNat).drop (t350 : Int).toNat = y356 from Ny356.out.symm] at hr27; replace hr27 : Kd.C k41 _ A27 y356.length y356 := (by rw [hA27]; exact hr27); rw [← hy27, ← hA27, ← hc27] at hcut27; have HR359 := Aside0.mk hr27; have HC359 := Aside0.mk (show y356.length ≤ c27 from by rw [hy27, hc27]; exact Nat.sub_le_sub_right (Nat.le_trans (by omega) hroom27) _); clear hr27 hC27 hroom27 hi027 hsz27 hc27; have KY27 := Aside0.mk hy27; have KA27 := Aside0.mk hA27; clear hy27 hA27; replace q27 := eq_true q27) | (go_at_call 59; (with_reducible refine (ih k (by omega) _ _ y356 a1 t360 _ ?side1 ?side2 A23.out).mono ?_); (case side1 => repeat (first | exact HR359.out | (with_reducible refine Kd.C_alloc ?_ _) | (with_reducible refine Kd.C_drewN ?_ _) | (with_reducible refine Kd.C_drew ?_))); (case side2 => exact HC359.out); rintro e w' ⟨rfl, ⟨nd, rfl⟩⟩; (try first | exact ⟨rfl, _, World.drewN_drewN _ _ _⟩ | exact ⟨rfl, _, Eq.trans (World.drewN_drewN _ _ _) (congrArg (World.drewN _) (Nat.add_assoc _ _ _))⟩); have p361 : 0 ≤ ((ji3) : Int) := of_decide_eq_true pwb_; have q361 : (ji3) < (l0.length : Int) := of_decide_eq_true pwb_; obtain ⟨ad361, e361, hx361_0, hx361_1⟩ := at_T41 HR0.out (ji3) p361 q361; obtain rfl : ad341 = ad361 := (by injection e361); replace p361 := eq_true p361; replace q361 := eq_true q361)))
            go_ret
            exact ⟨by first | rfl | (simp; done) | (simp only [← hji3] <;> (first | rfl | simp)) | (simp [*]; done), by repeat (first | exact Drawn0.refl _ | apply Drawn0.step)⟩
           ·replace c25 := Bool.eq_false_iff.mpr c25
            subst c25
            have H1 : (some false) = some r := by rw [if_neg (show ¬ (false = true) by decide)] at H; exact H
            clear H
            have H := H1
            clear H1
            obtain rfl := Option.some.inj H
            have p341 : 0 ≤ ((ji3) : Int) := of_decide_eq_true pwb_
            have q341 : (ji3) < (l0.length : Int) := of_decide_eq_true pwb_
            obtain ⟨ad341, e341, hx341_0, hx341_1⟩ := at_T41 HR0.out (ji3) p341 q341
            cases e341
            replace p341 := eq_true p341
            replace q341 := eq_true q341
            go_enter Try.func59, Try.ntmps59
            go_wp2_with (first | (go_at_call 68; (with_reducible refine (spec_l2Starts.calls k _ _ l0 (wrap64 ((ji3) - 1)) t350 _ ?side1 ?side2 A16.out).mono ?_); (case side1 => repeat (first | exact HR0.out | (with_reducible refine Kd.C_alloc ?_ _) | (with_reducible refine Kd.C_drewN ?_ _) | (with_reducible refine Kd.C_drew ?_))); (case side2 => exact HC0.out); rintro e w' ⟨rfl, ⟨nd, rfl⟩⟩; (try first | exact ⟨rfl, _, World.drewN_drewN _ _ _⟩ | exact ⟨rfl, _, Eq.trans (World.drewN_drewN _ _ _) (congrArg (World.drewN _) (Nat.add_assoc _ _ _))⟩); have q28 : (t350 : Int) ≤ ((l0.length : Int) : Int) := of_decide_eq_true pwb_; obtain ⟨i028, hi028, _, hsz28, _⟩ := info_parts info41; have hroom28 : l0.length ≤ c0 := HC0.out; have hC28 : Kd.C k41 _ (some ad341) l0.length l0 := HR0.out; have hcut28 := cut_to (P := Try.prog) 23 41 .i64 Try.underlying23 hi028 (some ad341) l0.length c0 t350 (of_decide_eq_true pwb_) q28 hroom28; have hr28 := Kd.C_take (m := (t350 : Int).toNat) hC28 (by omega); have hy28 : y351.length = (t350 : Int).toNat := (by rw [Ny351.out, List.length_take]; omega); rw [← Ny351.out] at hr28; rw [← hy28] at hcut28; have HR354 := Aside0.mk hr28; have HC354 := Aside0.mk (show y351.length ≤ c0 from by omega); clear hr28 hC28 hroom28 hi028 hsz28; have KY28 := Aside0.mk hy28; clear hy28; replace q28 := eq_true q28) | (go_at_call 59; (with_reducible refine (ih k (by omega) _ _ y351 a1 false _ ?side1 ?side2 A19.out).mono ?_); (case side1 => repeat (first | exact HR354.out | (with_reducible refine Kd.C_alloc ?_ _) | (with_reducible refine Kd.C_drewN ?_ _) | (with_reducible refine Kd.C_drew ?_))); (case side2 => exact HC354.out); rintro e w' ⟨rfl, ⟨nd, rfl⟩⟩; (try first | exact ⟨rfl, _, World.drewN_drewN _ _ _⟩ | exact ⟨rfl, _, Eq.trans (World.drewN_drewN _ _ _) (congrArg (World.drewN _) (Nat.add_assoc _ _ _))⟩); have q29 : ((ji3) : Int) ≤ ((l0.length : Int) : Int) := of_decide_eq_true pwb_; obtain ⟨i029, hi029, _, hsz29, _⟩ := info_parts info41; have hroom29 : l0.length ≤ c0 := HC0.out; have hC29 : Kd.C k41 _ (some ad341) l0.length l0 := HR0.out; have ql29 : (t350 : Int) ≤ ((ji3) : Int) := of_decide_eq_true pwb_; have q029 : (0 : Int) ≤ (t350 : Int) := of_decide_eq_true pwb_; have hcut29 := cut_mid (P := Try.prog) 23 41 .i64 .i64 Try.underlying23 hi029 2 hsz29 (some ad341) l0.length c0 t350 (ji3) q029 ql29 q29 hroom29; have hr29 := Kd.C_mid (lo := (t350 : Int).toNat) (hi := ((ji3) : Int).toNat) (c := c0) hC29 (by omega) (by omega) hroom29; obtain ⟨A29, hA29⟩ : ∃ A1, A1 = (if c0 = (t350 : Int).toNat then (some ad341) else ((some ad341) : Option Addr).map (·.add ((t350 : Int).toNat * 2))) := ⟨_, rfl⟩; obtain ⟨c29, hc29⟩ : ∃ c1, c1 = c0 - (t350 : Int).toNat := ⟨_, rfl⟩; have hy29 : y356.length = ((ji3) : Int).toNat - (t350 : Int).toNat := (by rw [Ny356.out, List.length_drop, List.length_take] <;> omega); rw [show ((l0).take ((ji3) : Int).toNat).drop (t350 : Int).toNat = y356 from Ny356.out.symm] at hr29; replace hr29 : Kd.C k41 _ A29 y356.length y356 := (by rw [hA29]; exact hr29); rw [← hy29, ← hA29, ← hc29] at hcut29; have HR359 := Aside0.mk hr29; have HC359 := Aside0.mk (show y356.length ≤ c29 from by rw [hy29, hc29]; exact Nat.sub_le_sub_right (Nat.le_trans (by omega) hroom29) _); clear hr29 hC29 hroom29 hi029 hsz29 hc29; have KY29 := Aside0.mk hy29; have KA29 := Aside0.mk hA29; clear hy29 hA29; replace q29 := eq_true q29) | (go_at_call 59; (with_reducible refine (ih k (by omega) _ _ y356 a1 t360 _ ?side1 ?side2 A23.out).mono ?_); (case side1 => repeat (first | exact HR359.out | (with_reducible refine Kd.C_alloc ?_ _) | (with_reducible refine Kd.C_drewN ?_ _) | (with_reducible refine Kd.C_drew ?_))); (case side2 => exact HC359.out); rintro e w' ⟨rfl, ⟨nd, rfl⟩⟩; (try first | exact ⟨rfl, _, World.drewN_drewN _ _ _⟩ | exact ⟨rfl, _, Eq.trans (World.drewN_drewN _ _ _) (congrArg (World.drewN _) (Nat.add_assoc _ _ _))⟩); have p361 : 0 ≤ ((ji3) : Int) := of_decide_eq_true pwb_; have q361 : (ji3) < (l0.length : Int) := of_decide_eq_true pwb_; obtain ⟨ad361, e361, hx361_0, hx361_1⟩ := at_T41 HR0.out (ji3) p361 q361; obtain rfl : ad341 = ad361 := (by injection e361); replace p361 := eq_true p361; replace q361 := eq_true q361))
            repeat (go_quiet (first | (go_at_call 68; (with_reducible refine (spec_l2Starts.calls k _ _ l0 (wrap64 ((ji3) - 1)) t350 _ ?side1 ?side2 A16.out).mono ?_); (case side1 => repeat (first | exact HR0.out | (with_reducible refine Kd.C_alloc ?_ _) | (with_reducible refine Kd.C_drewN ?_ _) | (with_reducible refine Kd.C_drew ?_))); (case side2 => exact HC0.out); rintro e w' ⟨rfl, ⟨nd, rfl⟩⟩; (try first | exact ⟨rfl, _, World.drewN_drewN _ _ _⟩ | exact ⟨rfl, _, Eq.trans (World.drewN_drewN _ _ _) (congrArg (World.drewN _) (Nat.add_assoc _ _ _))⟩); have q28 : (t350 : Int) ≤ ((l0.length : Int) : Int) := of_decide_eq_true pwb_; obtain ⟨i028, hi028, _, hsz28, _⟩ := info_parts info41; have hroom28 : l0.length ≤ c0 := HC0.out; have hC28 : Kd.C k41 _ (some ad341) l0.length l0 := HR0.out; have hcut28 := cut_to (P := Try.prog) 23 41 .i64 Try.underlying23 hi028 (some ad341) l0.length c0 t350 (of_decide_eq_true pwb_) q28 hroom28; have hr28 := Kd.C_take (m := (t350 : Int).toNat) hC28 (by omega); have hy28 : y351.length = (t350 : Int).toNat := (by rw [Ny351.out, List.length_take]; omega); rw [← Ny351.out] at hr28; rw [← hy28] at hcut28; have HR354 := Aside0.mk hr28; have HC354 := Aside0.mk (show y351.length ≤ c0 from by omega); clear hr28 hC28 hroom28 hi028 hsz28; have KY28 := Aside0.mk hy28; clear hy28; replace q28 := eq_true q28) | (go_at_call 59; (with_reducible refine (ih k (by omega) _ _ y351 a1 false _ ?side1 ?side2 A19.out).mono ?_); (case side1 => repeat (first | exact HR354.out | (with_reducible refine Kd.C_alloc ?_ _) | (with_reducible refine Kd.C_drewN ?_ _) | (with_reducible refine Kd.C_drew ?_))); (case side2 => exact HC354.out); rintro e w' ⟨rfl, ⟨nd, rfl⟩⟩; (try first | exact ⟨rfl, _, World.drewN_drewN _ _ _⟩ | exact ⟨rfl, _, Eq.trans (World.drewN_drewN _ _ _) (congrArg (World.drewN _) (Nat.add_assoc _ _ _))⟩); have q29 : ((ji3) : Int) ≤ ((l0.length : Int) : Int) := of_decide_eq_true pwb_; obtain ⟨i029, hi029, _, hsz29, _⟩ := info_parts info41; have hroom29 : l0.length ≤ c0 := HC0.out; have hC29 : Kd.C k41 _ (some ad341) l0.length l0 := HR0.out; have ql29 : (t350 : Int) ≤ ((ji3) : Int) := of_decide_eq_true pwb_; have q029 : (0 : Int) ≤ (t350 : Int) := of_decide_eq_true pwb_; have hcut29 := cut_mid (P := Try.prog) 23 41 .i64 .i64 Try.underlying23 hi029 2 hsz29 (some ad341) l0.length c0 t350 (ji3) q029 ql29 q29 hroom29; have hr29 := Kd.C_mid (lo := (t350 : Int).toNat) (hi := ((ji3) : Int).toNat) (c := c0) hC29 (by omega) (by omega) hroom29; obtain ⟨A29, hA29⟩ : ∃ A1, A1 = (if c0 = (t350 : Int).toNat then (some ad341) else ((some ad341) : Option Addr).map (·.add ((t350 : Int).toNat * 2))) := ⟨_, rfl⟩; obtain ⟨c29, hc29⟩ : ∃ c1, c1 = c0 - (t350 : Int).toNat := ⟨_, rfl⟩; have hy29 : y356.length = ((ji3) : Int).toNat - (t350 : Int).toNat := (by rw [Ny356.out, List.length_drop, List.length_take] <;> omega); rw [show ((l0).take ((ji3) : Int).toNat).drop (t350 : Int).toNat = y356 from Ny356.out.symm] at hr29; replace hr29 : Kd.C k41 _ A29 y356.length y356 := (by rw [hA29]; exact hr29); rw [← hy29, ← hA29, ← hc29] at hcut29; have HR359 := Aside0.mk hr29; have HC359 := Aside0.mk (show y356.length ≤ c29 from by rw [hy29, hc29]; exact Nat.sub_le_sub_right (Nat.le_trans (by omega) hroom29) _); clear hr29 hC29 hroom29 hi029 hsz29 hc29; have KY29 := Aside0.mk hy29; have KA29 := Aside0.mk hA29; clear hy29 hA29; replace q29 := eq_true q29) | (go_at_call 59; (with_reducible refine (ih k (by omega) _ _ y356 a1 t360 _ ?side1 ?side2 A23.out).mono ?_); (case side1 => repeat (first | exact HR359.out | (with_reducible refine Kd.C_alloc ?_ _) | (with_reducible refine Kd.C_drewN ?_ _) | (with_reducible refine Kd.C_drew ?_))); (case side2 => exact HC359.out); rintro e w' ⟨rfl, ⟨nd, rfl⟩⟩; (try first | exact ⟨rfl, _, World.drewN_drewN _ _ _⟩ | exact ⟨rfl, _, Eq.trans (World.drewN_drewN _ _ _) (congrArg (World.drewN _) (Nat.add_assoc _ _ _))⟩); have p361 : 0 ≤ ((ji3) : Int) := of_decide_eq_true pwb_; have q361 : (ji3) < (l0.length : Int) := of_decide_eq_true pwb_; obtain ⟨ad361, e361, hx361_0, hx361_1⟩ := at_T41 HR0.out (ji3) p361 q361; obtain rfl : ad341 = ad361 := (by injection e361); replace p361 := eq_true p361; replace q361 := eq_true q361)); try go_wp2_with (first | (go_at_call 68; (with_reducible refine (spec_l2Starts.calls k _ _ l0 (wrap64 ((ji3) - 1)) t350 _ ?side1 ?side2 A16.out).mono ?_); (case side1 => repeat (first | exact HR0.out | (with_reducible refine Kd.C_alloc ?_ _) | (with_reducible refine Kd.C_drewN ?_ _) | (with_reducible refine Kd.C_drew ?_))); (case side2 => exact HC0.out); rintro e w' ⟨rfl, ⟨nd, rfl⟩⟩; (try first | exact ⟨rfl, _, World.drewN_drewN _ _ _⟩ | exact ⟨rfl, _, Eq.trans (World.drewN_drewN _ _ _) (congrArg (World.drewN _) (Nat.add_assoc _ _ _))⟩); have q28 : (t350 : Int) ≤ ((l0.length : Int) : Int) := of_decide_eq_true pwb_; obtain ⟨i028, hi028, _, hsz28, _⟩ := info_parts info41; have hroom28 : l0.length ≤ c0 := HC0.out; have hC28 : Kd.C k41 _ (some ad341) l0.length l0 := HR0.out; have hcut28 := cut_to (P := Try.prog) 23 41 .i64 Try.underlying23 hi028 (some ad341) l0.length c0 t350 (of_decide_eq_true pwb_) q28 hroom28; have hr28 := Kd.C_take (m := (t350 : Int).toNat) hC28 (by omega); have hy28 : y351.length = (t350 : Int).toNat := (by rw [Ny351.out, List.length_take]; omega); rw [← Ny351.out] at hr28; rw [← hy28] at hcut28; have HR354 := Aside0.mk hr28; have HC354 := Aside0.mk (show y351.length ≤ c0 from by omega); clear hr28 hC28 hroom28 hi028 hsz28; have KY28 := Aside0.mk hy28; clear hy28; replace q28 := eq_true q28) | (go_at_call 59; (with_reducible refine (ih k (by omega) _ _ y351 a1 false _ ?side1 ?side2 A19.out).mono ?_); (case side1 => repeat (first | exact HR354.out | (with_reducible refine Kd.C_alloc ?_ _) | (with_reducible refine Kd.C_drewN ?_ _) | (with_reducible refine Kd.C_drew ?_))); (case side2 => exact HC354.out); rintro e w' ⟨rfl, ⟨nd, rfl⟩⟩; (try first | exact ⟨rfl, _, World.drewN_drewN _ _ _⟩ | exact ⟨rfl, _, Eq.trans (World.drewN_drewN _ _ _) (congrArg (World.drewN _) (Nat.add_assoc _ _ _))⟩); have q29 : ((ji3) : Int) ≤ ((l0.length : Int) : Int) := of_decide_eq_true pwb_; obtain ⟨i029, hi029, _, hsz29, _⟩ := info_parts info41; have hroom29 : l0.length ≤ c0 := HC0.out; have hC29 : Kd.C k41 _ (some ad341) l0.length l0 := HR0.out; have ql29 : (t350 : Int) ≤ ((ji3) : Int) := of_decide_eq_true pwb_; have q029 : (0 : Int) ≤ (t350 : Int) := of_decide_eq_true pwb_; have hcut29 := cut_mid (P := Try.prog) 23 41 .i64 .i64 Try.underlying23 hi029 2 hsz29 (some ad341) l0.length c0 t350 (ji3) q029 ql29 q29 hroom29; have hr29 := Kd.C_mid (lo := (t350 : Int).toNat) (hi := ((ji3) : Int).toNat) (c := c0) hC29 (by omega) (by omega) hroom29; obtain ⟨A29, hA29⟩ : ∃ A1, A1 = (if c0 = (t350 : Int).toNat then (some ad341) else ((some ad341) : Option Addr).map (·.add ((t350 : Int).toNat * 2))) := ⟨_, rfl⟩; obtain ⟨c29, hc29⟩ : ∃ c1, c1 = c0 - (t350 : Int).toNat := ⟨_, rfl⟩; have hy29 : y356.length = ((ji3) : Int).toNat - (t350 : Int).toNat := (by rw [Ny356.out, List.length_drop, List.length_take] <;> omega); rw [show ((l0).take ((ji3) : Int).toNat).drop (t350 : Int).toNat = y356 from Ny356.out.symm] at hr29; replace hr29 : Kd.C k41 _ A29 y356.length y356 := (by rw [hA29]; exact hr29); rw [← hy29, ← hA29, ← hc29] at hcut29; have HR359 := Aside0.mk hr29; have HC359 := Aside0.mk (show y356.length ≤ c29 from by rw [hy29, hc29]; exact Nat.sub_le_sub_right (Nat.le_trans (by omega) hroom29) _); clear hr29 hC29 hroom29 hi029 hsz29 hc29; have KY29 := Aside0.mk hy29; have KA29 := Aside0.mk hA29; clear hy29 hA29; replace q29 := eq_true q29) | (go_at_call 59; (with_reducible refine (ih k (by omega) _ _ y356 a1 t360 _ ?side1 ?side2 A23.out).mono ?_); (case side1 => repeat (first | exact HR359.out | (with_reducible refine Kd.C_alloc ?_ _) | (with_reducible refine Kd.C_drewN ?_ _) | (with_reducible refine Kd.C_drew ?_))); (case side2 => exact HC359.out); rintro e w' ⟨rfl, ⟨nd, rfl⟩⟩; (try first | exact ⟨rfl, _, World.drewN_drewN _ _ _⟩ | exact ⟨rfl, _, Eq.trans (World.drewN_drewN _ _ _) (congrArg (World.drewN _) (Nat.add_assoc _ _ _))⟩); have p361 : 0 ≤ ((ji3) : Int) := of_decide_eq_true pwb_; have q361 : (ji3) < (l0.length : Int) := of_decide_eq_true pwb_; obtain ⟨ad361, e361, hx361_0, hx361_1⟩ := at_T41 HR0.out (ji3) p361 q361; obtain rfl : ad341 = ad361 := (by injection e361); replace p361 := eq_true p361; replace q361 := eq_true q361)))
            go_ret
            exact ⟨by first | rfl | (simp; done) | (simp only [← hji3] <;> (first | rfl | simp)) | (simp [*]; done), by repeat (first | exact Drawn0.refl _ | apply Drawn0.step)⟩
          ·rw [if_neg c24] at H
           have c24b0 : (((rd_T41 l0 (ji3)).f0) == 3) = false := beq_eq_false_iff_ne.mpr c24
           have c24b1 : (((rd_T41 l0 (ji3)).f0) != 3) = true := bne_iff_ne.mpr c24
           by_cases c30 : ((rd_T41 l0 (ji3)).f0) = 4
           ·rw [if_pos c30] at H
            have c30b0 : (((rd_T41 l0 (ji3)).f0) == 4) = true := beq_iff_eq.mpr c30
            have c30b1 : (((rd_T41 l0 (ji3)).f0) != 4) = false := bne_eq_false_iff_eq.mpr c30
            clear c30
            by_cases c31 : t355 = true
            ·subst c31
             have H1 : (some true) = some r := by rw [if_pos rfl] at H; exact H
             clear H
             have H := H1
             clear H1
             obtain rfl := Option.some.inj H
             have p341 : 0 ≤ ((ji3) : Int) := of_decide_eq_true pwb_
             have q341 : (ji3) < (l0.length : Int) := of_decide_eq_true pwb_
             obtain ⟨ad341, e341, hx341_0, hx341_1⟩ := at_T41 HR0.out (ji3) p341 q341
             cases e341
             replace p341 := eq_true p341
             replace q341 := eq_true q341
             go_enter Try.func59, Try.ntmps59
             go_wp2_with (first | (go_at_call 68; (with_reducible refine (spec_l2Starts.calls k _ _ l0 (wrap64 ((ji3) - 1)) t350 _ ?side1 ?side2 A16.out).mono ?_); (case side1 => repeat (first | exact HR0.out | (with_reducible refine Kd.C_alloc ?_ _) | (with_reducible refine Kd.C_drewN ?_ _) | (with_reducible refine Kd.C_drew ?_))); (case side2 => exact HC0.out); rintro e w' ⟨rfl, ⟨nd, rfl⟩⟩; (try first | exact ⟨rfl, _, World.drewN_drewN _ _ _⟩ | exact ⟨rfl, _, Eq.trans (World.drewN_drewN _ _ _) (congrArg (World.drewN _) (Nat.add_assoc _ _ _))⟩); have q32 : (t350 : Int) ≤ ((l0.length : Int) : Int) := of_decide_eq_true pwb_; obtain ⟨i032, hi032, _, hsz32, _⟩ := info_parts info41; have hroom32 : l0.length ≤ c0 := HC0.out; have hC32 : Kd.C k41 _ (some ad341) l0.length l0 := HR0.out; have hcut32 := cut_to (P := Try.prog) 23 41 .i64 Try.underlying23 hi032 (some ad341) l0.length c0 t350 (of_decide_eq_true pwb_) q32 hroom32; have hr32 := Kd.C_take (m := (t350 : Int).toNat) hC32 (by omega); have hy32 : y351.length = (t350 : Int).toNat := (by rw [Ny351.out, List.length_take]; omega); rw [← Ny351.out] at hr32; rw [← hy32] at hcut32; have HR354 := Aside0.mk hr32; have HC354 := Aside0.mk (show y351.length ≤ c0 from by omega); clear hr32 hC32 hroom32 hi032 hsz32; have KY32 := Aside0.mk hy32; clear hy32; replace q32 := eq_true q32) | (go_at_call 59; (with_reducible refine (ih k (by omega) _ _ y351 a1 true _ ?side1 ?side2 A19.out).mono ?_); (case side1 => repeat (first | exact HR354.out | (with_reducible refine Kd.C_alloc ?_ _) | (with_reducible refine Kd.C_drewN ?_ _) | (with_reducible refine Kd.C_drew ?_))); (case side2 => exact HC354.out); rintro e w' ⟨rfl, ⟨nd, rfl⟩⟩; (try first | exact ⟨rfl, _, World.drewN_drewN _ _ _⟩ | exact ⟨rfl, _, Eq.trans (World.drewN_drewN _ _ _) (congrArg (World.drewN _) (Nat.add_assoc _ _ _))⟩); have q33 : ((ji3) : Int) ≤ ((l0.length : Int) : Int) := of_decide_eq_true pwb_; obtain ⟨i033, hi033, _, hsz33, _⟩ := info_parts info41; have hroom33 : l0.length ≤ c0 := HC0.out; have hC33 : Kd.C k41 _ (some ad341) l0.length l0 := HR0.out; have ql33 : (t350 : Int) ≤ ((ji3) : Int) := of_decide_eq_true pwb_; have q033 : (0 : Int) ≤ (t350 : Int) := of_decide_eq_true pwb_; have hcut33 := cut_mid (P := Try.prog) 23 41 .i64 .i64 Try.underlying23 hi033 2 hsz33 (some ad341) l0.length c0 t350 (ji3) q033 ql33 q33 hroom33; have hr33 := Kd.C_mid (lo := (t350 : Int).toNat) (hi := ((ji3) : Int).toNat) (c := c0) hC33 (by omega) (by omega) hroom33; obtain ⟨A33, hA33⟩ : ∃ A1, A1 = (if c0 = (t350 : Int).toNat then (some ad341) else ((some ad341) : Option Addr).map (·.add ((t350 : Int).toNat * 2))) := ⟨_, rfl⟩; obtain ⟨c33, hc33⟩ : ∃ c1, c1 = c0 - (t350 : Int).toNat := ⟨_, rfl⟩; have hy33 : y356.length = ((ji3) : Int).toNat - (t350 : Int).toNat := (by rw [Ny356.out, List.length_drop, List.length_take] <;> omega); rw [show ((l0).take ((ji3) : Int).toNat).drop (t350 : Int).toNat = y356 from Ny356.out.symm] at hr33; replace hr33 : Kd.C k41 _ A33 y356.length y356 := (by rw [hA33]; exact hr33); rw [← hy33, ← hA33, ← hc33] at hcut33; have HR359 := Aside0.mk hr33; have HC359 := Aside0.mk (show y356.length ≤ c33 from by rw [hy33, hc33]; exact Nat.sub_le_sub_right (Nat.le_trans (by omega) hroom33) _); clear hr33 hC33 hroom33 hi033 hsz33 hc33; have KY33 := Aside0.mk hy33; have KA33 := Aside0.mk hA33; clear hy33 hA33; replace q33 := eq_true q33) | (go_at_call 59; (with_reducible refine (ih k (by omega) _ _ y356 a1 t360 _ ?side1 ?side2 A23.out).mono ?_); (case side1 => repeat (first | exact HR359.out | (with_reducible refine Kd.C_alloc ?_ _) | (with_reducible refine Kd.C_drewN ?_ _) | (with_reducible refine Kd.C_drew ?_))); (case side2 => exact HC359.out); rintro e w' ⟨rfl, ⟨nd, rfl⟩⟩; (try first | exact ⟨rfl, _, World.drewN_drewN _ _ _⟩ | exact ⟨rfl, _, Eq.trans (World.drewN_drewN _ _ _) (congrArg (World.drewN _) (Nat.add_assoc _ _ _))⟩); have p361 : 0 ≤ ((ji3) : Int) := of_decide_eq_true pwb_; have q361 : (ji3) < (l0.length : Int) := of_decide_eq_true pwb_; obtain ⟨ad361, e361, hx361_0, hx361_1⟩ := at_T41 HR0.out (ji3) p361 q361; obtain rfl : ad341 = ad361 := (by injection e361); replace p361 := eq_true p361; replace q361 := eq_true q361))
             repeat (go_quiet (first | (go_at_call 68; (with_reducible refine (spec_l2Starts.calls k _ _ l0 (wrap64 ((ji3) - 1)) t350 _ ?side1 ?side2 A16.out).mono ?_); (case side1 => repeat (first | exact HR0.out | (with_reducible refine Kd.C_alloc ?_ _) | (with_reducible refine Kd.C_drewN ?_ _) | (with_reducible refine Kd.C_drew ?_))); (case side2 => exact HC0.out); rintro e w' ⟨rfl, ⟨nd, rfl⟩⟩; (try first | exact ⟨rfl, _, World.drewN_drewN _ _ _⟩ | exact ⟨rfl, _, Eq.trans (World.drewN_drewN _ _ _) (congrArg (World.drewN _) (Nat.add_assoc _ _ _))⟩); have q32 : (t350 : Int) ≤ ((l0.length : Int) : Int) := of_decide_eq_true pwb_; obtain ⟨i032, hi032, _, hsz32, _⟩ := info_parts info41; have hroom32 : l0.length ≤ c0 := HC0.out; have hC32 : Kd.C k41 _ (some ad341) l0.length l0 := HR0.out; have hcut32 := cut_to (P := Try.prog) 23 41 .i64 Try.underlying23 hi032 (some ad341) l0.length c0 t350 (of_decide_eq_true pwb_) q32 hroom32; have hr32 := Kd.C_take (m := (t350 : Int).toNat) hC32 (by omega); have hy32 : y351.length = (t350 : Int).toNat := (by rw [Ny351.out, List.length_take]; omega); rw [← Ny351.out] at hr32; rw [← hy32] at hcut32; have HR354 := Aside0.mk hr32; have HC354 := Aside0.mk (show y351.length ≤ c0 from by omega); clear hr32 hC32 hroom32 hi032 hsz32; have KY32 := Aside0.mk hy32; clear hy32; replace q32 := eq_true q32) | (go_at_call 59; (with_reducible refine (ih k (by omega) _ _ y351 a1 true _ ?side1 ?side2 A19.out).mono ?_); (case side1 => repeat (first | exact HR354.out | (with_reducible refine Kd.C_alloc ?_ _) | (with_reducible refine Kd.C_drewN ?_ _) | (with_reducible refine Kd.C_drew ?_))); (case side2 => exact HC354.out); rintro e w' ⟨rfl, ⟨nd, rfl⟩⟩; (try first | exact ⟨rfl, _, World.drewN_drewN _ _ _⟩ | exact ⟨rfl, _, Eq.trans (World.drewN_drewN _ _ _) (congrArg (World.drewN _) (Nat.add_assoc _ _ _))⟩); have q33 : ((ji3) : Int) ≤ ((l0.length : Int) : Int) := of_decide_eq_true pwb_; obtain ⟨i033, hi033, _, hsz33, _⟩ := info_parts info41; have hroom33 : l0.length ≤ c0 := HC0.out; have hC33 : Kd.C k41 _ (some ad341) l0.length l0 := HR0.out; have ql33 : (t350 : Int) ≤ ((ji3) : Int) := of_decide_eq_true pwb_; have q033 : (0 : Int) ≤ (t350 : Int) := of_decide_eq_true pwb_; have hcut33 := cut_mid (P := Try.prog) 23 41 .i64 .i64 Try.underlying23 hi033 2 hsz33 (some ad341) l0.length c0 t350 (ji3) q033 ql33 q33 hroom33; have hr33 := Kd.C_mid (lo := (t350 : Int).toNat) (hi := ((ji3) : Int).toNat) (c := c0) hC33 (by omega) (by omega) hroom33; obtain ⟨A33, hA33⟩ : ∃ A1, A1 = (if c0 = (t350 : Int).toNat then (some ad341) else ((some ad341) : Option Addr).map (·.add ((t350 : Int).toNat * 2))) := ⟨_, rfl⟩; obtain ⟨c33, hc33⟩ : ∃ c1, c1 = c0 - (t350 : Int).toNat := ⟨_, rfl⟩; have hy33 : y356.length = ((ji3) : Int).toNat - (t350 : Int).toNat := (by rw [Ny356.out, List.length_drop, List.length_take] <;> omega); rw [show ((l0).take ((ji3) : Int).toNat).drop (t350 : Int).toNat = y356 from Ny356.out.symm] at hr33; replace hr33 : Kd.C k41 _ A33 y356.length y356 := (by rw [hA33]; exact hr33); rw [← hy33, ← hA33, ← hc33] at hcut33; have HR359 := Aside0.mk hr33; have HC359 := Aside0.mk (show y356.length ≤ c33 from by rw [hy33, hc33]; exact Nat.sub_le_sub_right (Nat.le_trans (by omega) hroom33) _); clear hr33 hC33 hroom33 hi033 hsz33 hc33; have KY33 := Aside0.mk hy33; have KA33 := Aside0.mk hA33; clear hy33 hA33; replace q33 := eq_true q33) | (go_at_call 59; (with_reducible refine (ih k (by omega) _ _ y356 a1 t360 _ ?side1 ?side2 A23.out).mono ?_); (case side1 => repeat (first | exact HR359.out | (with_reducible refine Kd.C_alloc ?_ _) | (with_reducible refine Kd.C_drewN ?_ _) | (with_reducible refine Kd.C_drew ?_))); (case side2 => exact HC359.out); rintro e w' ⟨rfl, ⟨nd, rfl⟩⟩; (try first | exact ⟨rfl, _, World.drewN_drewN _ _ _⟩ | exact ⟨rfl, _, Eq.trans (World.drewN_drewN _ _ _) (congrArg (World.drewN _) (Nat.add_assoc _ _ _))⟩); have p361 : 0 ≤ ((ji3) : Int) := of_decide_eq_true pwb_; have q361 : (ji3) < (l0.length : Int) := of_decide_eq_true pwb_; obtain ⟨ad361, e361, hx361_0, hx361_1⟩ := at_T41 HR0.out (ji3) p361 q361; obtain rfl : ad341 = ad361 := (by injection e361); replace p361 := eq_true p361; replace q361 := eq_true q361)); try go_wp2_with (first | (go_at_call 68; (with_reducible refine (spec_l2Starts.calls k _ _ l0 (wrap64 ((ji3) - 1)) t350 _ ?side1 ?side2 A16.out).mono ?_); (case side1 => repeat (first | exact HR0.out | (with_reducible refine Kd.C_alloc ?_ _) | (with_reducible refine Kd.C_drewN ?_ _) | (with_reducible refine Kd.C_drew ?_))); (case side2 => exact HC0.out); rintro e w' ⟨rfl, ⟨nd, rfl⟩⟩; (try first | exact ⟨rfl, _, World.drewN_drewN _ _ _⟩ | exact ⟨rfl, _, Eq.trans (World.drewN_drewN _ _ _) (congrArg (World.drewN _) (Nat.add_assoc _ _ _))⟩); have q32 : (t350 : Int) ≤ ((l0.length : Int) : Int) := of_decide_eq_true pwb_; obtain ⟨i032, hi032, _, hsz32, _⟩ := info_parts info41; have hroom32 : l0.length ≤ c0 := HC0.out; have hC32 : Kd.C k41 _ (some ad341) l0.length l0 := HR0.out; have hcut32 := cut_to (P := Try.prog) 23 41 .i64 Try.underlying23 hi032 (some ad341) l0.length c0 t350 (of_decide_eq_true pwb_) q32 hroom32; have hr32 := Kd.C_take (m := (t350 : Int).toNat) hC32 (by omega); have hy32 : y351.length = (t350 : Int).toNat := (by rw [Ny351.out, List.length_take]; omega); rw [← Ny351.out] at hr32; rw [← hy32] at hcut32; have HR354 := Aside0.mk hr32; have HC354 := Aside0.mk (show y351.length ≤ c0 from by omega); clear hr32 hC32 hroom32 hi032 hsz32; have KY32 := Aside0.mk hy32; clear hy32; replace q32 := eq_true q32) | (go_at_call 59; (with_reducible refine (ih k (by omega) _ _ y351 a1 true _ ?side1 ?side2 A19.out).mono ?_); (case side1 => repeat (first | exact HR354.out | (with_reducible refine Kd.C_alloc ?_ _) | (with_reducible refine Kd.C_drewN ?_ _) | (with_reducible refine Kd.C_drew ?_))); (case side2 => exact HC354.out); rintro e w' ⟨rfl, ⟨nd, rfl⟩⟩; (try first | exact ⟨rfl, _, World.drewN_drewN _ _ _⟩ | exact ⟨rfl, _, Eq.trans (World.drewN_drewN _ _ _) (congrArg (World.drewN _) (Nat.add_assoc _ _ _))⟩); have q33 : ((ji3) : Int) ≤ ((l0.length : Int) : Int) := of_decide_eq_true pwb_; obtain ⟨i033, hi033, _, hsz33, _⟩ := info_parts info41; have hroom33 : l0.length ≤ c0 := HC0.out; have hC33 : Kd.C k41 _ (some ad341) l0.length l0 := HR0.out; have ql33 : (t350 : Int) ≤ ((ji3) : Int) := of_decide_eq_true pwb_; have q033 : (0 : Int) ≤ (t350 : Int) := of_decide_eq_true pwb_; have hcut33 := cut_mid (P := Try.prog) 23 41 .i64 .i64 Try.underlying23 hi033 2 hsz33 (some ad341) l0.length c0 t350 (ji3) q033 ql33 q33 hroom33; have hr33 := Kd.C_mid (lo := (t350 : Int).toNat) (hi := ((ji3) : Int).toNat) (c := c0) hC33 (by omega) (by omega) hroom33; obtain ⟨A33, hA33⟩ : ∃ A1, A1 = (if c0 = (t350 : Int).toNat then (some ad341) else ((some ad341) : Option Addr).map (·.add ((t350 : Int).toNat * 2))) := ⟨_, rfl⟩; obtain ⟨c33, hc33⟩ : ∃ c1, c1 = c0 - (t350 : Int).toNat := ⟨_, rfl⟩; have hy33 : y356.length = ((ji3) : Int).toNat - (t350 : Int).toNat := (by rw [Ny356.out, List.length_drop, List.length_take] <;> omega); rw [show ((l0).take ((ji3) : Int).toNat).drop (t350 : Int).toNat = y356 from Ny356.out.symm] at hr33; replace hr33 : Kd.C k41 _ A33 y356.length y356 := (by rw [hA33]; exact hr33); rw [← hy33, ← hA33, ← hc33] at hcut33; have HR359 := Aside0.mk hr33; have HC359 := Aside0.mk (show y356.length ≤ c33 from by rw [hy33, hc33]; exact Nat.sub_le_sub_right (Nat.le_trans (by omega) hroom33) _); clear hr33 hC33 hroom33 hi033 hsz33 hc33; have KY33 := Aside0.mk hy33; have KA33 := Aside0.mk hA33; clear hy33 hA33; replace q33 := eq_true q33) | (go_at_call 59; (with_reducible refine (ih k (by omega) _ _ y356 a1 t360 _ ?side1 ?side2 A23.out).mono ?_); (case side1 => repeat (first | exact HR359.out | (with_reducible refine Kd.C_alloc ?_ _) | (with_reducible refine Kd.C_drewN ?_ _) | (with_reducible refine Kd.C_drew ?_))); (case side2 => exact HC359.out); rintro e w' ⟨rfl, ⟨nd, rfl⟩⟩; (try first | exact ⟨rfl, _, World.drewN_drewN _ _ _⟩ | exact ⟨rfl, _, Eq.trans (World.drewN_drewN _ _ _) (congrArg (World.drewN _) (Nat.add_assoc _ _ _))⟩); have p361 : 0 ≤ ((ji3) : Int) := of_decide_eq_true pwb_; have q361 : (ji3) < (l0.length : Int) := of_decide_eq_true pwb_; obtain ⟨ad361, e361, hx361_0, hx361_1⟩ := at_T41 HR0.out (ji3) p361 q361; obtain rfl : ad341 = ad361 := (by injection e361); replace p361 := eq_true p361; replace q361 := eq_true q361)))
             go_ret
             exact ⟨by first | rfl | (simp; done) | (simp only [← hji3] <;> (first | rfl | simp)) | (simp [*]; done), by repeat (first | exact Drawn0.refl _ | apply Drawn0.step)⟩
            ·replace c31 := Bool.eq_false_iff.mpr c31
             subst c31
             have H1 : (some t360) = some r := by rw [if_neg (show ¬ (false = true) by decide)] at H; exact H
             clear H
             have H := H1
             clear H1
             obtain rfl := Option.some.inj H
             have p341 : 0 ≤ ((ji3) : Int) := of_decide_eq_true pwb_
             have q341 : (ji3) < (l0.length : Int) := of_decide_eq_true pwb_
             obtain ⟨ad341, e341, hx341_0, hx341_1⟩ := at_T41 HR0.out (ji3) p341 q341
             cases e341
             replace p341 := eq_true p341
             replace q341 := eq_true q341
             go_enter Try.func59, Try.ntmps59
             go_wp2_with (first | (go_at_call 68; (with_reducible refine (spec_l2Starts.calls k _ _ l0 (wrap64 ((ji3) - 1)) t350 _ ?side1 ?side2 A16.out).mono ?_); (case side1 => repeat (first | exact HR0.out | (with_reducible refine Kd.C_alloc ?_ _) | (with_reducible refine Kd.C_drewN ?_ _) | (with_reducible refine Kd.C_drew ?_))); (case side2 => exact HC0.out); rintro e w' ⟨rfl, ⟨nd, rfl⟩⟩; (try first | exact ⟨rfl, _, World.drewN_drewN _ _ _⟩ | exact ⟨rfl, _, Eq.trans (World.drewN_drewN _ _ _) (congrArg (World.drewN _) (Nat.add_assoc _ _ _))⟩); have q34 : (t350 : Int) ≤ ((l0.length : Int) : Int) := of_decide_eq_true pwb_; obtain ⟨i034, hi034, _, hsz34, _⟩ := info_parts info41; have hroom34 : l0.length ≤ c0 := HC0.out; have hC34 : Kd.C k41 _ (some ad341) l0.length l0 := HR0.out; have hcut34 := cut_to (P := Try.prog) 23 41 .i64 Try.underlying23 hi034 (some ad341) l0.length c0 t350 (of_decide_eq_true pwb_) q34 hroom34; have hr34 := Kd.C_take (m := (t350 : Int).toNat) hC34 (by omega); have hy34 : y351.length = (t350 : Int).toNat := (by rw [Ny351.out, List.length_take]; omega); rw [← Ny351.out] at hr34; rw [← hy34] at hcut34; have HR354 := Aside0.mk hr34; have HC354 := Aside0.mk (show y351.length ≤ c0 from by omega); clear hr34 hC34 hroom34 hi034 hsz34; have KY34 := Aside0.mk hy34; clear hy34; replace q34 := eq_true q34) | (go_at_call 59; (with_reducible refine (ih k (by omega) _ _ y351 a1 false _ ?side1 ?side2 A19.out).mono ?_); (case side1 => repeat (first | exact HR354.out | (with_reducible refine Kd.C_alloc ?_ _) | (with_reducible refine Kd.C_drewN ?_ _) | (with_reducible refine Kd.C_drew ?_))); (case side2 => exact HC354.out); rintro e w' ⟨rfl, ⟨nd, rfl⟩⟩; (try first | exact ⟨rfl, _, World.drewN_drewN _ _ _⟩ | exact ⟨rfl, _, Eq.trans (World.drewN_drewN _ _ _) (congrArg (World.drewN _) (Nat.add_assoc _ _ _))⟩); have q35 : ((ji3) : Int) ≤ ((l0.length : Int) : Int) := of_decide_eq_true pwb_; obtain ⟨i035, hi035, _, hsz35, _⟩ := info_parts info41; have hroom35 : l0.length ≤ c0 := HC0.out; have hC35 : Kd.C k41 _ (some ad341) l0.length l0 := HR0.out; have ql35 : (t350 : Int) ≤ ((ji3) : Int) := of_decide_eq_true pwb_; have q035 : (0 : Int) ≤ (t350 : Int) := of_decide_eq_true pwb_; have hcut35 := cut_mid (P := Try.prog) 23 41 .i64 .i64 Try.underlying23 hi035 2 hsz35 (some ad341) l0.length c0 t350 (ji3) q035 ql35 q35 hroom35; have hr35 := Kd.C_mid (lo := (t350 : Int).toNat) (hi := ((ji3) : Int).toNat) (c := c0) hC35 (by omega) (by omega) hroom35; obtain ⟨A35, hA35⟩ : ∃ A1, A1 = (if c0 = (t350 : Int).toNat then (some ad341) else ((some ad341) : Option Addr).map (·.add ((t350 : Int).toNat * 2))) := ⟨_, rfl⟩; obtain ⟨c35, hc35⟩ : ∃ c1, c1 = c0 - (t350 : Int).toNat := ⟨_, rfl⟩; have hy35 : y356.length = ((ji3) : Int).toNat - (t350 : Int).toNat := (by rw [Ny356.out, List.length_drop, List.length_take] <;> omega); rw [show ((l0).take ((ji3) : Int).toNat).drop (t350 : Int).toNat = y356 from Ny356.out.symm] at hr35; replace hr35 : Kd.C k41 _ A35 y356.length y356 := (by rw [hA35]; exact hr35); rw [← hy35, ← hA35, ← hc35] at hcut35; have HR359 := Aside0.mk hr35; have HC359 := Aside0.mk (show y356.length ≤ c35 from by rw [hy35, hc35]; exact Nat.sub_le_sub_right (Nat.le_trans (by omega) hroom35) _); clear hr35 hC35 hroom35 hi035 hsz35 hc35; have KY35 := Aside0.mk hy35; have KA35 := Aside0.mk hA35; clear hy35 hA35; replace q35 := eq_true q35) | (go_at_call 59; (with_reducible refine (ih k (by omega) _ _ y356 a1 t360 _ ?side1 ?side2 A23.out).mono ?_); (case side1 => repeat (first | exact HR359.out | (with_reducible refine Kd.C_alloc ?_ _) | (with_reducible refine Kd.C_drewN ?_ _) | (with_reducible refine Kd.C_drew ?_))); (case side2 => exact HC359.out); rintro e w' ⟨rfl, ⟨nd, rfl⟩⟩; (try first | exact ⟨rfl, _, World.drewN_drewN _ _ _⟩ | exact ⟨rfl, _, Eq.trans (World.drewN_drewN _ _ _) (congrArg (World.drewN _) (Nat.add_assoc _ _ _))⟩); have p361 : 0 ≤ ((ji3) : Int) := of_decide_eq_true pwb_; have q361 : (ji3) < (l0.length : Int) := of_decide_eq_true pwb_; obtain ⟨ad361, e361, hx361_0, hx361_1⟩ := at_T41 HR0.out (ji3) p361 q361; obtain rfl : ad341 = ad361 := (by injection e361); replace p361 := eq_true p361; replace q361 := eq_true q361))
             repeat (go_quiet (first | (go_at_call 68; (with_reducible refine (spec_l2Starts.calls k _ _ l0 (wrap64 ((ji3) - 1)) t350 _ ?side1 ?side2 A16.out).mono ?_); (case side1 => repeat (first | exact HR0.out | (with_reducible refine Kd.C_alloc ?_ _) | (with_reducible refine Kd.C_drewN ?_ _) | (with_reducible refine Kd.C_drew ?_))); (case side2 => exact HC0.out); rintro e w' ⟨rfl, ⟨nd, rfl⟩⟩; (try first | exact ⟨rfl, _, World.drewN_drewN _ _ _⟩ | exact ⟨rfl, _, Eq.trans (World.drewN_drewN _ _ _) (congrArg (World.drewN _) (Nat.add_assoc _ _ _))⟩); have q34 : (t350 : Int) ≤ ((l0.length : Int) : Int) := of_decide_eq_true pwb_; obtain ⟨i034, hi034, _, hsz34, _⟩ := info_parts info41; have hroom34 : l0.length ≤ c0 := HC0.out; have hC34 : Kd.C k41 _ (some ad341) l0.length l0 := HR0.out; have hcut34 := cut_to (P := Try.prog) 23 41 .i64 Try.underlying23 hi034 (some ad341) l0.length c0 t350 (of_decide_eq_true pwb_) q34 hroom34; have hr34 := Kd.C_take (m := (t350 : Int).toNat) hC34 (by omega); have hy34 : y351.length = (t350 : Int).toNat := (by rw [Ny351.out, List.length_take]; omega); rw [← Ny351.out] at hr34; rw [← hy34] at hcut34; have HR354 := Aside0.mk hr34; have HC354 := Aside0.mk (show y351.length ≤ c0 from by omega); clear hr34 hC34 hroom34 hi034 hsz34; have KY34 := Aside0.mk hy34; clear hy34; replace q34 := eq_true q34) | (go_at_call 59; (with_reducible refine (ih k (by omega) _ _ y351 a1 false _ ?side1 ?side2 A19.out).mono ?_); (case side1 => repeat (first | exact HR354.out | (with_reducible refine Kd.C_alloc ?_ _) | (with_reducible refine Kd.C_drewN ?_ _) | (with_reducible refine Kd.C_drew ?_))); (case side2 => exact HC354.out); rintro e w' ⟨rfl, ⟨nd, rfl⟩⟩; (try first | exact ⟨rfl, _, World.drewN_drewN _ _ _⟩ | exact ⟨rfl, _, Eq.trans (World.drewN_drewN _ _ _) (congrArg (World.drewN _) (Nat.add_assoc _ _ _))⟩); have q35 : ((ji3) : Int) ≤ ((l0.length : Int) : Int) := of_decide_eq_true pwb_; obtain ⟨i035, hi035, _, hsz35, _⟩ := info_parts info41; have hroom35 : l0.length ≤ c0 := HC0.out; have hC35 : Kd.C k41 _ (some ad341) l0.length l0 := HR0.out; have ql35 : (t350 : Int) ≤ ((ji3) : Int) := of_decide_eq_true pwb_; have q035 : (0 : Int) ≤ (t350 : Int) := of_decide_eq_true pwb_; have hcut35 := cut_mid (P := Try.prog) 23 41 .i64 .i64 Try.underlying23 hi035 2 hsz35 (some ad341) l0.length c0 t350 (ji3) q035 ql35 q35 hroom35; have hr35 := Kd.C_mid (lo := (t350 : Int).toNat) (hi := ((ji3) : Int).toNat) (c := c0) hC35 (by omega) (by omega) hroom35; obtain ⟨A35, hA35⟩ : ∃ A1, A1 = (if c0 = (t350 : Int).toNat then (some ad341) else ((some ad341) : Option Addr).map (·.add ((t350 : Int).toNat * 2))) := ⟨_, rfl⟩; obtain ⟨c35, hc35⟩ : ∃ c1, c1 = c0 - (t350 : Int).toNat := ⟨_, rfl⟩; have hy35 : y356.length = ((ji3) : Int).toNat - (t350 : Int).toNat := (by rw [Ny356.out, List.length_drop, List.length_take] <;> omega); rw [show ((l0).take ((ji3) : Int).toNat).drop (t350 : Int).toNat = y356 from Ny356.out.symm] at hr35; replace hr35 : Kd.C k41 _ A35 y356.length y356 := (by rw [hA35]; exact hr35); rw [← hy35, ← hA35, ← hc35] at hcut35; have HR359 := Aside0.mk hr35; have HC359 := Aside0.mk (show y356.length ≤ c35 from by rw [hy35, hc35]; exact Nat.sub_le_sub_right (Nat.le_trans (by omega) hroom35) _); clear hr35 hC35 hroom35 hi035 hsz35 hc35; have KY35 := Aside0.mk hy35; have KA35 := Aside0.mk hA35; clear hy35 hA35; replace q35 := eq_true q35) | (go_at_call 59; (with_reducible refine (ih k (by omega) _ _ y356 a1 t360 _ ?side1 ?side2 A23.out).mono ?_); (case side1 => repeat (first | exact HR359.out | (with_reducible refine Kd.C_alloc ?_ _) | (with_reducible refine Kd.C_drewN ?_ _) | (with_reducible refine Kd.C_drew ?_))); (case side2 => exact HC359.out); rintro e w' ⟨rfl, ⟨nd, rfl⟩⟩; (try first | exact ⟨rfl, _, World.drewN_drewN _ _ _⟩ | exact ⟨rfl, _, Eq.trans (World.drewN_drewN _ _ _) (congrArg (World.drewN _) (Nat.add_assoc _ _ _))⟩); have p361 : 0 ≤ ((ji3) : Int) := of_decide_eq_true pwb_; have q361 : (ji3) < (l0.length : Int) := of_decide_eq_true pwb_; obtain ⟨ad361, e361, hx361_0, hx361_1⟩ := at_T41 HR0.out (ji3) p361 q361; obtain rfl : ad341 = ad361 := (by injection e361); replace p361 := eq_true p361; replace q361 := eq_true q361)); try go_wp2_with (first | (go_at_call 68; (with_reducible refine (spec_l2Starts.calls k _ _ l0 (wrap64 ((ji3) - 1)) t350 _ ?side1 ?side2 A16.out).mono ?_); (case side1 => repeat (first | exact HR0.out | (with_reducible refine Kd.C_alloc ?_ _) | (with_reducible refine Kd.C_drewN ?_ _) | (with_reducible refine Kd.C_drew ?_))); (case side2 => exact HC0.out); rintro e w' ⟨rfl, ⟨nd, rfl⟩⟩; (try first | exact ⟨rfl, _, World.drewN_drewN _ _ _⟩ | exact ⟨rfl, _, Eq.trans (World.drewN_drewN _ _ _) (congrArg (World.drewN _) (Nat.add_assoc _ _ _))⟩); have q34 : (t350 : Int) ≤ ((l0.length : Int) : Int) := of_decide_eq_true pwb_; obtain ⟨i034, hi034, _, hsz34, _⟩ := info_parts info41; have hroom34 : l0.length ≤ c0 := HC0.out; have hC34 : Kd.C k41 _ (some ad341) l0.length l0 := HR0.out; have hcut34 := cut_to (P := Try.prog) 23 41 .i64 Try.underlying23 hi034 (some ad341) l0.length c0 t350 (of_decide_eq_true pwb_) q34 hroom34; have hr34 := Kd.C_take (m := (t350 : Int).toNat) hC34 (by omega); have hy34 : y351.length = (t350 : Int).toNat := (by rw [Ny351.out, List.length_take]; omega); rw [← Ny351.out] at hr34; rw [← hy34] at hcut34; have HR354 := Aside0.mk hr34; have HC354 := Aside0.mk (show y351.length ≤ c0 from by omega); clear hr34 hC34 hroom34 hi034 hsz34; have KY34 := Aside0.mk hy34; clear hy34; replace q34 := eq_true q34) | (go_at_call 59; (with_reducible refine (ih k (by omega) _ _ y351 a1 false _ ?side1 ?side2 A19.out).mono ?_); (case side1 => repeat (first | exact HR354.out | (with_reducible refine Kd.C_alloc ?_ _) | (with_reducible refine Kd.C_drewN ?_ _) | (with_reducible refine Kd.C_drew ?_))); (case side2 => exact HC354.out); rintro e w' ⟨rfl, ⟨nd, rfl⟩⟩; (try first | exact ⟨rfl, _, World.drewN_drewN _ _ _⟩ | exact ⟨rfl, _, Eq.trans (World.drewN_drewN _ _ _) (congrArg (World.drewN _) (Nat.add_assoc _ _ _))⟩); have q35 : ((ji3) : Int) ≤ ((l0.length : Int) : Int) := of_decide_eq_true pwb_; obtain ⟨i035, hi035, _, hsz35, _⟩ := info_parts info41; have hroom35 : l0.length ≤ c0 := HC0.out; have hC35 : Kd.C k41 _ (some ad341) l0.length l0 := HR0.out; have ql35 : (t350 : Int) ≤ ((ji3) : Int) := of_decide_eq_true pwb_; have q035 : (0 : Int) ≤ (t350 : Int) := of_decide_eq_true pwb_; have hcut35 := cut_mid (P := Try.prog) 23 41 .i64 .i64 Try.underlying23 hi035 2 hsz35 (some ad341) l0.length c0 t350 (ji3) q035 ql35 q35 hroom35; have hr35 := Kd.C_mid (lo := (t350 : Int).toNat) (hi := ((ji3) : Int).toNat) (c := c0) hC35 (by omega) (by omega) hroom35; obtain ⟨A35, hA35⟩ : ∃ A1, A1 = (if c0 = (t350 : Int).toNat then (some ad341) else ((some ad341) : Option Addr).map (·.add ((t350 : Int).toNat * 2))) := ⟨_, rfl⟩; obtain ⟨c35, hc35⟩ : ∃ c1, c1 = c0 - (t350 : Int).toNat := ⟨_, rfl⟩; have hy35 : y356.length = ((ji3) : Int).toNat - (t350 : Int).toNat := (by rw [Ny356.out, List.length_drop, List.length_take] <;> omega); rw [show ((l0).take ((ji3) : Int).toNat).drop (t350 : Int).toNat = y356 from Ny356.out.symm] at hr35; replace hr35 : Kd.C k41 _ A35 y356.length y356 := (by rw [hA35]; exact hr35); rw [← hy35, ← hA35, ← hc35] at hcut35; have HR359 := Aside0.mk hr35; have HC359 := Aside0.mk (show y356.length ≤ c35 from by rw [hy35, hc35]; exact Nat.sub_le_sub_right (Nat.le_trans (by omega) hroom35) _); clear hr35 hC35 hroom35 hi035 hsz35 hc35; have KY35 := Aside0.mk hy35; have KA35 := Aside0.mk hA35; clear hy35 hA35; replace q35 := eq_true q35) | (go_at_call 59; (with_reducible refine (ih k (by omega) _ _ y356 a1 t360 _ ?side1 ?side2 A23.out).mono ?_); (case side1 => repeat (first | exact HR359.out | (with_reducible refine Kd.C_alloc ?_ _) | (with_reducible refine Kd.C_drewN ?_ _) | (with_reducible refine Kd.C_drew ?_))); (case side2 => exact HC359.out); rintro e w' ⟨rfl, ⟨nd, rfl⟩⟩; (try first | exact ⟨rfl, _, World.drewN_drewN _ _ _⟩ | exact ⟨rfl, _, Eq.trans (World.drewN_drewN _ _ _) (congrArg (World.drewN _) (Nat.add_assoc _ _ _))⟩); have p361 : 0 ≤ ((ji3) : Int) := of_decide_eq_true pwb_; have q361 : (ji3) < (l0.length : Int) := of_decide_eq_true pwb_; obtain ⟨ad361, e361, hx361_0, hx361_1⟩ := at_T41 HR0.out (ji3) p361 q361; obtain rfl : ad341 = ad361 := (by injection e361); replace p361 := eq_true p361; replace q361 := eq_true q361)))
             go_ret
             exact ⟨by first | rfl | (simp; done) | (simp only [← hji3] <;> (first | rfl | simp)) | (simp [*]; done), by repeat (first | exact Drawn0.refl _ | apply Drawn0.step)⟩
           ·rw [if_neg c30] at H
            have c30b0 : (((rd_T41 l0 (ji3)).f0) == 4) = false := beq_eq_false_iff_ne.mpr c30
            have c30b1 : (((rd_T41 l0 (ji3)).f0) != 4) = true := bne_iff_ne.mpr c30
            obtain rfl := Option.some.inj H
            have p341 : 0 ≤ ((ji3) : Int) := of_decide_eq_true pwb_
            have q341 : (ji3) < (l0.length : Int) := of_decide_eq_true pwb_
            obtain ⟨ad341, e341, hx341_0, hx341_1⟩ := at_T41 HR0.out (ji3) p341 q341
            cases e341
            replace p341 := eq_true p341
            replace q341 := eq_true q341
            go_enter Try.func59, Try.ntmps59
            go_wp2_with (first | (go_at_call 68; (with_reducible refine (spec_l2Starts.calls k _ _ l0 (wrap64 ((ji3) - 1)) t350 _ ?side1 ?side2 A16.out).mono ?_); (case side1 => repeat (first | exact HR0.out | (with_reducible refine Kd.C_alloc ?_ _) | (with_reducible refine Kd.C_drewN ?_ _) | (with_reducible refine Kd.C_drew ?_))); (case side2 => exact HC0.out); rintro e w' ⟨rfl, ⟨nd, rfl⟩⟩; (try first | exact ⟨rfl, _, World.drewN_drewN _ _ _⟩ | exact ⟨rfl, _, Eq.trans (World.drewN_drewN _ _ _) (congrArg (World.drewN _) (Nat.add_assoc _ _ _))⟩); have q36 : (t350 : Int) ≤ ((l0.length : Int) : Int) := of_decide_eq_true pwb_; obtain ⟨i036, hi036, _, hsz36, _⟩ := info_parts info41; have hroom36 : l0.length ≤ c0 := HC0.out; have hC36 : Kd.C k41 _ (some ad341) l0.length l0 := HR0.out; have hcut36 := cut_to (P := Try.prog) 23 41 .i64 Try.underlying23 hi036 (some ad341) l0.length c0 t350 (of_decide_eq_true pwb_) q36 hroom36; have hr36 := Kd.C_take (m := (t350 : Int).toNat) hC36 (by omega); have hy36 : y351.length = (t350 : Int).toNat := (by rw [Ny351.out, List.length_take]; omega); rw [← Ny351.out] at hr36; rw [← hy36] at hcut36; have HR354 := Aside0.mk hr36; have HC354 := Aside0.mk (show y351.length ≤ c0 from by omega); clear hr36 hC36 hroom36 hi036 hsz36; have KY36 := Aside0.mk hy36; clear hy36; replace q36 := eq_true q36) | (go_at_call 59; (with_reducible refine (ih k (by omega) _ _ y351 a1 t355 _ ?side1 ?side2 A19.out).mono ?_); (case side1 => repeat (first | exact HR354.out | (with_reducible refine Kd.C_alloc ?_ _) | (with_reducible refine Kd.C_drewN ?_ _) | (with_reducible refine Kd.C_drew ?_))); (case side2 => exact HC354.out); rintro e w' ⟨rfl, ⟨nd, rfl⟩⟩; (try first | exact ⟨rfl, _, World.drewN_drewN _ _ _⟩ | exact ⟨rfl, _, Eq.trans (World.drewN_drewN _ _ _) (congrArg (World.drewN _) (Nat.add_assoc _ _ _))⟩); have q37 : ((ji3) : Int) ≤ ((l0.length : Int) : Int) := of_decide_eq_true pwb_; obtain ⟨i037, hi037, _, hsz37, _⟩ := info_parts info41; have hroom37 : l0.length ≤ c0 := HC0.out; have hC37 : Kd.C k41 _ (some ad341) l0.length l0 := HR0.out; have ql37 : (t350 : Int) ≤ ((ji3) : Int) := of_decide_eq_true pwb_; have q037 : (0 : Int) ≤ (t350 : Int) := of_decide_eq_true pwb_; have hcut37 := cut_mid (P := Try.prog) 23 41 .i64 .i64 Try.underlying23 hi037 2 hsz37 (some ad341) l0.length c0 t350 (ji3) q037 ql37 q37 hroom37; have hr37 := Kd.C_mid (lo := (t350 : Int).toNat) (hi := ((ji3) : Int).toNat) (c := c0) hC37 (by omega) (by omega) hroom37; obtain ⟨A37, hA37⟩ : ∃ A1, A1 = (if c0 = (t350 : Int).toNat then (some ad341) else ((some ad341) : Option Addr).map (·.add ((t350 : Int).toNat * 2))) := ⟨_, rfl⟩; obtain ⟨c37, hc37⟩ : ∃ c1, c1 = c0 - (t350 : Int).toNat := ⟨_, rfl⟩; have hy37 : y356.length = ((ji3) : Int).toNat - (t350 : Int).toNat := (by rw [Ny356.out, List.length_drop, List.length_take] <;> omega); rw [show ((l0).take ((ji3) : Int).toNat).drop (t350 : Int).toNat = y356 from Ny356.out.symm] at hr37; replace hr37 : Kd.C k41 _ A37 y356.length y356 := (by rw [hA37]; exact hr37); rw [← hy37, ← hA37, ← hc37] at hcut37; have HR359 := Aside0.mk hr37; have HC359 := Aside0.mk (show y356.length ≤ c37 from by rw [hy37, hc37]; exact Nat.sub_le_sub_right (Nat.le_trans (by omega) hroom37) _); clear hr37 hC37 hroom37 hi037 hsz37 hc37; have KY37 := Aside0.mk hy37; have KA37 := Aside0.mk hA37; clear hy37 hA37; replace q37 := eq_true q37) | (go_at_call 59; (with_reducible refine (ih k (by omega) _ _ y356 a1 t360 _ ?side1 ?side2 A23.out).mono ?_); (case side1 => repeat (first | exact HR359.out | (with_reducible refine Kd.C_alloc ?_ _) | (with_reducible refine Kd.C_drewN ?_ _) | (with_reducible refine Kd.C_drew ?_))); (case side2 => exact HC359.out); rintro e w' ⟨rfl, ⟨nd, rfl⟩⟩; (try first | exact ⟨rfl, _, World.drewN_drewN _ _ _⟩ | exact ⟨rfl, _, Eq.trans (World.drewN_drewN _ _ _) (congrArg (World.drewN _) (Nat.add_assoc _ _ _))⟩); have p361 : 0 ≤ ((ji3) : Int) := of_decide_eq_true pwb_; have q361 : (ji3) < (l0.length : Int) := of_decide_eq_true pwb_; obtain ⟨ad361, e361, hx361_0, hx361_1⟩ := at_T41 HR0.out (ji3) p361 q361; obtain rfl : ad341 = ad361 := (by injection e361); replace p361 := eq_true p361; replace q361 := eq_true q361))
            repeat (go_quiet (first | (go_at_call 68; (with_reducible refine (spec_l2Starts.calls k _ _ l0 (wrap64 ((ji3) - 1)) t350 _ ?side1 ?side2 A16.out).mono ?_); (case side1 => repeat (first | exact HR0.out | (with_reducible refine Kd.C_alloc ?_ _) | (with_reducible refine Kd.C_drewN ?_ _) | (with_reducible refine Kd.C_drew ?_))); (case side2 => exact HC0.out); rintro e w' ⟨rfl, ⟨nd, rfl⟩⟩; (try first | exact ⟨rfl, _, World.drewN_drewN _ _ _⟩ | exact ⟨rfl, _, Eq.trans (World.drewN_drewN _ _ _) (congrArg (World.drewN _) (Nat.add_assoc _ _ _))⟩); have q36 : (t350 : Int) ≤ ((l0.length : Int) : Int) := of_decide_eq_true pwb_; obtain ⟨i036, hi036, _, hsz36, _⟩ := info_parts info41; have hroom36 : l0.length ≤ c0 := HC0.out; have hC36 : Kd.C k41 _ (some ad341) l0.length l0 := HR0.out; have hcut36 := cut_to (P := Try.prog) 23 41 .i64 Try.underlying23 hi036 (some ad341) l0.length c0 t350 (of_decide_eq_true pwb_) q36 hroom36; have hr36 := Kd.C_take (m := (t350 : Int).toNat) hC36 (by omega); have hy36 : y351.length = (t350 : Int).toNat := (by rw [Ny351.out, List.length_take]; omega); rw [← Ny351.out] at hr36; rw [← hy36] at hcut36; have HR354 := Aside0.mk hr36; have HC354 := Aside0.mk (show y351.length ≤ c0 from by omega); clear hr36 hC36 hroom36 hi036 hsz36; have KY36 := Aside0.mk hy36; clear hy36; replace q36 := eq_true q36) | (go_at_call 59; (with_reducible refine (ih k (by omega) _ _ y351 a1 t355 _ ?side1 ?side2 A19.out).mono ?_); (case side1 => repeat (first | exact HR354.out | (with_reducible refine Kd.C_alloc ?_ _) | (with_reducible refine Kd.C_drewN ?_ _) | (with_reducible refine Kd.C_drew ?_))); (case side2 => exact HC354.out); rintro e w' ⟨rfl, ⟨nd, rfl⟩⟩; (try first | exact ⟨rfl, _, World.drewN_drewN _ _ _⟩ | exact ⟨rfl, _, Eq.trans (World.drewN_drewN _ _ _) (congrArg (World.drewN _) (Nat.add_assoc _ _ _))⟩); have q37 : ((ji3) : Int) ≤ ((l0.length : Int) : Int) := of_decide_eq_true pwb_; obtain ⟨i037, hi037, _, hsz37, _⟩ := info_parts info41; have hroom37 : l0.length ≤ c0 := HC0.out; have hC37 : Kd.C k41 _ (some ad341) l0.length l0 := HR0.out; have ql37 : (t350 : Int) ≤ ((ji3) : Int) := of_decide_eq_true pwb_; have q037 : (0 : Int) ≤ (t350 : Int) := of_decide_eq_true pwb_; have hcut37 := cut_mid (P := Try.prog) 23 41 .i64 .i64 Try.underlying23 hi037 2 hsz37 (some ad341) l0.length c0 t350 (ji3) q037 ql37 q37 hroom37; have hr37 := Kd.C_mid (lo := (t350 : Int).toNat) (hi := ((ji3) : Int).toNat) (c := c0) hC37 (by omega) (by omega) hroom37; obtain ⟨A37, hA37⟩ : ∃ A1, A1 = (if c0 = (t350 : Int).toNat then (some ad341) else ((some ad341) : Option Addr).map (·.add ((t350 : Int).toNat * 2))) := ⟨_, rfl⟩; obtain ⟨c37, hc37⟩ : ∃ c1, c1 = c0 - (t350 : Int).toNat := ⟨_, rfl⟩; have hy37 : y356.length = ((ji3) : Int).toNat - (t350 : Int).toNat := (by rw [Ny356.out, List.length_drop, List.length_take] <;> omega); rw [show ((l0).take ((ji3) : Int).toNat).drop (t350 : Int).toNat = y356 from Ny356.out.symm] at hr37; replace hr37 : Kd.C k41 _ A37 y356.length y356 := (by rw [hA37]; exact hr37); rw [← hy37, ← hA37, ← hc37] at hcut37; have HR359 := Aside0.mk hr37; have HC359 := Aside0.mk (show y356.length ≤ c37 from by rw [hy37, hc37]; exact Nat.sub_le_sub_right (Nat.le_trans (by omega) hroom37) _); clear hr37 hC37 hroom37 hi037 hsz37 hc37; have KY37 := Aside0.mk hy37; have KA37 := Aside0.mk hA37; clear hy37 hA37; replace q37 := eq_true q37) | (go_at_call 59; (with_reducible refine (ih k (by omega) _ _ y356 a1 t360 _ ?side1 ?side2 A23.out).mono ?_); (case side1 => repeat (first | exact HR359.out | (with_reducible refine Kd.C_alloc ?_ _) | (with_reducible refine Kd.C_drewN ?_ _) | (with_reducible refine Kd.C_drew ?_))); (case side2 => exact HC359.out); rintro e w' ⟨rfl, ⟨nd, rfl⟩⟩; (try first | exact ⟨rfl, _, World.drewN_drewN _ _ _⟩ | exact ⟨rfl, _, Eq.trans (World.drewN_drewN _ _ _) (congrArg (World.drewN _) (Nat.add_assoc _ _ _))⟩); have p361 : 0 ≤ ((ji3) : Int) := of_decide_eq_true pwb_; have q361 : (ji3) < (l0.length : Int) := of_decide_eq_true pwb_; obtain ⟨ad361, e361, hx361_0, hx361_1⟩ := at_T41 HR0.out (ji3) p361 q361; obtain rfl : ad341 = ad361 := (by injection e361); replace p361 := eq_true p361; replace q361 := eq_true q361)); try go_wp2_with (first | (go_at_call 68; (with_reducible refine (spec_l2Starts.calls k _ _ l0 (wrap64 ((ji3) - 1)) t350 _ ?side1 ?side2 A16.out).mono ?_); (case side1 => repeat (first | exact HR0.out | (with_reducible refine Kd.C_alloc ?_ _) | (with_reducible refine Kd.C_drewN ?_ _) | (with_reducible refine Kd.C_drew ?_))); (case side2 => exact HC0.out); rintro e w' ⟨rfl, ⟨nd, rfl⟩⟩; (try first | exact ⟨rfl, _, World.drewN_drewN _ _ _⟩ | exact ⟨rfl, _, Eq.trans (World.drewN_drewN _ _ _) (congrArg (World.drewN _) (Nat.add_assoc _ _ _))⟩); have q36 : (t350 : Int) ≤ ((l0.length : Int) : Int) := of_decide_eq_true pwb_; obtain ⟨i036, hi036, _, hsz36, _⟩ := info_parts info41; have hroom36 : l0.length ≤ c0 := HC0.out; have hC36 : Kd.C k41 _ (some ad341) l0.length l0 := HR0.out; have hcut36 := cut_to (P := Try.prog) 23 41 .i64 Try.underlying23 hi036 (some ad341) l0.length c0 t350 (of_decide_eq_true pwb_) q36 hroom36; have hr36 := Kd.C_take (m := (t350 : Int).toNat) hC36 (by omega); have hy36 : y351.length = (t350 : Int).toNat := (by rw [Ny351.out, List.length_take]; omega); rw [← Ny351.out] at hr36; rw [← hy36] at hcut36; have HR354 := Aside0.mk hr36; have HC354 := Aside0.mk (show y351.length ≤ c0 from by omega); clear hr36 hC36 hroom36 hi036 hsz36; have KY36 := Aside0.mk hy36; clear hy36; replace q36 := eq_true q36) | (go_at_call 59; (with_reducible refine (ih k (by omega) _ _ y351 a1 t355 _ ?side1 ?side2 A19.out).mono ?_); (case side1 => repeat (first | exact HR354.out | (with_reducible refine Kd.C_alloc ?_ _) | (with_reducible refine Kd.C_drewN ?_ _) | (with_reducible refine Kd.C_drew ?_))); (case side2 => exact HC354.out); rintro e w' ⟨rfl, ⟨nd, rfl⟩⟩; (try first | exact ⟨rfl, _, World.drewN_drewN _ _ _⟩ | exact ⟨rfl, _, Eq.trans (World.drewN_drewN _ _ _) (congrArg (World.drewN _) (Nat.add_assoc _ _ _))⟩); have q37 : ((ji3) : Int) ≤ ((l0.length : Int) : Int) := of_decide_eq_true pwb_; obtain ⟨i037, hi037, _, hsz37, _⟩ := info_parts info41; have hroom37 : l0.length ≤ c0 := HC0.out; have hC37 : Kd.C k41 _ (some ad341) l0.length l0 := HR0.out; have ql37 : (t350 : Int) ≤ ((ji3) : Int) := of_decide_eq_true pwb_; have q037 : (0 : Int) ≤ (t350 : Int) := of_decide_eq_true pwb_; have hcut37 := cut_mid (P := Try.prog) 23 41 .i64 .i64 Try.underlying23 hi037 2 hsz37 (some ad341) l0.length c0 t350 (ji3) q037 ql37 q37 hroom37; have hr37 := Kd.C_mid (lo := (t350 : Int).toNat) (hi := ((ji3) : Int).toNat) (c := c0) hC37 (by omega) (by omega) hroom37; obtain ⟨A37, hA37⟩ : ∃ A1, A1 = (if c0 = (t350 : Int).toNat then (some ad341) else ((some ad341) : Option Addr).map (·.add ((t350 : Int).toNat * 2))) := ⟨_, rfl⟩; obtain ⟨c37, hc37⟩ : ∃ c1, c1 = c0 - (t350 : Int).toNat := ⟨_, rfl⟩; have hy37 : y356.length = ((ji3) : Int).toNat - (t350 : Int).toNat := (by rw [Ny356.out, List.length_drop, List.length_take] <;> omega); rw [show ((l0).take ((ji3) : Int).toNat).drop (t350 : Int).toNat = y356 from Ny356.out.symm] at hr37; replace hr37 : Kd.C k41 _ A37 y356.length y356 := (by rw [hA37]; exact hr37); rw [← hy37, ← hA37, ← hc37] at hcut37; have HR359 := Aside0.mk hr37; have HC359 := Aside0.mk (show y356.length ≤ c37 from by rw [hy37, hc37]; exact Nat.sub_le_sub_right (Nat.le_trans (by omega) hroom37) _); clear hr37 hC37 hroom37 hi037 hsz37 hc37; have KY37 := Aside0.mk hy37; have KA37 := Aside0.mk hA37; clear hy37 hA37; replace q37 := eq_true q37) | (go_at_call 59; (with_reducible refine (ih k (by omega) _ _ y356 a1 t360 _ ?side1 ?side2 A23.out).mono ?_); (case side1 => repeat (first | exact HR359.out | (with_reducible refine Kd.C_alloc ?_ _) | (with_reducible refine Kd.C_drewN ?_ _) | (with_reducible refine Kd.C_drew ?_))); (case side2 => exact HC359.out); rintro e w' ⟨rfl, ⟨nd, rfl⟩⟩; (try first | exact ⟨rfl, _, World.drewN_drewN _ _ _⟩ | exact ⟨rfl, _, Eq.trans (World.drewN_drewN _ _ _) (congrArg (World.drewN _) (Nat.add_assoc _ _ _))⟩); have p361 : 0 ≤ ((ji3) : Int) := of_decide_eq_true pwb_; have q361 : (ji3) < (l0.length : Int) := of_decide_eq_true pwb_; obtain ⟨ad361, e361, hx361_0, hx361_1⟩ := at_T41 HR0.out (ji3) p361 q361; obtain rfl : ad341 = ad361 := (by injection e361); replace p361 := eq_true p361; replace q361 := eq_true q361)))
            go_ret
            exact ⟨by first | rfl | (simp; done) | (simp only [← hji3] <;> (first | rfl | simp)) | (simp [*]; done), by repeat (first | exact Drawn0.refl _ | apply Drawn0.step)⟩
         ·rw [if_neg c22] at H
          exact absurd H (by simp)
        ·rw [if_neg c21] at H
         exact absurd H (by simp)
       ·rw [if_neg c18] at H
        exact absurd H (by simp)
      ·rw [if_neg c17] at H
       exact absurd H (by simp)
  ·rw [if_neg c5] at H
   exact absurd H (by simp)
 ·rw [if_neg c4] at H
  exact absurd H (by simp)

end Go.Proofs.Ytigkmppgbaoafaa.PFnSameOk
