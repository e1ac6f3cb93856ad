-- Made by a program of this session (wip/tools/patchprint.py), not by the kit itself.
import Derived.Test.YtcadjbmekmnjaaaPFnTermTextx0
import Derived.Test.YtcadjbmekmnjaaaPFnTermTextx4
import Derived.Test.YtcadjbmekmnjaaaPFnTermTextx6
import Derived.Test.YtcadjbmekmnjaaaPFnTermTextx7
namespace Go.Proofs.Ytcadjbmekmnjaaa.PFnTermText
open Go.RowKit Go.Proofs.YtcadjbmekmnjaaaW.PrintWords Go.Proofs.YtcadjbmekmnjaaaW.PrintLast Go.Proofs.YtcadjbmekmnjaaaW.PrintMore
attribute [local go_sem] max2_int min2_int max_two min_two max_three min_three max_four min_four   -- for this text's walks alone
set_option linter.unusedVariables false
set_option linter.unusedSimpArgs false

attribute [local go_sem] setCell_isSome

/-! ### spec_l2Held, spec_l2Text, which call each other -/
mutual
def spec_l2Held.f : Nat → List (S39) → Int → Option (ByteArray)
 | 0, _, _ => none
 | k + 1, l0, a1 => (spec_l2Binds.f l0).bind fun t333 => (if t333 < a1 then ((spec_l2Text.f k l0).bind fun t334 => (if 1 + t334.size ≤ 9223372036854775807 then (if ((⟨#[40]⟩ : ByteArray) ++ t334).size + 1 ≤ 9223372036854775807 then (some (((⟨#[40]⟩ : ByteArray) ++ t334) ++ (⟨#[41]⟩ : ByteArray))) else (none)) else (none))) else ((spec_l2Text.f k l0).bind fun t335 => (some t335)))
def spec_l2Text.f : Nat → List (S39) → Option (ByteArray)
 | 0, _ => none
 | k + 1, l0 => if 0 ≤ (wrap64 ((l0.length : Int) - 1)) then (if (wrap64 ((l0.length : Int) - 1)) < (l0.length : Int) then (if ((rd_T39 l0 (wrap64 ((l0.length : Int) - 1))).f0) = 0 then (if 0 ≤ ((rd_T39 l0 (wrap64 ((l0.length : Int) - 1))).f1) then (if ((rd_T39 l0 (wrap64 ((l0.length : Int) - 1))).f1) ≤ (wrap64 (((rd_T39 l0 (wrap64 ((l0.length : Int) - 1))).f1) + 1)) then (if (wrap64 (((rd_T39 l0 (wrap64 ((l0.length : Int) - 1))).f1) + 1)) ≤ 4 then (some ((⟨#[97, 98, 99, 100]⟩ : ByteArray).extract (((rd_T39 l0 (wrap64 ((l0.length : Int) - 1))).f1) : Int).toNat ((wrap64 (((rd_T39 l0 (wrap64 ((l0.length : Int) - 1))).f1) + 1)) : Int).toNat)) else (none)) else (none)) else (none)) else (if ((rd_T39 l0 (wrap64 ((l0.length : Int) - 1))).f0) = 1 then ((spec_l1Number.f k ((rd_T39 l0 (wrap64 ((l0.length : Int) - 1))).f1)).bind fun t342 => (some t342)) else (if ((rd_T39 l0 (wrap64 ((l0.length : Int) - 1))).f0) = 2 then (if (wrap64 ((l0.length : Int) - 1)) ≤ (l0.length : Int) then ((spec_l2Held.f k (l0.take ((wrap64 ((l0.length : Int) - 1)) : Int).toNat) 3).bind fun t347 => (if 1 + t347.size ≤ 9223372036854775807 then (some ((⟨#[33]⟩ : ByteArray) ++ t347)) else (none))) else (none)) else ((spec_l2Starts.f k l0 (wrap64 ((wrap64 ((l0.length : Int) - 1)) - 1))).bind fun t348 => ((spec_l2Binds.f l0).bind fun t349 => (if 0 ≤ t348 then (if t348 ≤ (l0.length : Int) then ((spec_l2Held.f k (l0.take (t348 : Int).toNat) t349).bind fun t354 => (if 0 ≤ (wrap64 (2 - t349)) then (if (wrap64 (2 - t349)) ≤ (wrap64 (3 - t349)) then (if (wrap64 (3 - t349)) ≤ 3 then (if t354.size + ((⟨#[38, 124, 61]⟩ : ByteArray).extract ((wrap64 (2 - t349)) : Int).toNat ((wrap64 (3 - t349)) : Int).toNat).size ≤ 9223372036854775807 then (if t348 ≤ (wrap64 ((l0.length : Int) - 1)) then (if (wrap64 ((l0.length : Int) - 1)) ≤ (l0.length : Int) then ((spec_l2Held.f k ((l0.take ((wrap64 ((l0.length : Int) - 1)) : Int).toNat).drop (t348 : Int).toNat) (wrap64 (t349 + 1))).bind fun t359 => (if (t354 ++ ((⟨#[38, 124, 61]⟩ : ByteArray).extract ((wrap64 (2 - t349)) : Int).toNat ((wrap64 (3 - t349)) : Int).toNat)).size + t359.size ≤ 9223372036854775807 then (some ((t354 ++ ((⟨#[38, 124, 61]⟩ : ByteArray).extract ((wrap64 (2 - t349)) : Int).toNat ((wrap64 (3 - t349)) : Int).toNat)) ++ t359)) else (none))) else (none)) else (none)) else (none)) else (none)) else (none)) else (none))) else (none)) else (none))))))) else (none)) else (none)
end
theorem l2Text_l2Held_c.mono_l : ∀ k, ((∀ y0 y1, LeO (spec_l2Held.f k y0 y1) (spec_l2Held.f (k + 1) y0 y1))) ∧ ((∀ y0, LeO (spec_l2Text.f k y0) (spec_l2Text.f (k + 1) y0)))
 | 0 => ⟨fun _ _ r h => by simp [spec_l2Held.f] at h, fun _ r h => by simp [spec_l2Text.f] at h⟩
 | k + 1 => by
  obtain ⟨g0_, g1_⟩ := l2Text_l2Held_c.mono_l k
  refine ⟨?_, ?_⟩
  case refine_1 =>
   have ih0 := g0_
   ·intro y0 y1
    unfold spec_l2Held.f
    repeat' first
    | (with_reducible exact ih0 _ _)
    | (with_reducible exact g1_ _)
    | (with_reducible exact LeO.refl _)
    | (with_reducible exact LeO.none _)
    | (with_reducible refine LeO.ite ?_ ?_)
    | (with_reducible refine LeO.bind ?_ (fun _ => ?_))
    | exact ih0 _ _
    | exact g1_ _
    | exact LeO.none _
    | refine LeO.ite ?_ ?_
    | refine LeO.bind ?_ (fun _ => ?_)
  case refine_2 =>
   have ih0 := g1_
   ·intro y0
    unfold spec_l2Text.f
    repeat' first
    | (with_reducible exact ih0 _)
    | (with_reducible exact spec_l1Number.mono _ _)
    | (with_reducible exact g0_ _ _)
    | (with_reducible exact spec_l2Starts.mono _ _ _)
    | (with_reducible exact LeO.refl _)
    | (with_reducible exact LeO.none _)
    | (with_reducible refine LeO.ite ?_ ?_)
    | (with_reducible refine LeO.bind ?_ (fun _ => ?_))
    | exact ih0 _
    | exact spec_l1Number.mono _ _
    | exact g0_ _ _
    | exact spec_l2Starts.mono _ _ _
    | exact LeO.none _
    | refine LeO.ite ?_ ?_
    | refine LeO.bind ?_ (fun _ => ?_)
theorem spec_l2Held.mono : ∀ a0 a1 k, LeO (spec_l2Held.f k a0 a1) (spec_l2Held.f (k + 1) a0 a1) := by
 intro a0 a1 k
 have ih0 := (l2Text_l2Held_c.mono_l k).1
 exact ih0 a0 a1
theorem spec_l2Text.mono : ∀ a0 k, LeO (spec_l2Text.f k a0) (spec_l2Text.f (k + 1) a0) := by
 intro a0 k
 have ih0 := (l2Text_l2Held_c.mono_l k).2
 exact ih0 a0
def spec_l2Text.T4 : Bool × List (List Nat × List Nat) := (true, [([], []), ([], []), ([0, 1], [0, 1]), ([2], [2]), ([3], [3]), ([], []), ([], []), ([5, 6], [5, 6]), ([7], [7]), ([8], [8]), ([9], [9]), ([4, 10], [4, 10]), ([11, 0, 1, 2, 3, 4, 5, 6, 7, 8, 9, 10, 11], [11])])
def spec_l2Text.B4 : List Nat := [0, 0, 3, 7, 15, 0, 0, 96, 224, 480, 992, 2047, 4095]
theorem spec_l2Text.tab4 : rtab .any (opsOf Try.f15 4) = spec_l2Text.T4 := by kernel_rfl
theorem spec_l2Text.bits4 : waitsOk spec_l2Text.T4.2 spec_l2Text.B4 = true := by kernel_rfl
def spec_l2Text.T11 : Bool × List (List Nat × List Nat) := (true, [([], []), ([], []), ([0, 1], [0, 1]), ([], []), ([2, 3], [2, 3]), ([], []), ([5], [5]), ([], []), ([7], [7]), ([6, 8], [6, 8]), ([4, 9], [4, 9]), ([], []), ([], []), ([], []), ([11, 12, 13], [11, 12, 13]), ([], []), ([15], [15]), ([14, 16, 4], [14, 16]), ([10, 17], [10, 17]), ([18, 17, 0, 1, 2, 3, 4, 5, 6, 7, 8, 9, 10, 11, 12, 13, 14, 15, 16, 17, 18], [18])])
def spec_l2Text.B11 : List Nat := [0, 0, 3, 0, 15, 0, 32, 0, 128, 480, 1023, 0, 0, 0, 14336, 0, 32768, 129055, 262143, 524287]
theorem spec_l2Text.tab11 : rtab .any (opsOf Try.f15 11) = spec_l2Text.T11 := by kernel_rfl
theorem spec_l2Text.bits11 : waitsOk spec_l2Text.T11.2 spec_l2Text.B11 = true := by kernel_rfl
set_option maxHeartbeats 8000000 in
set_option maxRecDepth 100000 in
theorem spec_l2Held.step (k : Nat) (h0_ : ∀ m_, m_ < k → ∀ (A0 : Option Addr) (c0 : Nat) (l0 : List (S39)) (a1 : Int) (r : ByteArray) (w : World) (hr0 : Kd.C k39 w A0 l0.length l0) (hc0 : l0.length ≤ c0) (h : spec_l2Held.f m_ l0 a1 = some r),
  Calls Try.prog 25 #[.slice A0 l0.length c0, .int .i64 a1] w fun e w' => e = .returned (.string r) ∧ Below w.heap.size w w') (h1_ : ∀ m_, m_ < k → ∀ (A0 : Option Addr) (c0 : Nat) (l0 : List (S39)) (r : ByteArray) (w : World) (hr0 : Kd.C k39 w A0 l0.length l0) (hc0 : l0.length ≤ c0) (h : spec_l2Text.f m_ l0 = some r),
  Calls Try.prog 15 #[.slice A0 l0.length c0] w fun e w' => e = .returned (.string r) ∧ Below w.heap.size w w') : ∀ (A0 : Option Addr) (c0 : Nat) (l0 : List (S39)) (a1 : Int) (r : ByteArray) (w : World) (hr0 : Kd.C k39 w A0 l0.length l0) (hc0 : l0.length ≤ c0) (h : spec_l2Held.f k l0 a1 = some r),
  Calls Try.prog 25 #[.slice A0 l0.length c0, .int .i64 a1] w fun e w' => e = .returned (.string r) ∧ Below w.heap.size w w' := by
 have ih := h0_
 intro A0 c0 l0 a1 r w hr0 hc0 h
 cases k with
 | zero => exact absurd h (by simp [spec_l2Held.f])
 | succ k =>
 simp only [spec_l2Held.f] at h
 have HR0 := Aside0.mk hr0
 have HC0 := Aside0.mk hc0
 clear hr0 hc0
 have HB := Aside0.mk (Below.refl w.heap.size w)
 have H : ((spec_l2Binds.f l0).bind fun t333 => (if t333 < a1 then ((spec_l2Text.f k l0).bind fun t334 => (if 1 + t334.size ≤ 9223372036854775807 then (if ((⟨#[40]⟩ : ByteArray) ++ t334).size + 1 ≤ 9223372036854775807 then (some (((⟨#[40]⟩ : ByteArray) ++ t334) ++ (⟨#[41]⟩ : ByteArray))) else (none)) else (none))) else ((spec_l2Text.f k l0).bind fun t335 => (some t335)))) = some r := h
 clear h
 replace H := Option.bind_eq_some_iff.mp H
 obtain ⟨t333, A30, H⟩ := H
 replace H : (if t333 < a1 then ((spec_l2Text.f k l0).bind fun t334 => (if 1 + t334.size ≤ 9223372036854775807 then (if ((⟨#[40]⟩ : ByteArray) ++ t334).size + 1 ≤ 9223372036854775807 then (some (((⟨#[40]⟩ : ByteArray) ++ t334) ++ (⟨#[41]⟩ : ByteArray))) else (none)) else (none))) else ((spec_l2Text.f k l0).bind fun t335 => (some t335))) = some r := H
 have A3 := Aside0.mk A30
 clear A30
 by_cases c4 : t333 < a1
 ·rw [if_pos c4] at H
  have c4b0 : decide (t333 < a1) = true := decide_eq_true c4
  clear c4
  replace H := Option.bind_eq_some_iff.mp H
  obtain ⟨t334, A50, H⟩ := H
  replace H : (if 1 + t334.size ≤ 9223372036854775807 then (if ((⟨#[40]⟩ : ByteArray) ++ t334).size + 1 ≤ 9223372036854775807 then (some (((⟨#[40]⟩ : ByteArray) ++ t334) ++ (⟨#[41]⟩ : ByteArray))) else (none)) else (none)) = some r := H
  have A5 := Aside0.mk A50
  clear A50
  by_cases c6 : 1 + t334.size ≤ 9223372036854775807
  ·rw [if_pos c6] at H
   have c6b0 := eq_true c6
   have c6b1 : decide (1 + t334.size ≤ 9223372036854775807) = true := decide_eq_true c6
   try have c6b2 : (9223372036854775807 < 1 + t334.size) = False := eq_false (Nat.not_lt.2 c6)
   by_cases c7 : ((⟨#[40]⟩ : ByteArray) ++ t334).size + 1 ≤ 9223372036854775807
   ·rw [if_pos c7] at H
    have c7b0 := eq_true c7
    have c7b1 : decide (((⟨#[40]⟩ : ByteArray) ++ t334).size + 1 ≤ 9223372036854775807) = true := decide_eq_true c7
    try have c7b2 : (9223372036854775807 < ((⟨#[40]⟩ : ByteArray) ++ t334).size + 1) = False := eq_false (Nat.not_lt.2 c7)
    try have c7b3 : (9223372036854775807 < 1 + t334.size + 1) = False := eq_false (by have z_ := c7; simp only [ByteArray.size_append] at z_; have e0_ : (⟨#[40]⟩ : ByteArray).size = 1 := rfl; omega)
    obtain rfl := Option.some.inj H
    go_enter Try.func25, Try.ntmps25
    go_wp2_with (first | ((with_reducible refine gate_callee (f := 27) rfl ?_); refine goesL_ (some 6) rfl rfl Try.func27 (by kernel_rfl) rfl #[.slice A0 l0.length c0] rfl pwi_ ?_; (with_reducible refine (spec_l2Binds.calls _ _ l0 t333 _ ?side1 ?side2 A3.out).mono ?_); (case side1 => repeat (first | exact HR0.out | (with_reducible refine Kd.C_alloc ?_ _) | (with_reducible refine Kd.C_drewN ?_ _) | (with_reducible refine Kd.C_drew ?_))); (case side2 => exact HC0.out); rintro e w8 ⟨rfl, hb⟩; refine ⟨_, rfl, ?_⟩; have n0_ := Aside0.mk (below_step pwg_ hb); clear HB; have HB := n0_; clear n0_; (try clear hb); (try clear hb2); (try clear hk); (try clear hi)) | ((with_reducible refine gate_callee (f := 15) rfl ?_); refine goesL_ (some 10) rfl rfl Try.func15 (by kernel_rfl) rfl #[.slice A0 l0.length c0] rfl pwi_ ?_; (with_reducible refine (h1_ k (by omega) _ _ l0 t334 _ ?side1 ?side2 A5.out).mono ?_); (case side1 => repeat (first | exact (Kd.C_below HR0.out HB.out) | (with_reducible refine Kd.C_alloc ?_ _) | (with_reducible refine Kd.C_drewN ?_ _) | (with_reducible refine Kd.C_drew ?_))); (case side2 => exact HC0.out); rintro e w9 ⟨rfl, hb⟩; refine ⟨_, rfl, ?_⟩; have n0_ := Aside0.mk (below_step pwg_ hb); clear HB; have HB := n0_; clear n0_; (try clear hb); (try clear hb2); (try clear hk); (try clear hi)))
    go_ret
    exact ⟨by first | rfl | (simp [errW_none, errW_some] <;> rfl) | (simp [*, errW_none, errW_some] <;> rfl), pwg_⟩
   ·rw [if_neg c7] at H
    exact absurd H (by simp)
  ·rw [if_neg c6] at H
   exact absurd H (by simp)
 ·rw [if_neg c4] at H
  have c4b0 : decide (t333 < a1) = false := decide_eq_false c4
  clear c4
  replace H := Option.bind_eq_some_iff.mp H
  obtain ⟨t335, A100, H⟩ := H
  replace H : (some t335) = some r := H
  have A10 := Aside0.mk A100
  clear A100
  obtain rfl := Option.some.inj H
  go_enter Try.func25, Try.ntmps25
  go_wp2_with (first | ((with_reducible refine gate_callee (f := 27) rfl ?_); refine goesL_ (some 6) rfl rfl Try.func27 (by kernel_rfl) rfl #[.slice A0 l0.length c0] rfl pwi_ ?_; (with_reducible refine (spec_l2Binds.calls _ _ l0 t333 _ ?side1 ?side2 A3.out).mono ?_); (case side1 => repeat (first | exact HR0.out | (with_reducible refine Kd.C_alloc ?_ _) | (with_reducible refine Kd.C_drewN ?_ _) | (with_reducible refine Kd.C_drew ?_))); (case side2 => exact HC0.out); rintro e w11 ⟨rfl, hb⟩; refine ⟨_, rfl, ?_⟩; have n0_ := Aside0.mk (below_step pwg_ hb); clear HB; have HB := n0_; clear n0_; (try clear hb); (try clear hb2); (try clear hk); (try clear hi)) | ((with_reducible refine gate_callee (f := 15) rfl ?_); refine goesL_ (some 14) rfl rfl Try.func15 (by kernel_rfl) rfl #[.slice A0 l0.length c0] rfl pwi_ ?_; (with_reducible refine (h1_ k (by omega) _ _ l0 t335 _ ?side1 ?side2 A10.out).mono ?_); (case side1 => repeat (first | exact (Kd.C_below HR0.out HB.out) | (with_reducible refine Kd.C_alloc ?_ _) | (with_reducible refine Kd.C_drewN ?_ _) | (with_reducible refine Kd.C_drew ?_))); (case side2 => exact HC0.out); rintro e w12 ⟨rfl, hb⟩; refine ⟨_, rfl, ?_⟩; have n0_ := Aside0.mk (below_step pwg_ hb); clear HB; have HB := n0_; clear n0_; (try clear hb); (try clear hb2); (try clear hk); (try clear hi)))
  go_ret
  exact ⟨by first | rfl | (simp [errW_none, errW_some] <;> rfl) | (simp [*, errW_none, errW_some] <;> rfl), pwg_⟩
set_option maxHeartbeats 8000000 in
set_option maxRecDepth 100000 in
theorem spec_l2Text.step (k : Nat) (h0_ : ∀ m_, m_ < k → ∀ (A0 : Option Addr) (c0 : Nat) (l0 : List (S39)) (a1 : Int) (r : ByteArray) (w : World) (hr0 : Kd.C k39 w A0 l0.length l0) (hc0 : l0.length ≤ c0) (h : spec_l2Held.f m_ l0 a1 = some r),
  Calls Try.prog 25 #[.slice A0 l0.length c0, .int .i64 a1] w fun e w' => e = .returned (.string r) ∧ Below w.heap.size w w') (h1_ : ∀ m_, m_ < k → ∀ (A0 : Option Addr) (c0 : Nat) (l0 : List (S39)) (r : ByteArray) (w : World) (hr0 : Kd.C k39 w A0 l0.length l0) (hc0 : l0.length ≤ c0) (h : spec_l2Text.f m_ l0 = some r),
  Calls Try.prog 15 #[.slice A0 l0.length c0] w fun e w' => e = .returned (.string r) ∧ Below w.heap.size w w') : ∀ (A0 : Option Addr) (c0 : Nat) (l0 : List (S39)) (r : ByteArray) (w : World) (hr0 : Kd.C k39 w A0 l0.length l0) (hc0 : l0.length ≤ c0) (h : spec_l2Text.f k l0 = some r),
  Calls Try.prog 15 #[.slice A0 l0.length c0] w fun e w' => e = .returned (.string r) ∧ Below w.heap.size w w' := by
 have ih := h1_
 intro A0 c0 l0 r w hr0 hc0 h
 cases k with
 | zero => exact absurd h (by simp [spec_l2Text.f])
 | succ k =>
 simp only [spec_l2Text.f] at h
 have HR0 := Aside0.mk hr0
 have HC0 := Aside0.mk hc0
 clear hr0 hc0
 have HB := Aside0.mk (Below.refl w.heap.size w)
 have H : (if 0 ≤ (wrap64 ((l0.length : Int) - 1)) then (if (wrap64 ((l0.length : Int) - 1)) < (l0.length : Int) then (if ((rd_T39 l0 (wrap64 ((l0.length : Int) - 1))).f0) = 0 then (if 0 ≤ ((rd_T39 l0 (wrap64 ((l0.length : Int) - 1))).f1) then (if ((rd_T39 l0 (wrap64 ((l0.length : Int) - 1))).f1) ≤ (wrap64 (((rd_T39 l0 (wrap64 ((l0.length : Int) - 1))).f1) + 1)) then (if (wrap64 (((rd_T39 l0 (wrap64 ((l0.length : Int) - 1))).f1) + 1)) ≤ 4 then (some ((⟨#[97, 98, 99, 100]⟩ : ByteArray).extract (((rd_T39 l0 (wrap64 ((l0.length : Int) - 1))).f1) : Int).toNat ((wrap64 (((rd_T39 l0 (wrap64 ((l0.length : Int) - 1))).f1) + 1)) : Int).toNat)) else (none)) else (none)) else (none)) else (if ((rd_T39 l0 (wrap64 ((l0.length : Int) - 1))).f0) = 1 then ((spec_l1Number.f k ((rd_T39 l0 (wrap64 ((l0.length : Int) - 1))).f1)).bind fun t342 => (some t342)) else (if ((rd_T39 l0 (wrap64 ((l0.length : Int) - 1))).f0) = 2 then (if (wrap64 ((l0.length : Int) - 1)) ≤ (l0.length : Int) then ((spec_l2Held.f k (l0.take ((wrap64 ((l0.length : Int) - 1)) : Int).toNat) 3).bind fun t347 => (if 1 + t347.size ≤ 9223372036854775807 then (some ((⟨#[33]⟩ : ByteArray) ++ t347)) else (none))) else (none)) else ((spec_l2Starts.f k l0 (wrap64 ((wrap64 ((l0.length : Int) - 1)) - 1))).bind fun t348 => ((spec_l2Binds.f l0).bind fun t349 => (if 0 ≤ t348 then (if t348 ≤ (l0.length : Int) then ((spec_l2Held.f k (l0.take (t348 : Int).toNat) t349).bind fun t354 => (if 0 ≤ (wrap64 (2 - t349)) then (if (wrap64 (2 - t349)) ≤ (wrap64 (3 - t349)) then (if (wrap64 (3 - t349)) ≤ 3 then (if t354.size + ((⟨#[38, 124, 61]⟩ : ByteArray).extract ((wrap64 (2 - t349)) : Int).toNat ((wrap64 (3 - t349)) : Int).toNat).size ≤ 9223372036854775807 then (if t348 ≤ (wrap64 ((l0.length : Int) - 1)) then (if (wrap64 ((l0.length : Int) - 1)) ≤ (l0.length : Int) then ((spec_l2Held.f k ((l0.take ((wrap64 ((l0.length : Int) - 1)) : Int).toNat).drop (t348 : Int).toNat) (wrap64 (t349 + 1))).bind fun t359 => (if (t354 ++ ((⟨#[38, 124, 61]⟩ : ByteArray).extract ((wrap64 (2 - t349)) : Int).toNat ((wrap64 (3 - t349)) : Int).toNat)).size + t359.size ≤ 9223372036854775807 then (some ((t354 ++ ((⟨#[38, 124, 61]⟩ : ByteArray).extract ((wrap64 (2 - t349)) : Int).toNat ((wrap64 (3 - t349)) : Int).toNat)) ++ t359)) else (none))) else (none)) else (none)) else (none)) else (none)) else (none)) else (none))) else (none)) else (none))))))) else (none)) else (none)) = some r := h
 clear h
 obtain ⟨ji2, hji2⟩ : ∃ j_ : Int, (wrap64 ((l0.length : Int) - 1)) = j_ := ⟨_, rfl⟩
 replace H : (if 0 ≤ (ji2) then (if (ji2) < (l0.length : Int) then (if ((rd_T39 l0 (ji2)).f0) = 0 then (if 0 ≤ ((rd_T39 l0 (ji2)).f1) then (if ((rd_T39 l0 (ji2)).f1) ≤ (wrap64 (((rd_T39 l0 (ji2)).f1) + 1)) then (if (wrap64 (((rd_T39 l0 (ji2)).f1) + 1)) ≤ 4 then (some ((⟨#[97, 98, 99, 100]⟩ : ByteArray).extract (((rd_T39 l0 (ji2)).f1) : Int).toNat ((wrap64 (((rd_T39 l0 (ji2)).f1) + 1)) : Int).toNat)) else (none)) else (none)) else (none)) else (if ((rd_T39 l0 (ji2)).f0) = 1 then ((spec_l1Number.f k ((rd_T39 l0 (ji2)).f1)).bind fun t342 => (some t342)) else (if ((rd_T39 l0 (ji2)).f0) = 2 then (if (ji2) ≤ (l0.length : Int) then ((spec_l2Held.f k (l0.take ((ji2) : Int).toNat) 3).bind fun t347 => (if 1 + t347.size ≤ 9223372036854775807 then (some ((⟨#[33]⟩ : ByteArray) ++ t347)) else (none))) else (none)) else ((spec_l2Starts.f k l0 (wrap64 ((ji2) - 1))).bind fun t348 => ((spec_l2Binds.f l0).bind fun t349 => (if 0 ≤ t348 then (if t348 ≤ (l0.length : Int) then ((spec_l2Held.f k (l0.take (t348 : Int).toNat) t349).bind fun t354 => (if 0 ≤ (wrap64 (2 - t349)) then (if (wrap64 (2 - t349)) ≤ (wrap64 (3 - t349)) then (if (wrap64 (3 - t349)) ≤ 3 then (if t354.size + ((⟨#[38, 124, 61]⟩ : ByteArray).extract ((wrap64 (2 - t349)) : Int).toNat ((wrap64 (3 - t349)) : Int).toNat).size ≤ 9223372036854775807 then (if t348 ≤ (ji2) then (if (ji2) ≤ (l0.length : Int) then ((spec_l2Held.f k ((l0.take ((ji2) : Int).toNat).drop (t348 : Int).toNat) (wrap64 (t349 + 1))).bind fun t359 => (if (t354 ++ ((⟨#[38, 124, 61]⟩ : ByteArray).extract ((wrap64 (2 - t349)) : Int).toNat ((wrap64 (3 - t349)) : Int).toNat)).size + t359.size ≤ 9223372036854775807 then (some ((t354 ++ ((⟨#[38, 124, 61]⟩ : ByteArray).extract ((wrap64 (2 - t349)) : Int).toNat ((wrap64 (3 - t349)) : Int).toNat)) ++ t359)) else (none))) else (none)) else (none)) else (none)) else (none)) else (none)) else (none))) else (none)) else (none))))))) else (none)) else (none)) = some r := by first | (rw [hji2] at H; exact H) | (simp only [hji2] at H ⊢; exact H)
 have hji2w : (IntKind.i64.wrap ((l0.length : Int) - 1)) = ji2 := (i64_w _).trans hji2
 by_cases c3 : 0 ≤ (ji2)
 ·rw [if_pos c3] at H
  have c3b0 : decide (0 ≤ (ji2)) = true := decide_eq_true c3
  clear c3
  by_cases c4 : (ji2) < (l0.length : Int)
  ·rw [if_pos c4] at H
   have c4b0 : decide ((ji2) < (l0.length : Int)) = true := decide_eq_true c4
   clear c4
   by_cases c5 : ((rd_T39 l0 (ji2)).f0) = 0
   ·rw [if_pos c5] at H
    have c5b0 : (((rd_T39 l0 (ji2)).f0) == 0) = true := beq_iff_eq.mpr c5
    have c5b1 : (((rd_T39 l0 (ji2)).f0) != 0) = false := bne_eq_false_iff_eq.mpr c5
    clear c5
    by_cases c6 : 0 ≤ ((rd_T39 l0 (ji2)).f1)
    ·rw [if_pos c6] at H
     have c6b0 := eq_true c6
     have c6b1 : decide (0 ≤ ((rd_T39 l0 (ji2)).f1)) = true := decide_eq_true c6
     clear c6
     by_cases c7 : ((rd_T39 l0 (ji2)).f1) ≤ (wrap64 (((rd_T39 l0 (ji2)).f1) + 1))
     ·rw [if_pos c7] at H
      have c7b0 := eq_true c7
      have c7b1 : decide (((rd_T39 l0 (ji2)).f1) ≤ (wrap64 (((rd_T39 l0 (ji2)).f1) + 1))) = true := decide_eq_true c7
      by_cases c8 : (wrap64 (((rd_T39 l0 (ji2)).f1) + 1)) ≤ 4
      ·rw [if_pos c8] at H
       have c8b0 := eq_true c8
       have c8b1 : decide ((wrap64 (((rd_T39 l0 (ji2)).f1) + 1)) ≤ 4) = true := decide_eq_true c8
       obtain rfl := Option.some.inj H
       have p338 : 0 ≤ ((ji2) : Int) := of_decide_eq_true pwb_
       have q338 : (ji2) < (l0.length : Int) := of_decide_eq_true pwb_
       obtain ⟨ad338, e338, hx338_0, hx338_1⟩ := at_T39 HR0.out (ji2) p338 q338
       cases e338
       replace p338 := eq_true p338
       replace q338 := eq_true q338
       go_enter Try.func15, Try.ntmps15
       try go_wp2
       have n0_ := Aside0.mk (below_drew1 HB.out)
       clear HB
       have HB := n0_
       clear n0_
       have p339 : 0 ≤ ((ji2) : Int) := of_decide_eq_true pwb_
       have q339 : (ji2) < (l0.length : Int) := of_decide_eq_true pwb_
       obtain ⟨ad339, e339, hx339_0, hx339_1⟩ := at_T39 HR0.out (ji2) p339 q339
       have hw339_1 := hx339_1
       have hw339_0 := hx339_0
       obtain rfl : ad338 = ad339 := (by injection e339)
       replace hx339_0 := (HB.out.cell (World.block_lt_of_cell? w _ hx339_0)).trans hx339_0
       replace hx339_1 := (HB.out.cell (World.block_lt_of_cell? w _ hx339_1)).trans hx339_1
       replace p339 := eq_true p339
       replace q339 := eq_true q339
       have p340 : 0 ≤ ((ji2) : Int) := of_decide_eq_true pwb_
       have q340 : (ji2) < (l0.length : Int) := of_decide_eq_true pwb_
       obtain ⟨ad340, e340, hx340_0, hx340_1⟩ := at_T39 HR0.out (ji2) p340 q340
       have hw340_1 := hx340_1
       have hw340_0 := hx340_0
       obtain rfl : ad338 = ad340 := (by injection e340)
       replace hx340_0 := (HB.out.cell (World.block_lt_of_cell? w _ hx340_0)).trans hx340_0
       replace hx340_1 := (HB.out.cell (World.block_lt_of_cell? w _ hx340_1)).trans hx340_1
       replace p340 := eq_true p340
       replace q340 := eq_true q340
       refine start_ (n := 13) (S := fun w' => w'.cell? (ad338.add (((ji2)).toNat * 2)) = some (.int .i64 ((rd_T39 l0 (ji2)).f0)) ∧ w'.cell? ⟨(ad338.add (((ji2)).toNat * 2)).block, (ad338.add (((ji2)).toNat * 2)).off + 1, none⟩ = some (.int .i64 ((rd_T39 l0 (ji2)).f1)) ∧ w'.cell? (ad338.add (((ji2)).toNat * 2)) = some (.int .i64 ((rd_T39 l0 (ji2)).f0)) ∧ w'.cell? ⟨(ad338.add (((ji2)).toNat * 2)).block, (ad338.add (((ji2)).toNat * 2)).off + 1, none⟩ = some (.int .i64 ((rd_T39 l0 (ji2)).f1))) (ds := []) #[false, false, false, false, false, false, false, false, false, false, false, false, false] (by kernel_rfl) rfl rfl ⟨((HB.out.cell (World.block_lt_of_cell? w _ hw339_0)).trans hw339_0), ((HB.out.cell (World.block_lt_of_cell? w _ hw339_1)).trans hw339_1), ((HB.out.cell (World.block_lt_of_cell? w _ hw340_0)).trans hw340_0), ((HB.out.cell (World.block_lt_of_cell? w _ hw340_1)).trans hw340_1)⟩ (fun hHeld => ?_); refine with_tabW spec_l2Text.tab4 spec_l2Text.bits4 (fun HT_ HW_ => ?_)
       generalize w.drew = w9 at HB hx339_0 hx339_1 hx340_0 hx340_1 hHeld ⊢
       refine pure_ (i := 0) (N := some 16) (v := ?_) (a' := ?_) #[true, false, false, false, false, false, false, false, false, false, false, false, false] rfl rfl (any_of HT_.out (by kernel_rfl)) (fun _ _ _ h => h) (Or.inl ⟨by rfl, ?_⟩) ?_ ?_
       rotate_left
       ·intro w'
        go_simp
        with_reducible rfl
       rotate_left
       ·simp only [Act.put, List.setIfInBounds_toArray, List.set_cons_zero, List.set_cons_succ, i64_w, i32_w]
        rfl
       refine pure_ (i := 1) (N := some 17) (v := ?_) (a' := ?_) #[true, true, false, false, false, false, false, false, false, false, false, false, false] rfl rfl (any_of HT_.out (by kernel_rfl)) (fun _ _ _ h => h) (Or.inl ⟨by rfl, ?_⟩) ?_ ?_
       rotate_left
       ·intro w'
        go_simp
        with_reducible rfl
       rotate_left
       ·simp only [Act.put, List.setIfInBounds_toArray, List.set_cons_zero, List.set_cons_succ, i64_w, i32_w]
        rfl
       refine pure_ (i := 2) (N := some 18) (v := ?_) (a' := ?_) #[true, true, true, false, false, false, false, false, false, false, false, false, false] rfl rfl (any_of HT_.out (by kernel_rfl)) (fun _ _ _ h => h) (Or.inl ⟨by rfl, ?_⟩) ?_ ?_
       rotate_left
       ·intro w'
        go_simp
        with_reducible rfl
       rotate_left
       ·simp only [Act.put, List.setIfInBounds_toArray, List.set_cons_zero, List.set_cons_succ, i64_w, i32_w]
        rfl
       refine pure_ (i := 3) (N := some 19) (v := ?_) (a' := ?_) #[true, true, true, true, false, false, false, false, false, false, false, false, false] rfl rfl (any_of HT_.out (by kernel_rfl)) (fun _ _ _ h => h) (Or.inl ⟨by rfl, ?_⟩) ?_ ?_
       rotate_left
       ·intro w'
        go_simp
        with_reducible rfl
       rotate_left
       ·simp only [Act.put, List.setIfInBounds_toArray, List.set_cons_zero, List.set_cons_succ, i64_w, i32_w]
        rfl
       refine pure_ (i := 5) (N := some 21) (v := ?_) (a' := ?_) #[true, true, true, true, false, true, false, false, false, false, false, false, false] rfl rfl (any_of HT_.out (by kernel_rfl)) (fun _ _ _ h => h) (Or.inl ⟨by rfl, ?_⟩) ?_ ?_
       rotate_left
       ·intro w'
        go_simp
        with_reducible rfl
       rotate_left
       ·simp only [Act.put, List.setIfInBounds_toArray, List.set_cons_zero, List.set_cons_succ, i64_w, i32_w]
        rfl
       refine pure_ (i := 6) (N := some 22) (v := ?_) (a' := ?_) #[true, true, true, true, false, true, true, false, false, false, false, false, false] rfl rfl (any_of HT_.out (by kernel_rfl)) (fun _ _ _ h => h) (Or.inl ⟨by rfl, ?_⟩) ?_ ?_
       rotate_left
       ·intro w'
        go_simp
        with_reducible rfl
       rotate_left
       ·simp only [Act.put, List.setIfInBounds_toArray, List.set_cons_zero, List.set_cons_succ, i64_w, i32_w]
        rfl
       refine pure_ (i := 7) (N := some 23) (v := ?_) (a' := ?_) #[true, true, true, true, false, true, true, true, false, false, false, false, false] rfl rfl (any_of HT_.out (by kernel_rfl)) (fun _ _ _ h => h) (Or.inl ⟨by rfl, ?_⟩) ?_ ?_
       rotate_left
       ·intro w'
        go_simp
        with_reducible rfl
       rotate_left
       ·simp only [Act.put, List.setIfInBounds_toArray, List.set_cons_zero, List.set_cons_succ, i64_w, i32_w]
        rfl
       refine pure_ (i := 8) (N := some 24) (v := ?_) (a' := ?_) #[true, true, true, true, false, true, true, true, true, false, false, false, false] rfl rfl (any_of HT_.out (by kernel_rfl)) (fun _ _ _ h => h) (Or.inl ⟨by rfl, ?_⟩) ?_ ?_
       rotate_left
       ·intro w'
        go_simp
        with_reducible rfl
       rotate_left
       ·simp only [Act.put, List.setIfInBounds_toArray, List.set_cons_zero, List.set_cons_succ, i64_w, i32_w]
        rfl
       refine take_ (i := 4) (N := some 20) (v := ?_) (a' := ?_) #[true, true, true, true, true, true, true, true, true, false, false, false, false] rfl rfl (take_ofW HT_.out HW_.out (by kernel_rfl)) (fun _ _ _ h => h) (Or.inl ⟨by rfl, ?_⟩) hHeld ?_ ?_
       rotate_left
       ·rintro w' ⟨s0, s1, s2, s3⟩
        go_simp
        with_reducible rfl
       rotate_left
       ·simp only [Act.put, List.setIfInBounds_toArray, List.set_cons_zero, List.set_cons_succ, i64_w, i32_w]
        rfl
       refine take_ (i := 9) (N := some 25) (v := ?_) (a' := ?_) #[true, true, true, true, true, true, true, true, true, true, false, false, false] rfl rfl (take_ofW HT_.out HW_.out (by kernel_rfl)) (fun _ _ _ h => h) (Or.inl ⟨by rfl, ?_⟩) hHeld ?_ ?_
       rotate_left
       ·rintro w' ⟨s0, s1, s2, s3⟩
        go_simp
        with_reducible rfl
       rotate_left
       ·simp only [Act.put, List.setIfInBounds_toArray, List.set_cons_zero, List.set_cons_succ, i64_w, i32_w]
        rfl
       refine pure_ (i := 10) (N := some 26) (v := ?_) (a' := ?_) #[true, true, true, true, true, true, true, true, true, true, true, false, false] rfl rfl (any_of HT_.out (by kernel_rfl)) (fun _ _ _ h => h) (Or.inl ⟨by rfl, ?_⟩) ?_ ?_
       rotate_left
       ·intro w'
        go_simp
        with_reducible rfl
       rotate_left
       ·simp only [Act.put, List.setIfInBounds_toArray, List.set_cons_zero, List.set_cons_succ, i64_w, i32_w]
        rfl
       refine pure_ (i := 11) (N := some 27) (v := ?_) (a' := ?_) #[true, true, true, true, true, true, true, true, true, true, true, true, false] rfl rfl (any_of HT_.out (by kernel_rfl)) (fun _ _ _ h => h) (Or.inl ⟨by rfl, ?_⟩) ?_ ?_
       rotate_left
       ·intro w'
        go_simp
        with_reducible rfl
       rotate_left
       ·simp only [Act.put, List.setIfInBounds_toArray, List.set_cons_zero, List.set_cons_succ, i64_w, i32_w]
        rfl
       refine pure_ (i := 12) (N := some 2) (v := ?_) (a' := ?_) #[true, true, true, true, true, true, true, true, true, true, true, true, true] rfl rfl (any_of HT_.out (by kernel_rfl)) (fun _ _ _ h => h) (Or.inl ⟨by rfl, ?_⟩) ?_ ?_
       rotate_left
       ·intro w'
        go_simp
        with_reducible rfl
       rotate_left
       ·simp only [Act.put, List.setIfInBounds_toArray, List.set_cons_zero, List.set_cons_succ, i64_w, i32_w]
        rfl
       refine done_ (done_of HT_.out (by kernel_rfl)) ?_
       try go_wp2
       go_ret
       exact ⟨by first | rfl | (simp [errW_none, errW_some] <;> rfl) | (simp only [← hji2]; first | rfl | (simp [errW_none, errW_some] <;> rfl)) | (simp [*, errW_none, errW_some] <;> rfl), pwg_⟩
      ·rw [if_neg c8] at H
       exact absurd H (by simp)
     ·rw [if_neg c7] at H
      exact absurd H (by simp)
    ·rw [if_neg c6] at H
     exact absurd H (by simp)
   ·rw [if_neg c5] at H
    have c5b0 : (((rd_T39 l0 (ji2)).f0) == 0) = false := beq_eq_false_iff_ne.mpr c5
    have c5b1 : (((rd_T39 l0 (ji2)).f0) != 0) = true := bne_iff_ne.mpr c5
    by_cases c10 : ((rd_T39 l0 (ji2)).f0) = 1
    ·rw [if_pos c10] at H
     have c10b0 : (((rd_T39 l0 (ji2)).f0) == 1) = true := beq_iff_eq.mpr c10
     have c10b1 : (((rd_T39 l0 (ji2)).f0) != 1) = false := bne_eq_false_iff_eq.mpr c10
     clear c10
     replace H := Option.bind_eq_some_iff.mp H
     obtain ⟨t342, A110, H⟩ := H
     replace H : (some t342) = some r := H
     have A11 := Aside0.mk A110
     clear A110
     obtain rfl := Option.some.inj H
     have p338 : 0 ≤ ((ji2) : Int) := of_decide_eq_true pwb_
     have q338 : (ji2) < (l0.length : Int) := of_decide_eq_true pwb_
     obtain ⟨ad338, e338, hx338_0, hx338_1⟩ := at_T39 HR0.out (ji2) p338 q338
     cases e338
     replace p338 := eq_true p338
     replace q338 := eq_true q338
     have p341 : 0 ≤ ((ji2) : Int) := of_decide_eq_true pwb_
     have q341 : (ji2) < (l0.length : Int) := of_decide_eq_true pwb_
     obtain ⟨ad341, e341, hx341_0, hx341_1⟩ := at_T39 HR0.out (ji2) p341 q341
     obtain rfl : ad338 = ad341 := (by injection e341)
     replace p341 := eq_true p341
     replace q341 := eq_true q341
     go_enter Try.func15, Try.ntmps15
     go_wp2_with (first | ((with_reducible refine gate_callee (f := 24) rfl ?_); refine goesL_ (some 35) rfl rfl Try.func24 (by kernel_rfl) rfl #[.int .i64 ((rd_T39 l0 (ji2)).f1)] rfl (by (try simp only [List.map_toArray, List.map_cons, List.map_nil]); first | done | (simp only [hji2]; rfl) | rfl | (simp only [List.length_drop, List.length_take]; rfl)) ?_; (with_reducible refine (spec_l1Number.calls k ((rd_T39 l0 (ji2)).f1) t342 _ A11.out).mono ?_); rintro e w12 ⟨rfl, hb⟩; refine ⟨_, rfl, ?_⟩; have n0_ := Aside0.mk (below_step pwg_ hb); clear HB; have HB := n0_; clear n0_; (try clear hb); (try clear hb2); (try clear hk); (try clear hi)))
     go_ret
     exact ⟨by first | rfl | (simp [errW_none, errW_some] <;> rfl) | (simp only [← hji2]; first | rfl | (simp [errW_none, errW_some] <;> rfl)) | (simp [*, errW_none, errW_some] <;> rfl), pwg_⟩
    ·rw [if_neg c10] at H
     have c10b0 : (((rd_T39 l0 (ji2)).f0) == 1) = false := beq_eq_false_iff_ne.mpr c10
     have c10b1 : (((rd_T39 l0 (ji2)).f0) != 1) = true := bne_iff_ne.mpr c10
     by_cases c13 : ((rd_T39 l0 (ji2)).f0) = 2
     ·rw [if_pos c13] at H
      have c13b0 : (((rd_T39 l0 (ji2)).f0) == 2) = true := beq_iff_eq.mpr c13
      have c13b1 : (((rd_T39 l0 (ji2)).f0) != 2) = false := bne_eq_false_iff_eq.mpr c13
      clear c13
      have c14b0 := eq_true (of_decide_eq_true pwb_ : 0 ≤ (ji2))
      by_cases c15 : (ji2) ≤ (l0.length : Int)
      ·rw [if_pos c15] at H
       have c15b0 := eq_true c15
       have c15b1 : decide ((ji2) ≤ (l0.length : Int)) = true := decide_eq_true c15
       clear c15
       obtain ⟨y343, hy343⟩ : ∃ y_ : List (S39), y_ = (l0.take ((ji2) : Int).toNat) := ⟨_, rfl⟩
       replace H : ((spec_l2Held.f k y343 3).bind fun t347 => (if 1 + t347.size ≤ 9223372036854775807 then (some ((⟨#[33]⟩ : ByteArray) ++ t347)) else (none))) = some r := by first | (rw [hy343]; with_reducible exact H) | (have H2_ := (Option.bind_some _ _).symm.trans H; rw [hy343]; with_reducible exact H2_) | (have H2_ := (Option.bind_some _ _).symm.trans H; with_reducible exact H2_) | with_reducible exact H | (rw [hy343]; exact H) | exact H
       have Ny343 := Aside0.mk hy343
       clear hy343
       replace H := Option.bind_eq_some_iff.mp H
       obtain ⟨t347, A160, H⟩ := H
       replace H : (if 1 + t347.size ≤ 9223372036854775807 then (some ((⟨#[33]⟩ : ByteArray) ++ t347)) else (none)) = some r := H
       have A16 := Aside0.mk A160
       clear A160
       by_cases c17 : 1 + t347.size ≤ 9223372036854775807
       ·rw [if_pos c17] at H
        have c17b0 := eq_true c17
        have c17b1 : decide (1 + t347.size ≤ 9223372036854775807) = true := decide_eq_true c17
        try have c17b2 : (9223372036854775807 < 1 + t347.size) = False := eq_false (Nat.not_lt.2 c17)
        obtain rfl := Option.some.inj H
        have p338 : 0 ≤ ((ji2) : Int) := of_decide_eq_true pwb_
        have q338 : (ji2) < (l0.length : Int) := of_decide_eq_true pwb_
        obtain ⟨ad338, e338, hx338_0, hx338_1⟩ := at_T39 HR0.out (ji2) p338 q338
        cases e338
        replace p338 := eq_true p338
        replace q338 := eq_true q338
        have q18 : ((ji2) : Int) ≤ ((l0.length : Int) : Int) := of_decide_eq_true pwb_
        obtain ⟨i018, hi018, _, hsz18, _⟩ := info_parts info39
        have hroom18 : l0.length ≤ c0 := HC0.out
        have hC18 : Kd.C k39 _ (some ad338) l0.length l0 := HR0.out
        have hcut18 := cut_to (P := Try.prog) 23 39 .i64 Try.underlying23 hi018 (some ad338) l0.length c0 (ji2) (of_decide_eq_true pwb_) q18 hroom18
        have hr18 := Kd.C_take (m := ((ji2) : Int).toNat) hC18 (by omega)
        have hy18 : y343.length = ((ji2) : Int).toNat := (by rw [Ny343.out, List.length_take]; omega)
        rw [← Ny343.out] at hr18
        rw [← hy18] at hcut18
        have HR346 := Aside0.mk hr18
        have HC346 := Aside0.mk (show y343.length ≤ c0 from by omega)
        clear hr18 hC18 hroom18 hi018 hsz18
        have KY18 := Aside0.mk hy18
        clear hy18
        replace q18 := eq_true q18
        go_enter Try.func15, Try.ntmps15
        go_wp2_with (first | ((with_reducible refine gate_callee (f := 25) rfl ?_); refine goesL_ (some 41) rfl rfl Try.func25 (by kernel_rfl) rfl #[.slice (some ad338) y343.length c0, .int .i64 3] rfl pwi_ ?_; (with_reducible refine (h0_ k (by omega) _ _ y343 3 t347 _ ?side1 ?side2 A16.out).mono ?_); (case side1 => repeat (first | exact HR346.out | (with_reducible refine Kd.C_alloc ?_ _) | (with_reducible refine Kd.C_drewN ?_ _) | (with_reducible refine Kd.C_drew ?_))); (case side2 => exact HC346.out); rintro e w19 ⟨rfl, hb⟩; refine ⟨_, rfl, ?_⟩; have n0_ := Aside0.mk (below_step pwg_ hb); clear HB; have HB := n0_; clear n0_; (try clear hb); (try clear hb2); (try clear hk); (try clear hi)))
        go_ret
        exact ⟨by first | rfl | (simp [errW_none, errW_some] <;> rfl) | (simp only [← hji2]; first | rfl | (simp [errW_none, errW_some] <;> rfl)) | (simp [*, errW_none, errW_some] <;> rfl), pwg_⟩
       ·rw [if_neg c17] at H
        exact absurd H (by simp)
      ·rw [if_neg c15] at H
       exact absurd H (by simp)
     ·rw [if_neg c13] at H
      have c13b0 : (((rd_T39 l0 (ji2)).f0) == 2) = false := beq_eq_false_iff_ne.mpr c13
      have c13b1 : (((rd_T39 l0 (ji2)).f0) != 2) = true := bne_iff_ne.mpr c13
      replace H := Option.bind_eq_some_iff.mp H
      obtain ⟨t348, A200, H⟩ := H
      replace H : ((spec_l2Binds.f l0).bind fun t349 => (if 0 ≤ t348 then (if t348 ≤ (l0.length : Int) then ((spec_l2Held.f k (l0.take (t348 : Int).toNat) t349).bind fun t354 => (if 0 ≤ (wrap64 (2 - t349)) then (if (wrap64 (2 - t349)) ≤ (wrap64 (3 - t349)) then (if (wrap64 (3 - t349)) ≤ 3 then (if t354.size + ((⟨#[38, 124, 61]⟩ : ByteArray).extract ((wrap64 (2 - t349)) : Int).toNat ((wrap64 (3 - t349)) : Int).toNat).size ≤ 9223372036854775807 then (if t348 ≤ (ji2) then (if (ji2) ≤ (l0.length : Int) then ((spec_l2Held.f k ((l0.take ((ji2) : Int).toNat).drop (t348 : Int).toNat) (wrap64 (t349 + 1))).bind fun t359 => (if (t354 ++ ((⟨#[38, 124, 61]⟩ : ByteArray).extract ((wrap64 (2 - t349)) : Int).toNat ((wrap64 (3 - t349)) : Int).toNat)).size + t359.size ≤ 9223372036854775807 then (some ((t354 ++ ((⟨#[38, 124, 61]⟩ : ByteArray).extract ((wrap64 (2 - t349)) : Int).toNat ((wrap64 (3 - t349)) : Int).toNat)) ++ t359)) else (none))) else (none)) else (none)) else (none)) else (none)) else (none)) else (none))) else (none)) else (none))) = some r := H
      have A20 := Aside0.mk A200
      clear A200
      replace H := Option.bind_eq_some_iff.mp H
      obtain ⟨t349, A210, H⟩ := H
      replace H : (if 0 ≤ t348 then (if t348 ≤ (l0.length : Int) then ((spec_l2Held.f k (l0.take (t348 : Int).toNat) t349).bind fun t354 => (if 0 ≤ (wrap64 (2 - t349)) then (if (wrap64 (2 - t349)) ≤ (wrap64 (3 - t349)) then (if (wrap64 (3 - t349)) ≤ 3 then (if t354.size + ((⟨#[38, 124, 61]⟩ : ByteArray).extract ((wrap64 (2 - t349)) : Int).toNat ((wrap64 (3 - t349)) : Int).toNat).size ≤ 9223372036854775807 then (if t348 ≤ (ji2) then (if (ji2) ≤ (l0.length : Int) then ((spec_l2Held.f k ((l0.take ((ji2) : Int).toNat).drop (t348 : Int).toNat) (wrap64 (t349 + 1))).bind fun t359 => (if (t354 ++ ((⟨#[38, 124, 61]⟩ : ByteArray).extract ((wrap64 (2 - t349)) : Int).toNat ((wrap64 (3 - t349)) : Int).toNat)).size + t359.size ≤ 9223372036854775807 then (some ((t354 ++ ((⟨#[38, 124, 61]⟩ : ByteArray).extract ((wrap64 (2 - t349)) : Int).toNat ((wrap64 (3 - t349)) : Int).toNat)) ++ t359)) else (none))) else (none)) else (none)) else (none)) else (none)) else (none)) else (none))) else (none)) else (none)) = some r := H
      have A21 := Aside0.mk A210
      clear A210
      by_cases c22 : 0 ≤ t348
      ·rw [if_pos c22] at H
       have c22b0 := eq_true c22
       have c22b1 : decide (0 ≤ t348) = true := decide_eq_true c22
       clear c22
       by_cases c23 : t348 ≤ (l0.length : Int)
       ·rw [if_pos c23] at H
        have c23b0 := eq_true c23
        have c23b1 : decide (t348 ≤ (l0.length : Int)) = true := decide_eq_true c23
        clear c23
        obtain ⟨y350, hy350⟩ : ∃ y_ : List (S39), y_ = (l0.take (t348 : Int).toNat) := ⟨_, rfl⟩
        replace H : ((spec_l2Held.f k y350 t349).bind fun t354 => (if 0 ≤ (wrap64 (2 - t349)) then (if (wrap64 (2 - t349)) ≤ (wrap64 (3 - t349)) then (if (wrap64 (3 - t349)) ≤ 3 then (if t354.size + ((⟨#[38, 124, 61]⟩ : ByteArray).extract ((wrap64 (2 - t349)) : Int).toNat ((wrap64 (3 - t349)) : Int).toNat).size ≤ 9223372036854775807 then (if t348 ≤ (ji2) then (if (ji2) ≤ (l0.length : Int) then ((spec_l2Held.f k ((l0.take ((ji2) : Int).toNat).drop (t348 : Int).toNat) (wrap64 (t349 + 1))).bind fun t359 => (if (t354 ++ ((⟨#[38, 124, 61]⟩ : ByteArray).extract ((wrap64 (2 - t349)) : Int).toNat ((wrap64 (3 - t349)) : Int).toNat)).size + t359.size ≤ 9223372036854775807 then (some ((t354 ++ ((⟨#[38, 124, 61]⟩ : ByteArray).extract ((wrap64 (2 - t349)) : Int).toNat ((wrap64 (3 - t349)) : Int).toNat)) ++ t359)) else (none))) else (none)) else (none)) else (none)) else (none)) else (none)) else (none))) = some r := by first | (rw [hy350]; with_reducible exact H) | (have H2_ := (Option.bind_some _ _).symm.trans H; rw [hy350]; with_reducible exact H2_) | (have H2_ := (Option.bind_some _ _).symm.trans H; with_reducible exact H2_) | with_reducible exact H | (rw [hy350]; exact H) | exact H
        have Ny350 := Aside0.mk hy350
        clear hy350
        replace H := Option.bind_eq_some_iff.mp H
        obtain ⟨t354, A240, H⟩ := H
        replace H : (if 0 ≤ (wrap64 (2 - t349)) then (if (wrap64 (2 - t349)) ≤ (wrap64 (3 - t349)) then (if (wrap64 (3 - t349)) ≤ 3 then (if t354.size + ((⟨#[38, 124, 61]⟩ : ByteArray).extract ((wrap64 (2 - t349)) : Int).toNat ((wrap64 (3 - t349)) : Int).toNat).size ≤ 9223372036854775807 then (if t348 ≤ (ji2) then (if (ji2) ≤ (l0.length : Int) then ((spec_l2Held.f k ((l0.take ((ji2) : Int).toNat).drop (t348 : Int).toNat) (wrap64 (t349 + 1))).bind fun t359 => (if (t354 ++ ((⟨#[38, 124, 61]⟩ : ByteArray).extract ((wrap64 (2 - t349)) : Int).toNat ((wrap64 (3 - t349)) : Int).toNat)).size + t359.size ≤ 9223372036854775807 then (some ((t354 ++ ((⟨#[38, 124, 61]⟩ : ByteArray).extract ((wrap64 (2 - t349)) : Int).toNat ((wrap64 (3 - t349)) : Int).toNat)) ++ t359)) else (none))) else (none)) else (none)) else (none)) else (none)) else (none)) else (none)) = some r := H
        have A24 := Aside0.mk A240
        clear A240
        by_cases c25 : 0 ≤ (wrap64 (2 - t349))
        ·rw [if_pos c25] at H
         have c25b0 := eq_true c25
         have c25b1 : decide (0 ≤ (wrap64 (2 - t349))) = true := decide_eq_true c25
         clear c25
         by_cases c26 : (wrap64 (2 - t349)) ≤ (wrap64 (3 - t349))
         ·rw [if_pos c26] at H
          have c26b0 := eq_true c26
          have c26b1 : decide ((wrap64 (2 - t349)) ≤ (wrap64 (3 - t349))) = true := decide_eq_true c26
          clear c26
          by_cases c27 : (wrap64 (3 - t349)) ≤ 3
          ·rw [if_pos c27] at H
           have c27b0 := eq_true c27
           have c27b1 : decide ((wrap64 (3 - t349)) ≤ 3) = true := decide_eq_true c27
           clear c27
           by_cases c28 : t354.size + ((⟨#[38, 124, 61]⟩ : ByteArray).extract ((wrap64 (2 - t349)) : Int).toNat ((wrap64 (3 - t349)) : Int).toNat).size ≤ 9223372036854775807
           ·rw [if_pos c28] at H
            have c28b0 := eq_true c28
            have c28b1 : decide (t354.size + ((⟨#[38, 124, 61]⟩ : ByteArray).extract ((wrap64 (2 - t349)) : Int).toNat ((wrap64 (3 - t349)) : Int).toNat).size ≤ 9223372036854775807) = true := decide_eq_true c28
            try have c28b2 : (9223372036854775807 < t354.size + ((⟨#[38, 124, 61]⟩ : ByteArray).extract ((wrap64 (2 - t349)) : Int).toNat ((wrap64 (3 - t349)) : Int).toNat).size) = False := eq_false (Nat.not_lt.2 c28)
            try have c28b4 := pw_ext1 (⟨#[38, 124, 61]⟩ : ByteArray) 3 rfl (of_decide_eq_true pwb_) c28
            have c29b0 := eq_true (of_decide_eq_true pwb_ : 0 ≤ t348)
            by_cases c30 : t348 ≤ (ji2)
            ·rw [if_pos c30] at H
             have c30b0 := eq_true c30
             have c30b1 : decide (t348 ≤ (ji2)) = true := decide_eq_true c30
             clear c30
             by_cases c31 : (ji2) ≤ (l0.length : Int)
             ·rw [if_pos c31] at H
              have c31b0 := eq_true c31
              have c31b1 : decide ((ji2) ≤ (l0.length : Int)) = true := decide_eq_true c31
              clear c31
              obtain ⟨y355, hy355⟩ : ∃ y_ : List (S39), y_ = ((l0.take ((ji2) : Int).toNat).drop (t348 : Int).toNat) := ⟨_, rfl⟩
              replace H : ((spec_l2Held.f k y355 (wrap64 (t349 + 1))).bind fun t359 => (if (t354 ++ ((⟨#[38, 124, 61]⟩ : ByteArray).extract ((wrap64 (2 - t349)) : Int).toNat ((wrap64 (3 - t349)) : Int).toNat)).size + t359.size ≤ 9223372036854775807 then (some ((t354 ++ ((⟨#[38, 124, 61]⟩ : ByteArray).extract ((wrap64 (2 - t349)) : Int).toNat ((wrap64 (3 - t349)) : Int).toNat)) ++ t359)) else (none))) = some r := by first | (rw [hy355]; with_reducible exact H) | (have H2_ := (Option.bind_some _ _).symm.trans H; rw [hy355]; with_reducible exact H2_) | (have H2_ := (Option.bind_some _ _).symm.trans H; with_reducible exact H2_) | with_reducible exact H | (rw [hy355]; exact H) | exact H
              have Ny355 := Aside0.mk hy355
              clear hy355
              replace H := Option.bind_eq_some_iff.mp H
              obtain ⟨t359, A320, H⟩ := H
              replace H : (if (t354 ++ ((⟨#[38, 124, 61]⟩ : ByteArray).extract ((wrap64 (2 - t349)) : Int).toNat ((wrap64 (3 - t349)) : Int).toNat)).size + t359.size ≤ 9223372036854775807 then (some ((t354 ++ ((⟨#[38, 124, 61]⟩ : ByteArray).extract ((wrap64 (2 - t349)) : Int).toNat ((wrap64 (3 - t349)) : Int).toNat)) ++ t359)) else (none)) = some r := H
              have A32 := Aside0.mk A320
              clear A320
              by_cases c33 : (t354 ++ ((⟨#[38, 124, 61]⟩ : ByteArray).extract ((wrap64 (2 - t349)) : Int).toNat ((wrap64 (3 - t349)) : Int).toNat)).size + t359.size ≤ 9223372036854775807
              ·rw [if_pos c33] at H
               have c33b0 := eq_true c33
               have c33b1 : decide ((t354 ++ ((⟨#[38, 124, 61]⟩ : ByteArray).extract ((wrap64 (2 - t349)) : Int).toNat ((wrap64 (3 - t349)) : Int).toNat)).size + t359.size ≤ 9223372036854775807) = true := decide_eq_true c33
               try have c33b2 : (9223372036854775807 < (t354 ++ ((⟨#[38, 124, 61]⟩ : ByteArray).extract ((wrap64 (2 - t349)) : Int).toNat ((wrap64 (3 - t349)) : Int).toNat)).size + t359.size) = False := eq_false (Nat.not_lt.2 c33)
               try have c33b4 := pw_ext2 (⟨#[38, 124, 61]⟩ : ByteArray) 3 rfl (of_decide_eq_true pwb_) c33
               obtain rfl := Option.some.inj H
               have p338 : 0 ≤ ((ji2) : Int) := of_decide_eq_true pwb_
               have q338 : (ji2) < (l0.length : Int) := of_decide_eq_true pwb_
               obtain ⟨ad338, e338, hx338_0, hx338_1⟩ := at_T39 HR0.out (ji2) p338 q338
               cases e338
               replace p338 := eq_true p338
               replace q338 := eq_true q338
               go_enter Try.func15, Try.ntmps15
               try go_wp2_with (first | ((with_reducible refine gate_callee (f := 26) rfl ?_); refine goesL_ (some 46) rfl rfl Try.func26 (by kernel_rfl) rfl #[.slice (some ad338) l0.length c0, .int .i64 (wrap64 ((ji2) - 1))] rfl (by (try simp only [List.map_toArray, List.map_cons, List.map_nil]); first | done | (simp only [hji2]; rfl) | rfl | (simp only [List.length_drop, List.length_take]; rfl)) ?_; (with_reducible refine (spec_l2Starts.calls k _ _ l0 (wrap64 ((ji2) - 1)) t348 _ ?side1 ?side2 A20.out).mono ?_); (case side1 => repeat (first | exact HR0.out | (with_reducible refine Kd.C_alloc ?_ _) | (with_reducible refine Kd.C_drewN ?_ _) | (with_reducible refine Kd.C_drew ?_))); (case side2 => exact HC0.out); rintro e w' ⟨rfl, ⟨nd, rfl⟩⟩; refine ⟨_, rfl, ?_⟩) | ((with_reducible refine gate_callee (f := 27) rfl ?_); refine goesL_ (some 48) rfl rfl Try.func27 (by kernel_rfl) rfl #[.slice (some ad338) l0.length c0] rfl pwi_ ?_; (with_reducible refine (spec_l2Binds.calls _ _ l0 t349 _ ?side1 ?side2 A21.out).mono ?_); (case side1 => repeat (first | exact HR0.out | (with_reducible refine Kd.C_alloc ?_ _) | (with_reducible refine Kd.C_drewN ?_ _) | (with_reducible refine Kd.C_drew ?_))); (case side2 => exact HC0.out); rintro e w34 ⟨rfl, hb⟩; refine ⟨_, rfl, ?_⟩; have n0_ := Aside0.mk (below_step pwg_ hb); clear HB; have HB := n0_; clear n0_; (try clear hb); (try clear hb2); (try clear hk); (try clear hi)))
               have n0_ := Aside0.mk (below_drew1 HB.out)
               clear HB
               have HB := n0_
               clear n0_
               have q36 : (t348 : Int) ≤ ((l0.length : Int) : Int) := of_decide_eq_true pwb_
               obtain ⟨i036, hi036, _, hsz36, _⟩ := info_parts info39
               have hroom36 : l0.length ≤ c0 := HC0.out
               have hC36 : Kd.C k39 _ (some ad338) l0.length l0 := HR0.out
               have hcut36 := cut_to (P := Try.prog) 23 39 .i64 Try.underlying23 hi036 (some ad338) l0.length c0 t348 (of_decide_eq_true pwb_) q36 hroom36
               have hr36 := Kd.C_take (m := (t348 : Int).toNat) hC36 (by omega)
               have hy36 : y350.length = (t348 : Int).toNat := (by rw [Ny350.out, List.length_take]; omega)
               rw [← Ny350.out] at hr36
               rw [← hy36] at hcut36
               have HR353 := Aside0.mk hr36
               have HC353 := Aside0.mk (show y350.length ≤ c0 from by omega)
               clear hr36 hC36 hroom36 hi036 hsz36
               have KY36 := Aside0.mk hy36
               clear hy36
               replace q36 := eq_true q36
               have q37 : ((ji2) : Int) ≤ ((l0.length : Int) : Int) := of_decide_eq_true pwb_
               obtain ⟨i037, hi037, _, hsz37, _⟩ := info_parts info39
               have hroom37 : l0.length ≤ c0 := HC0.out
               have hC37 : Kd.C k39 _ (some ad338) l0.length l0 := HR0.out
               have ql37 : (t348 : Int) ≤ ((ji2) : Int) := of_decide_eq_true pwb_
               have q037 : (0 : Int) ≤ (t348 : Int) := of_decide_eq_true pwb_
               have hcut37 := cut_mid (P := Try.prog) 23 39 .i64 .i64 Try.underlying23 hi037 2 hsz37 (some ad338) l0.length c0 t348 (ji2) q037 ql37 q37 hroom37
               have hr37 := Kd.C_mid (lo := (t348 : Int).toNat) (hi := ((ji2) : Int).toNat) (c := c0) hC37 (by omega) (by omega) hroom37
               obtain ⟨A37, hA37⟩ : ∃ A1, A1 = (if c0 = (t348 : Int).toNat then (some ad338) else ((some ad338) : Option Addr).map (·.add ((t348 : Int).toNat * 2))) := ⟨_, rfl⟩
               obtain ⟨c37, hc37⟩ : ∃ c1, c1 = c0 - (t348 : Int).toNat := ⟨_, rfl⟩
               have hy37 : y355.length = ((ji2) : Int).toNat - (t348 : Int).toNat := (by rw [Ny355.out, List.length_drop, List.length_take] <;> omega)
               rw [show ((l0).take ((ji2) : Int).toNat).drop (t348 : Int).toNat = y355 from Ny355.out.symm] at hr37
               replace hr37 : Kd.C k39 _ A37 y355.length y355 := (by rw [hA37]; exact hr37)
               rw [← hy37, ← hA37, ← hc37] at hcut37
               have HR358 := Aside0.mk hr37
               have HC358 := Aside0.mk (show y355.length ≤ c37 from by rw [hy37, hc37]; exact Nat.sub_le_sub_right (Nat.le_trans (by omega) hroom37) _)
               clear hr37 hC37 hroom37 hi037 hsz37 hc37
               have KY37 := Aside0.mk hy37
               have KA37 := Aside0.mk hA37
               clear hy37 hA37
               replace q37 := eq_true q37
               refine start_ (n := 20) (S := fun w' => True) (ds := []) #[false, false, false, false, false, false, false, false, false, false, false, false, false, false, false, false, false, false, false, false] (by kernel_rfl) rfl rfl trivial (fun hHeld => ?_); refine with_tabW spec_l2Text.tab11 spec_l2Text.bits11 (fun HT_ HW_ => ?_)
               generalize w34.drew = w35 at HB HR353 HR358 hHeld ⊢
               refine pure_ (i := 0) (N := some 49) (v := ?_) (a' := ?_) #[true, false, false, false, false, false, false, false, false, false, false, false, false, false, false, false, false, false, false, false] rfl rfl (any_of HT_.out (by kernel_rfl)) (fun _ _ _ h => h) (Or.inl ⟨by rfl, ?_⟩) ?_ ?_
               rotate_left
               ·intro w'
                go_simp
                with_reducible rfl
               rotate_left
               ·simp only [Act.put, List.setIfInBounds_toArray, List.set_cons_zero, List.set_cons_succ, i64_w, i32_w]
                rfl
               refine pure_ (i := 1) (N := some 50) (v := ?_) (a' := ?_) #[true, true, false, false, false, false, false, false, false, false, false, false, false, false, false, false, false, false, false, false] rfl rfl (any_of HT_.out (by kernel_rfl)) (fun _ _ _ h => h) (Or.inl ⟨by rfl, ?_⟩) ?_ ?_
               rotate_left
               ·intro w'
                go_simp
                with_reducible rfl
               rotate_left
               ·simp only [Act.put, List.setIfInBounds_toArray, List.set_cons_zero, List.set_cons_succ, i64_w, i32_w]
                rfl
               refine pure_ (i := 2) (N := some 51) (v := ?_) (a' := ?_) #[true, true, true, false, false, false, false, false, false, false, false, false, false, false, false, false, false, false, false, false] rfl rfl (any_of HT_.out (by kernel_rfl)) (fun _ _ _ h => h) (Or.inl ⟨by rfl, ?_⟩) ?_ ?_
               rotate_left
               ·intro w'
                go_simp
                with_reducible rfl
               rotate_left
               ·simp only [Act.put, List.setIfInBounds_toArray, List.set_cons_zero, List.set_cons_succ, i64_w, i32_w]
                rfl
               refine pure_ (i := 3) (N := some 52) (v := ?_) (a' := ?_) #[true, true, true, true, false, false, false, false, false, false, false, false, false, false, false, false, false, false, false, false] rfl rfl (any_of HT_.out (by kernel_rfl)) (fun _ _ _ h => h) (Or.inl ⟨by rfl, ?_⟩) ?_ ?_
               rotate_left
               ·intro w'
                go_simp
                with_reducible rfl
               rotate_left
               ·simp only [Act.put, List.setIfInBounds_toArray, List.set_cons_zero, List.set_cons_succ, i64_w, i32_w]
                rfl
               refine pure_ (i := 5) (N := some 54) (v := ?_) (a' := ?_) #[true, true, true, true, false, true, false, false, false, false, false, false, false, false, false, false, false, false, false, false] rfl rfl (any_of HT_.out (by kernel_rfl)) (fun _ _ _ h => h) (Or.inl ⟨by rfl, ?_⟩) ?_ ?_
               rotate_left
               ·intro w'
                go_simp
                with_reducible rfl
               rotate_left
               ·simp only [Act.put, List.setIfInBounds_toArray, List.set_cons_zero, List.set_cons_succ, i64_w, i32_w]
                rfl
               refine pure_ (i := 6) (N := some 55) (v := ?_) (a' := ?_) #[true, true, true, true, false, true, true, false, false, false, false, false, false, false, false, false, false, false, false, false] rfl rfl (any_of HT_.out (by kernel_rfl)) (fun _ _ _ h => h) (Or.inl ⟨by rfl, ?_⟩) ?_ ?_
               rotate_left
               ·intro w'
                go_simp
                with_reducible rfl
               rotate_left
               ·simp only [Act.put, List.setIfInBounds_toArray, List.set_cons_zero, List.set_cons_succ, i64_w, i32_w]
                rfl
               refine pure_ (i := 7) (N := some 56) (v := ?_) (a' := ?_) #[true, true, true, true, false, true, true, true, false, false, false, false, false, false, false, false, false, false, false, false] rfl rfl (any_of HT_.out (by kernel_rfl)) (fun _ _ _ h => h) (Or.inl ⟨by rfl, ?_⟩) ?_ ?_
               rotate_left
               ·intro w'
                go_simp
                with_reducible rfl
               rotate_left
               ·simp only [Act.put, List.setIfInBounds_toArray, List.set_cons_zero, List.set_cons_succ, i64_w, i32_w]
                rfl
               refine pure_ (i := 8) (N := some 57) (v := ?_) (a' := ?_) #[true, true, true, true, false, true, true, true, true, false, false, false, false, false, false, false, false, false, false, false] rfl rfl (any_of HT_.out (by kernel_rfl)) (fun _ _ _ h => h) (Or.inl ⟨by rfl, ?_⟩) ?_ ?_
               rotate_left
               ·intro w'
                go_simp
                with_reducible rfl
               rotate_left
               ·simp only [Act.put, List.setIfInBounds_toArray, List.set_cons_zero, List.set_cons_succ, i64_w, i32_w]
                rfl
               refine pure_ (i := 9) (N := some 58) (v := ?_) (a' := ?_) #[true, true, true, true, false, true, true, true, true, true, false, false, false, false, false, false, false, false, false, false] rfl rfl (any_of HT_.out (by kernel_rfl)) (fun _ _ _ h => h) (Or.inl ⟨by rfl, ?_⟩) ?_ ?_
               rotate_left
               ·intro w'
                go_simp
                with_reducible rfl
               rotate_left
               ·simp only [Act.put, List.setIfInBounds_toArray, List.set_cons_zero, List.set_cons_succ, i64_w, i32_w]
                rfl
               refine pure_ (i := 11) (N := some 60) (v := ?_) (a' := ?_) #[true, true, true, true, false, true, true, true, true, true, false, true, false, false, false, false, false, false, false, false] rfl rfl (any_of HT_.out (by kernel_rfl)) (fun _ _ _ h => h) (Or.inl ⟨by rfl, ?_⟩) ?_ ?_
               rotate_left
               ·intro w'
                go_simp
                with_reducible rfl
               rotate_left
               ·simp only [Act.put, List.setIfInBounds_toArray, List.set_cons_zero, List.set_cons_succ, i64_w, i32_w]
                rfl
               refine pure_ (i := 12) (N := some 61) (v := ?_) (a' := ?_) #[true, true, true, true, false, true, true, true, true, true, false, true, true, false, false, false, false, false, false, false] rfl rfl (any_of HT_.out (by kernel_rfl)) (fun _ _ _ h => h) (Or.inl ⟨by rfl, ?_⟩) ?_ ?_
               rotate_left
               ·intro w'
                go_simp
                with_reducible rfl
               rotate_left
               ·simp only [Act.put, List.setIfInBounds_toArray, List.set_cons_zero, List.set_cons_succ, i64_w, i32_w]
                rfl
               refine pure_ (i := 13) (N := some 62) (v := ?_) (a' := ?_) #[true, true, true, true, false, true, true, true, true, true, false, true, true, true, false, false, false, false, false, false] rfl rfl (any_of HT_.out (by kernel_rfl)) (fun _ _ _ h => h) (Or.inl ⟨by rfl, ?_⟩) ?_ ?_
               rotate_left
               ·intro w'
                go_simp
                with_reducible rfl
               rotate_left
               ·simp only [Act.put, List.setIfInBounds_toArray, List.set_cons_zero, List.set_cons_succ, i64_w, i32_w]
                rfl
               refine pure_ (i := 14) (N := some 63) (v := ?_) (a' := ?_) #[true, true, true, true, false, true, true, true, true, true, false, true, true, true, true, false, false, false, false, false] rfl rfl (any_of HT_.out (by kernel_rfl)) (fun _ _ _ h => h) (Or.inl ⟨by rfl, ?_⟩) ?_ ?_
               rotate_left
               ·intro w'
                go_simp
                with_reducible rfl
               rotate_left
               ·simp only [Act.put, List.setIfInBounds_toArray, List.set_cons_zero, List.set_cons_succ, i64_w, i32_w]
                rfl
               refine pure_ (i := 15) (N := some 64) (v := ?_) (a' := ?_) #[true, true, true, true, false, true, true, true, true, true, false, true, true, true, true, true, false, false, false, false] rfl rfl (any_of HT_.out (by kernel_rfl)) (fun _ _ _ h => h) (Or.inl ⟨by rfl, ?_⟩) ?_ ?_
               rotate_left
               ·intro w'
                go_simp
                with_reducible rfl
               rotate_left
               ·simp only [Act.put, List.setIfInBounds_toArray, List.set_cons_zero, List.set_cons_succ, i64_w, i32_w]
                rfl
               refine pure_ (i := 16) (N := some 65) (v := ?_) (a' := ?_) #[true, true, true, true, false, true, true, true, true, true, false, true, true, true, true, true, true, false, false, false] rfl rfl (any_of HT_.out (by kernel_rfl)) (fun _ _ _ h => h) (Or.inl ⟨by rfl, ?_⟩) ?_ ?_
               rotate_left
               ·intro w'
                go_simp
                with_reducible rfl
               rotate_left
               ·simp only [Act.put, List.setIfInBounds_toArray, List.set_cons_zero, List.set_cons_succ, i64_w, i32_w]
                rfl
               refine one_ (i := 4) (N := some 53) #[true, true, true, true, true, true, true, true, true, true, false, true, true, true, true, true, true, false, false, false] rfl rfl (one_of HT_.out (by kernel_rfl)) (by decide) (fun K hK => ?_)
               refine goes_ Try.func25 (by kernel_rfl) rfl #[.slice (some ad338) y350.length c0, .int .i64 t349] (by rfl) rfl rfl pwi_ ?_
               with_reducible refine (h0_ k (by omega) _ _ y350 t349 t354 _ ?side1 ?side2 A24.out).mono ?_
               (case side1 => repeat (first | exact (Kd.C_below HR353.out HB.out) | (with_reducible refine Kd.C_alloc ?_ _) | (with_reducible refine Kd.C_drewN ?_ _) | (with_reducible refine Kd.C_drew ?_)))
               (case side2 => exact HC353.out)
               rintro e w38 ⟨rfl, hb⟩
               refine ⟨_, rfl, ?_⟩
               have n0_ := Aside0.mk (below_step pwg_ hb)
               clear HB
               have HB := n0_
               clear n0_
               (try clear hb)
               (try clear hb2)
               (try clear hk)
               (try clear hi)
               refine hK.out _ _ trivial (fun hHeld => ?_)
               clear hK K
               refine norm_ (a' := ?_) ?_ ?_
               rotate_left
               ·show Act.put _ (some 53) _ = _
                simp only [Act.put, List.setIfInBounds_toArray, List.set_cons_zero, List.set_cons_succ, i64_w, i32_w]
                rfl
               refine pure_ (i := 10) (N := some 59) (v := ?_) (a' := ?_) #[true, true, true, true, true, true, true, true, true, true, true, true, true, true, true, true, true, false, false, false] rfl rfl (any_of HT_.out (by kernel_rfl)) (fun _ _ _ h => h) (Or.inl ⟨by rfl, ?_⟩) ?_ ?_
               rotate_left
               ·intro w'
                go_simp
                with_reducible rfl
               rotate_left
               ·simp only [Act.put, List.setIfInBounds_toArray, List.set_cons_zero, List.set_cons_succ, i64_w, i32_w]
                rfl
               refine one_ (i := 17) (N := some 66) #[true, true, true, true, true, true, true, true, true, true, true, true, true, true, true, true, true, true, false, false] rfl rfl (one_of HT_.out (by kernel_rfl)) (by decide) (fun K hK => ?_)
               refine goes_ Try.func25 (by kernel_rfl) rfl #[.slice A37 y355.length c37, .int .i64 (wrap64 (t349 + 1))] (by rfl) rfl rfl pwi_ ?_
               with_reducible refine (h0_ k (by omega) _ _ y355 (wrap64 (t349 + 1)) t359 _ ?side1 ?side2 A32.out).mono ?_
               (case side1 => repeat (first | exact (Kd.C_below HR358.out HB.out) | (with_reducible refine Kd.C_alloc ?_ _) | (with_reducible refine Kd.C_drewN ?_ _) | (with_reducible refine Kd.C_drew ?_)))
               (case side2 => exact HC358.out)
               rintro e w39 ⟨rfl, hb⟩
               refine ⟨_, rfl, ?_⟩
               have n0_ := Aside0.mk (below_step pwg_ hb)
               clear HB
               have HB := n0_
               clear n0_
               (try clear hb)
               (try clear hb2)
               (try clear hk)
               (try clear hi)
               refine hK.out _ _ trivial (fun hHeld => ?_)
               clear hK K
               refine norm_ (a' := ?_) ?_ ?_
               rotate_left
               ·show Act.put _ (some 66) _ = _
                simp only [Act.put, List.setIfInBounds_toArray, List.set_cons_zero, List.set_cons_succ, i64_w, i32_w]
                rfl
               refine pure_ (i := 18) (N := some 67) (v := ?_) (a' := ?_) #[true, true, true, true, true, true, true, true, true, true, true, true, true, true, true, true, true, true, true, false] rfl rfl (any_of HT_.out (by kernel_rfl)) (fun _ _ _ h => h) (Or.inl ⟨by rfl, ?_⟩) ?_ ?_
               rotate_left
               ·intro w'
                go_simp
                with_reducible rfl
               rotate_left
               ·simp only [Act.put, List.setIfInBounds_toArray, List.set_cons_zero, List.set_cons_succ, i64_w, i32_w]
                rfl
               refine pure_ (i := 19) (N := some 2) (v := ?_) (a' := ?_) #[true, true, true, true, true, true, true, true, true, true, true, true, true, true, true, true, true, true, true, true] rfl rfl (any_of HT_.out (by kernel_rfl)) (fun _ _ _ h => h) (Or.inl ⟨by rfl, ?_⟩) ?_ ?_
               rotate_left
               ·intro w'
                go_simp
                with_reducible rfl
               rotate_left
               ·simp only [Act.put, List.setIfInBounds_toArray, List.set_cons_zero, List.set_cons_succ, i64_w, i32_w]
                rfl
               refine done_ (done_of HT_.out (by kernel_rfl)) ?_
               try go_wp2
               go_ret
               exact ⟨by first | rfl | (simp [errW_none, errW_some] <;> rfl) | (simp only [← hji2]; first | rfl | (simp [errW_none, errW_some] <;> rfl)) | (simp [*, errW_none, errW_some] <;> rfl), pwg_⟩
              ·rw [if_neg c33] at H
               exact absurd H (by simp)
             ·rw [if_neg c31] at H
              exact absurd H (by simp)
            ·rw [if_neg c30] at H
             exact absurd H (by simp)
           ·rw [if_neg c28] at H
            exact absurd H (by simp)
          ·rw [if_neg c27] at H
           exact absurd H (by simp)
         ·rw [if_neg c26] at H
          exact absurd H (by simp)
        ·rw [if_neg c25] at H
         exact absurd H (by simp)
       ·rw [if_neg c23] at H
        exact absurd H (by simp)
      ·rw [if_neg c22] at H
       exact absurd H (by simp)
  ·rw [if_neg c4] at H
   exact absurd H (by simp)
 ·rw [if_neg c3] at H
  exact absurd H (by simp)
theorem l2Text_l2Held_c.both (k : Nat) : (∀ (A0 : Option Addr) (c0 : Nat) (l0 : List (S39)) (a1 : Int) (r : ByteArray) (w : World) (hr0 : Kd.C k39 w A0 l0.length l0) (hc0 : l0.length ≤ c0) (h : spec_l2Held.f k l0 a1 = some r),
  Calls Try.prog 25 #[.slice A0 l0.length c0, .int .i64 a1] w fun e w' => e = .returned (.string r) ∧ Below w.heap.size w w') ∧ (∀ (A0 : Option Addr) (c0 : Nat) (l0 : List (S39)) (r : ByteArray) (w : World) (hr0 : Kd.C k39 w A0 l0.length l0) (hc0 : l0.length ≤ c0) (h : spec_l2Text.f k l0 = some r),
  Calls Try.prog 15 #[.slice A0 l0.length c0] w fun e w' => e = .returned (.string r) ∧ Below w.heap.size w w') := by
 induction k using Nat.strongRecOn with
 | _ k ih =>
  exact ⟨spec_l2Held.step k (fun m h => (ih m h).1) (fun m h => (ih m h).2), spec_l2Text.step k (fun m h => (ih m h).1) (fun m h => (ih m h).2)⟩
theorem spec_l2Held.calls (k : Nat) : ∀ (A0 : Option Addr) (c0 : Nat) (l0 : List (S39)) (a1 : Int) (r : ByteArray) (w : World) (hr0 : Kd.C k39 w A0 l0.length l0) (hc0 : l0.length ≤ c0) (h : spec_l2Held.f k l0 a1 = some r),
  Calls Try.prog 25 #[.slice A0 l0.length c0, .int .i64 a1] w fun e w' => e = .returned (.string r) ∧ Below w.heap.size w w' := (l2Text_l2Held_c.both k).1
theorem spec_l2Text.calls (k : Nat) : ∀ (A0 : Option Addr) (c0 : Nat) (l0 : List (S39)) (r : ByteArray) (w : World) (hr0 : Kd.C k39 w A0 l0.length l0) (hc0 : l0.length ≤ c0) (h : spec_l2Text.f k l0 = some r),
  Calls Try.prog 15 #[.slice A0 l0.length c0] w fun e w' => e = .returned (.string r) ∧ Below w.heap.size w w' := (l2Text_l2Held_c.both k).2

/-! ### spec_TermText: function 6 -/
def spec_TermText.f (k : Nat) (a0 : Int) (l1 : List (S39)) : Option (ByteArray) := (spec_TermOk.f k a0 l1).bind fun t360 => (if t360 = true then ((spec_l2Text.f k l1).bind fun t361 => (some t361)) else (some (⟨#[]⟩ : ByteArray)))
theorem spec_TermText.mono : ∀ a0 a1 k, LeO (spec_TermText.f k a0 a1) (spec_TermText.f (k + 1) a0 a1) := by
 intro a0 a1 k
 unfold spec_TermText.f
 repeat' first
   | (with_reducible exact spec_TermOk.mono _ _ _)
   | (with_reducible exact spec_l2Text.mono _ _)
   | (with_reducible exact LeO.refl _)
   | (with_reducible exact LeO.none _)
   | (with_reducible refine LeO.ite ?_ ?_)
   | (with_reducible refine LeO.bind ?_ (fun _ => ?_))
   | exact spec_TermOk.mono _ _ _
   | exact spec_l2Text.mono _ _
   | exact LeO.none _
   | refine LeO.ite ?_ ?_
   | refine LeO.bind ?_ (fun _ => ?_)
set_option maxHeartbeats 8000000 in
set_option maxRecDepth 100000 in
theorem spec_TermText.calls (k : Nat) (a0 : Int) (A1 : Option Addr) (c1 : Nat) (l1 : List (S39)) (r : ByteArray) (w : World) (hr1 : Kd.C k39 w A1 l1.length l1) (hc1 : l1.length ≤ c1) (h : spec_TermText.f k a0 l1 = some r) :
  Calls Try.prog 6 #[.int .i64 a0, .slice A1 l1.length c1] w fun e w' => e = .returned (.string r) ∧ Below w.heap.size w w' := by
 have HR1 := Aside0.mk hr1
 have HC1 := Aside0.mk hc1
 clear hr1 hc1
 have HB := Aside0.mk (Below.refl w.heap.size w)
 have H : ((spec_TermOk.f k a0 l1).bind fun t360 => (if t360 = true then ((spec_l2Text.f k l1).bind fun t361 => (some t361)) else (some (⟨#[]⟩ : ByteArray)))) = some r := h
 clear h
 replace H := Option.bind_eq_some_iff.mp H
 obtain ⟨t360, A30, H⟩ := H
 replace H : (if t360 = true then ((spec_l2Text.f k l1).bind fun t361 => (some t361)) else (some (⟨#[]⟩ : ByteArray))) = some r := H
 have A3 := Aside0.mk A30
 clear A30
 by_cases c4 : t360 = true
 ·subst c4
  have H1 : ((spec_l2Text.f k l1).bind fun t361 => (some t361)) = some r := by rw [if_pos rfl] at H; exact H
  clear H
  have H := H1
  clear H1
  replace H := Option.bind_eq_some_iff.mp H
  obtain ⟨t361, A50, H⟩ := H
  replace H : (some t361) = some r := H
  have A5 := Aside0.mk A50
  clear A50
  obtain rfl := Option.some.inj H
  go_enter Try.func6, Try.ntmps6
  go_wp2_with (first | ((with_reducible refine gate_callee (f := 14) rfl ?_); refine goesL_ (some 7) rfl rfl Try.func14 (by kernel_rfl) rfl #[.int .i64 a0, .slice A1 l1.length c1] rfl pwi_ ?_; (with_reducible refine (spec_TermOk.calls k a0 _ _ l1 true _ ?side1 ?side2 A3.out).mono ?_); (case side1 => repeat (first | exact HR1.out | (with_reducible refine Kd.C_alloc ?_ _) | (with_reducible refine Kd.C_drewN ?_ _) | (with_reducible refine Kd.C_drew ?_))); (case side2 => exact HC1.out); rintro e w' ⟨rfl, ⟨nd, rfl⟩⟩; refine ⟨_, rfl, ?_⟩) | ((with_reducible refine gate_callee (f := 15) rfl ?_); refine goesL_ (some 10) rfl rfl Try.func15 (by kernel_rfl) rfl #[.slice A1 l1.length c1] rfl pwi_ ?_; (with_reducible refine (spec_l2Text.calls k _ _ l1 t361 _ ?side1 ?side2 A5.out).mono ?_); (case side1 => repeat (first | exact HR1.out | (with_reducible refine Kd.C_alloc ?_ _) | (with_reducible refine Kd.C_drewN ?_ _) | (with_reducible refine Kd.C_drew ?_))); (case side2 => exact HC1.out); rintro e w6 ⟨rfl, hb⟩; refine ⟨_, rfl, ?_⟩; have n0_ := Aside0.mk (below_step pwg_ hb); clear HB; have HB := n0_; clear n0_; (try clear hb); (try clear hb2); (try clear hk); (try clear hi)))
  go_ret
  exact ⟨by first | rfl | (simp [errW_none, errW_some] <;> rfl) | (simp [*, errW_none, errW_some] <;> rfl), pwg_⟩
 ·replace c4 := Bool.eq_false_iff.mpr c4
  subst c4
  have H1 : (some (⟨#[]⟩ : ByteArray)) = some r := by rw [if_neg (show ¬ (false = true) by decide)] at H; exact H
  clear H
  have H := H1
  clear H1
  obtain rfl := Option.some.inj H
  go_enter Try.func6, Try.ntmps6
  go_wp2_with (first | ((with_reducible refine gate_callee (f := 14) rfl ?_); refine goesL_ (some 7) rfl rfl Try.func14 (by kernel_rfl) rfl #[.int .i64 a0, .slice A1 l1.length c1] rfl pwi_ ?_; (with_reducible refine (spec_TermOk.calls k a0 _ _ l1 false _ ?side1 ?side2 A3.out).mono ?_); (case side1 => repeat (first | exact HR1.out | (with_reducible refine Kd.C_alloc ?_ _) | (with_reducible refine Kd.C_drewN ?_ _) | (with_reducible refine Kd.C_drew ?_))); (case side2 => exact HC1.out); rintro e w' ⟨rfl, ⟨nd, rfl⟩⟩; refine ⟨_, rfl, ?_⟩))
  go_ret
  exact ⟨by first | rfl | (simp [errW_none, errW_some] <;> rfl) | (simp [*, errW_none, errW_some] <;> rfl), pwg_⟩

/-! ### impl_WorldOk: function 17 -/
def impl_WorldOk.f (a0 : Int) (a1 : Int) : Option (Bool) := (impl_peopleOk.f a0).bind fun t362 => (if t362 = true then (if a1 ≥ 0 then (if 0 ≤ a0 then (some (decide (a1 < (shl .i64 1 a0)))) else (none)) else (some false)) else (some false))
set_option maxHeartbeats 8000000 in
set_option maxRecDepth 100000 in
theorem impl_WorldOk.calls (a0 : Int) (a1 : Int) (r : Bool) (w : World) (h : impl_WorldOk.f a0 a1 = some r) :
  Calls Try.prog 17 #[.int .i64 a0, .int .i64 a1] w fun e w' => e = .returned (.bool r) ∧ Drawn0 w w' := by
 have H : ((impl_peopleOk.f a0).bind fun t362 => (if t362 = true then (if a1 ≥ 0 then (if 0 ≤ a0 then (some (decide (a1 < (shl .i64 1 a0)))) else (none)) else (some false)) else (some false))) = some r := h
 clear h
 replace H := Option.bind_eq_some_iff.mp H
 obtain ⟨t362, A30, H⟩ := H
 replace H : (if t362 = true then (if a1 ≥ 0 then (if 0 ≤ a0 then (some (decide (a1 < (shl .i64 1 a0)))) else (none)) else (some false)) else (some false)) = some r := H
 have A3 := Aside0.mk A30
 clear A30
 by_cases c4 : t362 = true
 ·subst c4
  have H1 : (if a1 ≥ 0 then (if 0 ≤ a0 then (some (decide (a1 < (shl .i64 1 a0)))) else (none)) else (some false)) = some r := by rw [if_pos rfl] at H; exact H
  clear H
  have H := H1
  clear H1
  by_cases c5 : a1 ≥ 0
  ·rw [if_pos c5] at H
   have c5b0 : decide (0 ≤ a1) = true := decide_eq_true c5
   clear c5
   by_cases c6 : 0 ≤ a0
   ·rw [if_pos c6] at H
    have c6b0 := eq_true c6
    have c6b1 : decide (0 ≤ a0) = true := decide_eq_true c6
    clear c6
    obtain ⟨ji7, hji7⟩ : ∃ j_ : Int, (shl .i64 1 a0) = j_ := ⟨_, rfl⟩
    replace H : (some (decide (a1 < (ji7)))) = some r := by first | (rw [hji7] at H; exact H) | (simp only [hji7] at H ⊢; exact H)
    (try rw [hji7] at A3)
    have hji7_ : (IntKind.i64.wrap (1 * 2 ^ min a0.toNat 64)) = ji7 := hji7
    have hji7z : a0 ≤ 64 → (IntKind.i64.wrap (1 * 2 ^ a0.toNat)) = ji7 := shl_small hji7
    have hji7u : (IntKind.i64.wrap (2 ^ min a0.toNat 64)) = ji7 := by have h_ := hji7_; rw [Int.one_mul] at h_; exact h_
    have hji7v : a0 ≤ 64 → (IntKind.i64.wrap (2 ^ a0.toNat)) = ji7 := fun hle_ => by have h_ := hji7z hle_; rw [Int.one_mul] at h_; exact h_
    have hji7y : (wrap64 (1 * 2 ^ min a0.toNat 64)) = ji7 := (i64_w _).symm.trans hji7_
    have hji7x : a0 ≤ 64 → (wrap64 (1 * 2 ^ a0.toNat)) = ji7 := fun h_ => (i64_w _).symm.trans (hji7z h_)
    obtain rfl := Option.some.inj H
    go_enter Try.func17, Try.ntmps17
    go_wp2_with (first | ((with_reducible refine gate_callee (f := 16) rfl ?_); refine goesL_ (some 6) rfl rfl Try.func16 (by kernel_rfl) rfl #[.int .i64 a0] rfl pwi_ ?_; (with_reducible refine (impl_peopleOk.calls a0 true _ A3.out).mono ?_); rintro e w' ⟨rfl, ⟨nd, rfl⟩⟩; refine ⟨_, rfl, ?_⟩))
    go_ret
    exact ⟨by first | rfl | (simp; done) | (simp only [← hji7] <;> (first | rfl | simp)) | (simp [*]; done), by repeat (first | exact Drawn0.refl _ | apply Drawn0.step)⟩
   ·rw [if_neg c6] at H
    exact absurd H (by simp)
  ·rw [if_neg c5] at H
   have c5b0 : decide (0 ≤ a1) = false := decide_eq_false c5
   clear c5
   obtain rfl := Option.some.inj H
   go_enter Try.func17, Try.ntmps17
   go_wp2_with (first | ((with_reducible refine gate_callee (f := 16) rfl ?_); refine goesL_ (some 6) rfl rfl Try.func16 (by kernel_rfl) rfl #[.int .i64 a0] rfl pwi_ ?_; (with_reducible refine (impl_peopleOk.calls a0 true _ A3.out).mono ?_); rintro e w' ⟨rfl, ⟨nd, rfl⟩⟩; refine ⟨_, rfl, ?_⟩))
   go_ret
   exact ⟨pwa_, by repeat (first | exact Drawn0.refl _ | apply Drawn0.step)⟩
 ·replace c4 := Bool.eq_false_iff.mpr c4
  subst c4
  have H1 : (some false) = some r := by rw [if_neg (show ¬ (false = true) by decide)] at H; exact H
  clear H
  have H := H1
  clear H1
  obtain rfl := Option.some.inj H
  go_enter Try.func17, Try.ntmps17
  go_wp2_with (first | ((with_reducible refine gate_callee (f := 16) rfl ?_); refine goesL_ (some 6) rfl rfl Try.func16 (by kernel_rfl) rfl #[.int .i64 a0] rfl pwi_ ?_; (with_reducible refine (impl_peopleOk.calls a0 false _ A3.out).mono ?_); rintro e w' ⟨rfl, ⟨nd, rfl⟩⟩; refine ⟨_, rfl, ?_⟩))
  go_ret
  exact ⟨pwa_, by repeat (first | exact Drawn0.refl _ | apply Drawn0.step)⟩

/-! ### laws_alive: function 8 -/
def laws_alive.f  : Option (Bool) := (impl_WorldOk.f 1 1).bind fun t363 => (if t363 = true then ((impl_WorldOk.f 1 2).bind fun t364 => (some (!t364))) else (some false))
set_option maxHeartbeats 8000000 in
set_option maxRecDepth 100000 in
theorem laws_alive.calls  (r : Bool) (w : World) (h : laws_alive.f  = some r) :
  Calls Try.prog 8 #[] w fun e w' => e = .returned (.bool r) ∧ Drawn0 w w' := by
 have H : ((impl_WorldOk.f 1 1).bind fun t363 => (if t363 = true then ((impl_WorldOk.f 1 2).bind fun t364 => (some (!t364))) else (some false))) = some r := h
 clear h
 replace H := Option.bind_eq_some_iff.mp H
 obtain ⟨t363, A10, H⟩ := H
 replace H : (if t363 = true then ((impl_WorldOk.f 1 2).bind fun t364 => (some (!t364))) else (some false)) = some r := H
 have A1 := Aside0.mk A10
 clear A10
 by_cases c2 : t363 = true
 ·subst c2
  have H1 : ((impl_WorldOk.f 1 2).bind fun t364 => (some (!t364))) = some r := by rw [if_pos rfl] at H; exact H
  clear H
  have H := H1
  clear H1
  replace H := Option.bind_eq_some_iff.mp H
  obtain ⟨t364, A30, H⟩ := H
  replace H : (some (!t364)) = some r := H
  have A3 := Aside0.mk A30
  clear A30
  obtain rfl := Option.some.inj H
  go_enter Try.func8, Try.ntmps8
  go_wp2_with (first | ((with_reducible refine gate_callee (f := 17) rfl ?_); refine goesL_ (some 1) rfl rfl Try.func17 (by kernel_rfl) rfl #[.int .i64 1, .int .i64 1] rfl pwi_ ?_; (with_reducible refine (impl_WorldOk.calls 1 1 true _ A1.out).mono ?_); rintro e w' ⟨rfl, ⟨nd, rfl⟩⟩; refine ⟨_, rfl, ?_⟩) | (go_at_call 17; (with_reducible refine (impl_WorldOk.calls 1 2 t364 _ A3.out).mono ?_); rintro e w' ⟨rfl, ⟨nd, rfl⟩⟩))
  go_ret
  exact ⟨pwa_, by repeat (first | exact Drawn0.refl _ | apply Drawn0.step)⟩
 ·replace c2 := Bool.eq_false_iff.mpr c2
  subst c2
  have H1 : (some false) = some r := by rw [if_neg (show ¬ (false = true) by decide)] at H; exact H
  clear H
  have H := H1
  clear H1
  obtain rfl := Option.some.inj H
  go_enter Try.func8, Try.ntmps8
  go_wp2_with (first | ((with_reducible refine gate_callee (f := 17) rfl ?_); refine goesL_ (some 1) rfl rfl Try.func17 (by kernel_rfl) rfl #[.int .i64 1, .int .i64 1] rfl pwi_ ?_; (with_reducible refine (impl_WorldOk.calls 1 1 false _ A1.out).mono ?_); rintro e w' ⟨rfl, ⟨nd, rfl⟩⟩; refine ⟨_, rfl, ?_⟩))
  go_ret
  exact ⟨pwa_, by repeat (first | exact Drawn0.refl _ | apply Drawn0.step)⟩

/-! ### stringslite_HasPrefix: function 35 -/
def stringslite_HasPrefix.f (a0 : ByteArray) (a1 : ByteArray) : Option (Bool) := if (a0.size : Int) ≥ (a1.size : Int) then (if 0 ≤ (a1.size : Int) then (if (a1.size : Int) ≤ (a0.size : Int) then (some ((a0.extract 0 ((a1.size : Int) : Int).toNat).toList == a1.toList)) else (none)) else (none)) else (some false)
set_option maxHeartbeats 8000000 in
set_option maxRecDepth 100000 in
theorem stringslite_HasPrefix.calls (a0 : ByteArray) (a1 : ByteArray) (r : Bool) (w : World) (h : stringslite_HasPrefix.f a0 a1 = some r) :
  Calls Try.prog 35 #[.string a0, .string a1] w fun e w' => e = .returned (.bool r) ∧ Drawn0 w w' := by
 have H : (if (a0.size : Int) ≥ (a1.size : Int) then (if 0 ≤ (a1.size : Int) then (if (a1.size : Int) ≤ (a0.size : Int) then (some ((a0.extract 0 ((a1.size : Int) : Int).toNat).toList == a1.toList)) else (none)) else (none)) else (some false)) = some r := h
 clear h
 by_cases c3 : (a0.size : Int) ≥ (a1.size : Int)
 ·rw [if_pos c3] at H
  have c3b0 : decide ((a1.size : Int) ≤ (a0.size : Int)) = true := decide_eq_true c3
  have c3b1 : decide (a1.size ≤ a0.size) = true := decide_eq_true (Int.ofNat_le.mp c3)
  clear c3
  by_cases c4 : 0 ≤ (a1.size : Int)
  ·rw [if_pos c4] at H
   have c4b0 := eq_true c4
   have c4b1 : decide (0 ≤ (a1.size : Int)) = true := decide_eq_true c4
   clear c4
   by_cases c5 : (a1.size : Int) ≤ (a0.size : Int)
   ·rw [if_pos c5] at H
    have c5b0 := eq_true c5
    have c5b1 : decide ((a1.size : Int) ≤ (a0.size : Int)) = true := decide_eq_true c5
    clear c5
    obtain rfl := Option.some.inj H
    go_enter Try.func35, Try.ntmps35
    go_wp2
    go_ret
    exact ⟨pwa_, by repeat (first | exact Drawn0.refl _ | apply Drawn0.step)⟩
   ·rw [if_neg c5] at H
    exact absurd H (by simp)
  ·rw [if_neg c4] at H
   exact absurd H (by simp)
 ·rw [if_neg c3] at H
  have c3b0 : decide ((a1.size : Int) ≤ (a0.size : Int)) = false := decide_eq_false c3
  have c3b1 : decide (a1.size ≤ a0.size) = false := decide_eq_false (fun h => c3 (Int.ofNat_le.mpr h))
  clear c3
  obtain rfl := Option.some.inj H
  go_enter Try.func35, Try.ntmps35
  go_wp2
  go_ret
  exact ⟨pwa_, by repeat (first | exact Drawn0.refl _ | apply Drawn0.step)⟩

end Go.Proofs.Ytcadjbmekmnjaaa.PFnTermText
