-- Made by a program of this session (wip/tools/patchprint.py), not by the kit itself.
import Derived.Test.YtfhmafmfaoknlaaPFnReadTermx0
import Derived.Test.YtfhmafmfaoknlaaPFnReadTermx2
import Derived.Test.YtfhmafmfaoknlaaPFnReadTermx3
namespace Go.Proofs.Ytfhmafmfaoknlaa.PFnReadTerm
open Go.RowKit Go.Proofs.YtfhmafmfaoknlaaW.PrintWords Go.Proofs.YtfhmafmfaoknlaaW.PrintLast Go.Proofs.YtfhmafmfaoknlaaW.PrintMore
attribute [local go_sem] max2_int min2_int max_two min_two max_three min_three max_four min_four   -- for this text's walks alone
set_option linter.unusedVariables false
set_option linter.unusedSimpArgs false

attribute [local go_sem] setCell_isSome

/-! ### spec_l2Held, spec_l2Text, which call each other -/
mutual
def spec_l2Held.f : Nat → List (S62) → Int → Option (ByteArray)
 | 0, _, _ => none
 | k + 1, l0, a1 => (spec_l2Binds.f l0).bind fun t121 => (if t121 < a1 then ((spec_l2Text.f k l0).bind fun t122 => (if 1 + t122.size ≤ 9223372036854775807 then (if ((⟨#[40]⟩ : ByteArray) ++ t122).size + 1 ≤ 9223372036854775807 then (some (((⟨#[40]⟩ : ByteArray) ++ t122) ++ (⟨#[41]⟩ : ByteArray))) else (none)) else (none))) else ((spec_l2Text.f k l0).bind fun t123 => (some t123)))
def spec_l2Text.f : Nat → List (S62) → Option (ByteArray)
 | 0, _ => none
 | k + 1, l0 => if 0 ≤ (wrap64 ((l0.length : Int) - 1)) then (if (wrap64 ((l0.length : Int) - 1)) < (l0.length : Int) then (if ((rd_T62 l0 (wrap64 ((l0.length : Int) - 1))).f0) = 0 then (if 0 ≤ ((rd_T62 l0 (wrap64 ((l0.length : Int) - 1))).f1) then (if ((rd_T62 l0 (wrap64 ((l0.length : Int) - 1))).f1) ≤ (wrap64 (((rd_T62 l0 (wrap64 ((l0.length : Int) - 1))).f1) + 1)) then (if (wrap64 (((rd_T62 l0 (wrap64 ((l0.length : Int) - 1))).f1) + 1)) ≤ 4 then (some ((⟨#[97, 98, 99, 100]⟩ : ByteArray).extract (((rd_T62 l0 (wrap64 ((l0.length : Int) - 1))).f1) : Int).toNat ((wrap64 (((rd_T62 l0 (wrap64 ((l0.length : Int) - 1))).f1) + 1)) : Int).toNat)) else (none)) else (none)) else (none)) else (if ((rd_T62 l0 (wrap64 ((l0.length : Int) - 1))).f0) = 1 then ((spec_l1Number.f k ((rd_T62 l0 (wrap64 ((l0.length : Int) - 1))).f1)).bind fun t130 => (some t130)) else (if ((rd_T62 l0 (wrap64 ((l0.length : Int) - 1))).f0) = 2 then (if (wrap64 ((l0.length : Int) - 1)) ≤ (l0.length : Int) then ((spec_l2Held.f k (l0.take ((wrap64 ((l0.length : Int) - 1)) : Int).toNat) 3).bind fun t135 => (if 1 + t135.size ≤ 9223372036854775807 then (some ((⟨#[33]⟩ : ByteArray) ++ t135)) else (none))) else (none)) else ((spec_l2Starts.f k l0 (wrap64 ((wrap64 ((l0.length : Int) - 1)) - 1))).bind fun t136 => ((spec_l2Binds.f l0).bind fun t137 => (if 0 ≤ t136 then (if t136 ≤ (l0.length : Int) then ((spec_l2Held.f k (l0.take (t136 : Int).toNat) t137).bind fun t142 => (if 0 ≤ (wrap64 (2 - t137)) then (if (wrap64 (2 - t137)) ≤ (wrap64 (3 - t137)) then (if (wrap64 (3 - t137)) ≤ 3 then (if t142.size + ((⟨#[38, 124, 61]⟩ : ByteArray).extract ((wrap64 (2 - t137)) : Int).toNat ((wrap64 (3 - t137)) : Int).toNat).size ≤ 9223372036854775807 then (if t136 ≤ (wrap64 ((l0.length : Int) - 1)) then (if (wrap64 ((l0.length : Int) - 1)) ≤ (l0.length : Int) then ((spec_l2Held.f k ((l0.take ((wrap64 ((l0.length : Int) - 1)) : Int).toNat).drop (t136 : Int).toNat) (wrap64 (t137 + 1))).bind fun t147 => (if (t142 ++ ((⟨#[38, 124, 61]⟩ : ByteArray).extract ((wrap64 (2 - t137)) : Int).toNat ((wrap64 (3 - t137)) : Int).toNat)).size + t147.size ≤ 9223372036854775807 then (some ((t142 ++ ((⟨#[38, 124, 61]⟩ : ByteArray).extract ((wrap64 (2 - t137)) : Int).toNat ((wrap64 (3 - t137)) : Int).toNat)) ++ t147)) else (none))) else (none)) else (none)) else (none)) else (none)) else (none)) else (none))) else (none)) else (none))))))) else (none)) else (none)
end
theorem l2Text_l2Held_c.mono_l : ∀ k, ((∀ y0 y1, LeO (spec_l2Held.f k y0 y1) (spec_l2Held.f (k + 1) y0 y1))) ∧ ((∀ y0, LeO (spec_l2Text.f k y0) (spec_l2Text.f (k + 1) y0)))
 | 0 => ⟨fun _ _ r h => by simp [spec_l2Held.f] at h, fun _ r h => by simp [spec_l2Text.f] at h⟩
 | k + 1 => by
  obtain ⟨g0_, g1_⟩ := l2Text_l2Held_c.mono_l k
  refine ⟨?_, ?_⟩
  case refine_1 =>
   have ih0 := g0_
   ·intro y0 y1
    unfold spec_l2Held.f
    repeat' first
    | (with_reducible exact ih0 _ _)
    | (with_reducible exact g1_ _)
    | (with_reducible exact LeO.refl _)
    | (with_reducible exact LeO.none _)
    | (with_reducible refine LeO.ite ?_ ?_)
    | (with_reducible refine LeO.bind ?_ (fun _ => ?_))
    | exact ih0 _ _
    | exact g1_ _
    | exact LeO.none _
    | refine LeO.ite ?_ ?_
    | refine LeO.bind ?_ (fun _ => ?_)
  case refine_2 =>
   have ih0 := g1_
   ·intro y0
    unfold spec_l2Text.f
    repeat' first
    | (with_reducible exact ih0 _)
    | (with_reducible exact spec_l1Number.mono _ _)
    | (with_reducible exact g0_ _ _)
    | (with_reducible exact spec_l2Starts.mono _ _ _)
    | (with_reducible exact LeO.refl _)
    | (with_reducible exact LeO.none _)
    | (with_reducible refine LeO.ite ?_ ?_)
    | (with_reducible refine LeO.bind ?_ (fun _ => ?_))
    | exact ih0 _
    | exact spec_l1Number.mono _ _
    | exact g0_ _ _
    | exact spec_l2Starts.mono _ _ _
    | exact LeO.none _
    | refine LeO.ite ?_ ?_
    | refine LeO.bind ?_ (fun _ => ?_)
theorem spec_l2Held.mono : ∀ a0 a1 k, LeO (spec_l2Held.f k a0 a1) (spec_l2Held.f (k + 1) a0 a1) := by
 intro a0 a1 k
 have ih0 := (l2Text_l2Held_c.mono_l k).1
 exact ih0 a0 a1
theorem spec_l2Text.mono : ∀ a0 k, LeO (spec_l2Text.f k a0) (spec_l2Text.f (k + 1) a0) := by
 intro a0 k
 have ih0 := (l2Text_l2Held_c.mono_l k).2
 exact ih0 a0
def spec_l2Text.T4 : Bool × List (List Nat × List Nat) := (true, [([], []), ([], []), ([0, 1], [0, 1]), ([2], [2]), ([3], [3]), ([], []), ([], []), ([5, 6], [5, 6]), ([7], [7]), ([8], [8]), ([9], [9]), ([4, 10], [4, 10]), ([11, 0, 1, 2, 3, 4, 5, 6, 7, 8, 9, 10, 11], [11])])
def spec_l2Text.B4 : List Nat := [0, 0, 3, 7, 15, 0, 0, 96, 224, 480, 992, 2047, 4095]
theorem spec_l2Text.tab4 : rtab .any (opsOf Try.f66 4) = spec_l2Text.T4 := by kernel_rfl
theorem spec_l2Text.bits4 : waitsOk spec_l2Text.T4.2 spec_l2Text.B4 = true := by kernel_rfl
def spec_l2Text.T11 : Bool × List (List Nat × List Nat) := (true, [([], []), ([], []), ([0, 1], [0, 1]), ([], []), ([2, 3], [2, 3]), ([], []), ([5], [5]), ([], []), ([7], [7]), ([6, 8], [6, 8]), ([4, 9], [4, 9]), ([], []), ([], []), ([], []), ([11, 12, 13], [11, 12, 13]), ([], []), ([15], [15]), ([14, 16, 4], [14, 16]), ([10, 17], [10, 17]), ([18, 17, 0, 1, 2, 3, 4, 5, 6, 7, 8, 9, 10, 11, 12, 13, 14, 15, 16, 17, 18], [18])])
def spec_l2Text.B11 : List Nat := [0, 0, 3, 0, 15, 0, 32, 0, 128, 480, 1023, 0, 0, 0, 14336, 0, 32768, 129055, 262143, 524287]
theorem spec_l2Text.tab11 : rtab .any (opsOf Try.f66 11) = spec_l2Text.T11 := by kernel_rfl
theorem spec_l2Text.bits11 : waitsOk spec_l2Text.T11.2 spec_l2Text.B11 = true := by kernel_rfl
set_option maxHeartbeats 8000000 in
set_option maxRecDepth 100000 in
theorem spec_l2Held.step (k : Nat) (h0_ : ∀ m_, m_ < k → ∀ (A0 : Option Addr) (c0 : Nat) (l0 : List (S62)) (a1 : Int) (r : ByteArray) (w : World) (hr0 : Kd.C k62 w A0 l0.length l0) (hc0 : l0.length ≤ c0) (h : spec_l2Held.f m_ l0 a1 = some r),
  Calls Try.prog 93 #[.slice A0 l0.length c0, .int .i64 a1] w fun e w' => e = .returned (.string r) ∧ Below w.heap.size w w') (h1_ : ∀ m_, m_ < k → ∀ (A0 : Option Addr) (c0 : Nat) (l0 : List (S62)) (r : ByteArray) (w : World) (hr0 : Kd.C k62 w A0 l0.length l0) (hc0 : l0.length ≤ c0) (h : spec_l2Text.f m_ l0 = some r),
  Calls Try.prog 66 #[.slice A0 l0.length c0] w fun e w' => e = .returned (.string r) ∧ Below w.heap.size w w') : ∀ (A0 : Option Addr) (c0 : Nat) (l0 : List (S62)) (a1 : Int) (r : ByteArray) (w : World) (hr0 : Kd.C k62 w A0 l0.length l0) (hc0 : l0.length ≤ c0) (h : spec_l2Held.f k l0 a1 = some r),
  Calls Try.prog 93 #[.slice A0 l0.length c0, .int .i64 a1] w fun e w' => e = .returned (.string r) ∧ Below w.heap.size w w' := by
 have ih := h0_
 intro A0 c0 l0 a1 r w hr0 hc0 h
 cases k with
 | zero => exact absurd h (by simp [spec_l2Held.f])
 | succ k =>
 simp only [spec_l2Held.f] at h
 have HR0 := Aside0.mk hr0
 have HC0 := Aside0.mk hc0
 clear hr0 hc0
 have HB := Aside0.mk (Below.refl w.heap.size w)
 have H : ((spec_l2Binds.f l0).bind fun t121 => (if t121 < a1 then ((spec_l2Text.f k l0).bind fun t122 => (if 1 + t122.size ≤ 9223372036854775807 then (if ((⟨#[40]⟩ : ByteArray) ++ t122).size + 1 ≤ 9223372036854775807 then (some (((⟨#[40]⟩ : ByteArray) ++ t122) ++ (⟨#[41]⟩ : ByteArray))) else (none)) else (none))) else ((spec_l2Text.f k l0).bind fun t123 => (some t123)))) = some r := h
 clear h
 replace H := Option.bind_eq_some_iff.mp H
 obtain ⟨t121, A30, H⟩ := H
 replace H : (if t121 < a1 then ((spec_l2Text.f k l0).bind fun t122 => (if 1 + t122.size ≤ 9223372036854775807 then (if ((⟨#[40]⟩ : ByteArray) ++ t122).size + 1 ≤ 9223372036854775807 then (some (((⟨#[40]⟩ : ByteArray) ++ t122) ++ (⟨#[41]⟩ : ByteArray))) else (none)) else (none))) else ((spec_l2Text.f k l0).bind fun t123 => (some t123))) = some r := H
 have A3 := Aside0.mk A30
 clear A30
 by_cases c4 : t121 < a1
 ·rw [if_pos c4] at H
  have c4b0 : decide (t121 < a1) = true := decide_eq_true c4
  clear c4
  replace H := Option.bind_eq_some_iff.mp H
  obtain ⟨t122, A50, H⟩ := H
  replace H : (if 1 + t122.size ≤ 9223372036854775807 then (if ((⟨#[40]⟩ : ByteArray) ++ t122).size + 1 ≤ 9223372036854775807 then (some (((⟨#[40]⟩ : ByteArray) ++ t122) ++ (⟨#[41]⟩ : ByteArray))) else (none)) else (none)) = some r := H
  have A5 := Aside0.mk A50
  clear A50
  by_cases c6 : 1 + t122.size ≤ 9223372036854775807
  ·rw [if_pos c6] at H
   have c6b0 := eq_true c6
   have c6b1 : decide (1 + t122.size ≤ 9223372036854775807) = true := decide_eq_true c6
   try have c6b2 : (9223372036854775807 < 1 + t122.size) = False := eq_false (Nat.not_lt.2 c6)
   by_cases c7 : ((⟨#[40]⟩ : ByteArray) ++ t122).size + 1 ≤ 9223372036854775807
   ·rw [if_pos c7] at H
    have c7b0 := eq_true c7
    have c7b1 : decide (((⟨#[40]⟩ : ByteArray) ++ t122).size + 1 ≤ 9223372036854775807) = true := decide_eq_true c7
    try have c7b2 : (9223372036854775807 < ((⟨#[40]⟩ : ByteArray) ++ t122).size + 1) = False := eq_false (Nat.not_lt.2 c7)
    try have c7b3 : (9223372036854775807 < 1 + t122.size + 1) = False := eq_false (by have z_ := c7; simp only [ByteArray.size_append] at z_; have e0_ : (⟨#[40]⟩ : ByteArray).size = 1 := rfl; omega)
    obtain rfl := Option.some.inj H
    go_enter Try.func93, Try.ntmps93
    go_wp2_with (first | ((with_reducible refine gate_callee (f := 95) rfl ?_); refine goesL_ (some 6) rfl rfl Try.func95 (by kernel_rfl) rfl #[.slice A0 l0.length c0] rfl pwk_ ?_; (with_reducible refine (spec_l2Binds.calls _ _ l0 t121 _ ?side1 ?side2 A3.out).mono ?_); (case side1 => repeat (first | exact HR0.out | (with_reducible refine Kd.C_alloc ?_ _) | (with_reducible refine Kd.C_drewN ?_ _) | (with_reducible refine Kd.C_drew ?_))); (case side2 => exact HC0.out); rintro e w8 ⟨rfl, hb⟩; refine ⟨_, rfl, ?_⟩; have n0_ := Aside0.mk (below_step pwi_ hb); clear HB; have HB := n0_; clear n0_; (try clear hb); (try clear hb2); (try clear hk); (try clear hi)) | ((with_reducible refine gate_callee (f := 66) rfl ?_); refine goesL_ (some 10) rfl rfl Try.func66 (by kernel_rfl) rfl #[.slice A0 l0.length c0] rfl pwk_ ?_; (with_reducible refine (h1_ k (by omega) _ _ l0 t122 _ ?side1 ?side2 A5.out).mono ?_); (case side1 => repeat (first | exact (Kd.C_below HR0.out HB.out) | (with_reducible refine Kd.C_alloc ?_ _) | (with_reducible refine Kd.C_drewN ?_ _) | (with_reducible refine Kd.C_drew ?_))); (case side2 => exact HC0.out); rintro e w9 ⟨rfl, hb⟩; refine ⟨_, rfl, ?_⟩; have n0_ := Aside0.mk (below_step pwi_ hb); clear HB; have HB := n0_; clear n0_; (try clear hb); (try clear hb2); (try clear hk); (try clear hi)))
    go_ret
    exact ⟨by first | rfl | (simp [errW_none, errW_some] <;> rfl) | (simp [*, errW_none, errW_some] <;> rfl), pwi_⟩
   ·rw [if_neg c7] at H
    exact absurd H (by simp)
  ·rw [if_neg c6] at H
   exact absurd H (by simp)
 ·rw [if_neg c4] at H
  have c4b0 : decide (t121 < a1) = false := decide_eq_false c4
  clear c4
  replace H := Option.bind_eq_some_iff.mp H
  obtain ⟨t123, A100, H⟩ := H
  replace H : (some t123) = some r := H
  have A10 := Aside0.mk A100
  clear A100
  obtain rfl := Option.some.inj H
  go_enter Try.func93, Try.ntmps93
  go_wp2_with (first | ((with_reducible refine gate_callee (f := 95) rfl ?_); refine goesL_ (some 6) rfl rfl Try.func95 (by kernel_rfl) rfl #[.slice A0 l0.length c0] rfl pwk_ ?_; (with_reducible refine (spec_l2Binds.calls _ _ l0 t121 _ ?side1 ?side2 A3.out).mono ?_); (case side1 => repeat (first | exact HR0.out | (with_reducible refine Kd.C_alloc ?_ _) | (with_reducible refine Kd.C_drewN ?_ _) | (with_reducible refine Kd.C_drew ?_))); (case side2 => exact HC0.out); rintro e w11 ⟨rfl, hb⟩; refine ⟨_, rfl, ?_⟩; have n0_ := Aside0.mk (below_step pwi_ hb); clear HB; have HB := n0_; clear n0_; (try clear hb); (try clear hb2); (try clear hk); (try clear hi)) | ((with_reducible refine gate_callee (f := 66) rfl ?_); refine goesL_ (some 14) rfl rfl Try.func66 (by kernel_rfl) rfl #[.slice A0 l0.length c0] rfl pwk_ ?_; (with_reducible refine (h1_ k (by omega) _ _ l0 t123 _ ?side1 ?side2 A10.out).mono ?_); (case side1 => repeat (first | exact (Kd.C_below HR0.out HB.out) | (with_reducible refine Kd.C_alloc ?_ _) | (with_reducible refine Kd.C_drewN ?_ _) | (with_reducible refine Kd.C_drew ?_))); (case side2 => exact HC0.out); rintro e w12 ⟨rfl, hb⟩; refine ⟨_, rfl, ?_⟩; have n0_ := Aside0.mk (below_step pwi_ hb); clear HB; have HB := n0_; clear n0_; (try clear hb); (try clear hb2); (try clear hk); (try clear hi)))
  go_ret
  exact ⟨by first | rfl | (simp [errW_none, errW_some] <;> rfl) | (simp [*, errW_none, errW_some] <;> rfl), pwi_⟩
set_option maxHeartbeats 8000000 in
set_option maxRecDepth 100000 in
theorem spec_l2Text.step (k : Nat) (h0_ : ∀ m_, m_ < k → ∀ (A0 : Option Addr) (c0 : Nat) (l0 : List (S62)) (a1 : Int) (r : ByteArray) (w : World) (hr0 : Kd.C k62 w A0 l0.length l0) (hc0 : l0.length ≤ c0) (h : spec_l2Held.f m_ l0 a1 = some r),
  Calls Try.prog 93 #[.slice A0 l0.length c0, .int .i64 a1] w fun e w' => e = .returned (.string r) ∧ Below w.heap.size w w') (h1_ : ∀ m_, m_ < k → ∀ (A0 : Option Addr) (c0 : Nat) (l0 : List (S62)) (r : ByteArray) (w : World) (hr0 : Kd.C k62 w A0 l0.length l0) (hc0 : l0.length ≤ c0) (h : spec_l2Text.f m_ l0 = some r),
  Calls Try.prog 66 #[.slice A0 l0.length c0] w fun e w' => e = .returned (.string r) ∧ Below w.heap.size w w') : ∀ (A0 : Option Addr) (c0 : Nat) (l0 : List (S62)) (r : ByteArray) (w : World) (hr0 : Kd.C k62 w A0 l0.length l0) (hc0 : l0.length ≤ c0) (h : spec_l2Text.f k l0 = some r),
  Calls Try.prog 66 #[.slice A0 l0.length c0] w fun e w' => e = .returned (.string r) ∧ Below w.heap.size w w' := by
 have ih := h1_
 intro A0 c0 l0 r w hr0 hc0 h
 cases k with
 | zero => exact absurd h (by simp [spec_l2Text.f])
 | succ k =>
 simp only [spec_l2Text.f] at h
 have HR0 := Aside0.mk hr0
 have HC0 := Aside0.mk hc0
 clear hr0 hc0
 have HB := Aside0.mk (Below.refl w.heap.size w)
 have H : (if 0 ≤ (wrap64 ((l0.length : Int) - 1)) then (if (wrap64 ((l0.length : Int) - 1)) < (l0.length : Int) then (if ((rd_T62 l0 (wrap64 ((l0.length : Int) - 1))).f0) = 0 then (if 0 ≤ ((rd_T62 l0 (wrap64 ((l0.length : Int) - 1))).f1) then (if ((rd_T62 l0 (wrap64 ((l0.length : Int) - 1))).f1) ≤ (wrap64 (((rd_T62 l0 (wrap64 ((l0.length : Int) - 1))).f1) + 1)) then (if (wrap64 (((rd_T62 l0 (wrap64 ((l0.length : Int) - 1))).f1) + 1)) ≤ 4 then (some ((⟨#[97, 98, 99, 100]⟩ : ByteArray).extract (((rd_T62 l0 (wrap64 ((l0.length : Int) - 1))).f1) : Int).toNat ((wrap64 (((rd_T62 l0 (wrap64 ((l0.length : Int) - 1))).f1) + 1)) : Int).toNat)) else (none)) else (none)) else (none)) else (if ((rd_T62 l0 (wrap64 ((l0.length : Int) - 1))).f0) = 1 then ((spec_l1Number.f k ((rd_T62 l0 (wrap64 ((l0.length : Int) - 1))).f1)).bind fun t130 => (some t130)) else (if ((rd_T62 l0 (wrap64 ((l0.length : Int) - 1))).f0) = 2 then (if (wrap64 ((l0.length : Int) - 1)) ≤ (l0.length : Int) then ((spec_l2Held.f k (l0.take ((wrap64 ((l0.length : Int) - 1)) : Int).toNat) 3).bind fun t135 => (if 1 + t135.size ≤ 9223372036854775807 then (some ((⟨#[33]⟩ : ByteArray) ++ t135)) else (none))) else (none)) else ((spec_l2Starts.f k l0 (wrap64 ((wrap64 ((l0.length : Int) - 1)) - 1))).bind fun t136 => ((spec_l2Binds.f l0).bind fun t137 => (if 0 ≤ t136 then (if t136 ≤ (l0.length : Int) then ((spec_l2Held.f k (l0.take (t136 : Int).toNat) t137).bind fun t142 => (if 0 ≤ (wrap64 (2 - t137)) then (if (wrap64 (2 - t137)) ≤ (wrap64 (3 - t137)) then (if (wrap64 (3 - t137)) ≤ 3 then (if t142.size + ((⟨#[38, 124, 61]⟩ : ByteArray).extract ((wrap64 (2 - t137)) : Int).toNat ((wrap64 (3 - t137)) : Int).toNat).size ≤ 9223372036854775807 then (if t136 ≤ (wrap64 ((l0.length : Int) - 1)) then (if (wrap64 ((l0.length : Int) - 1)) ≤ (l0.length : Int) then ((spec_l2Held.f k ((l0.take ((wrap64 ((l0.length : Int) - 1)) : Int).toNat).drop (t136 : Int).toNat) (wrap64 (t137 + 1))).bind fun t147 => (if (t142 ++ ((⟨#[38, 124, 61]⟩ : ByteArray).extract ((wrap64 (2 - t137)) : Int).toNat ((wrap64 (3 - t137)) : Int).toNat)).size + t147.size ≤ 9223372036854775807 then (some ((t142 ++ ((⟨#[38, 124, 61]⟩ : ByteArray).extract ((wrap64 (2 - t137)) : Int).toNat ((wrap64 (3 - t137)) : Int).toNat)) ++ t147)) else (none))) else (none)) else (none)) else (none)) else (none)) else (none)) else (none))) else (none)) else (none))))))) else (none)) else (none)) = some r := h
 clear h
 obtain ⟨ji2, hji2⟩ : ∃ j_ : Int, (wrap64 ((l0.length : Int) - 1)) = j_ := ⟨_, rfl⟩
 replace H : (if 0 ≤ (ji2) then (if (ji2) < (l0.length : Int) then (if ((rd_T62 l0 (ji2)).f0) = 0 then (if 0 ≤ ((rd_T62 l0 (ji2)).f1) then (if ((rd_T62 l0 (ji2)).f1) ≤ (wrap64 (((rd_T62 l0 (ji2)).f1) + 1)) then (if (wrap64 (((rd_T62 l0 (ji2)).f1) + 1)) ≤ 4 then (some ((⟨#[97, 98, 99, 100]⟩ : ByteArray).extract (((rd_T62 l0 (ji2)).f1) : Int).toNat ((wrap64 (((rd_T62 l0 (ji2)).f1) + 1)) : Int).toNat)) else (none)) else (none)) else (none)) else (if ((rd_T62 l0 (ji2)).f0) = 1 then ((spec_l1Number.f k ((rd_T62 l0 (ji2)).f1)).bind fun t130 => (some t130)) else (if ((rd_T62 l0 (ji2)).f0) = 2 then (if (ji2) ≤ (l0.length : Int) then ((spec_l2Held.f k (l0.take ((ji2) : Int).toNat) 3).bind fun t135 => (if 1 + t135.size ≤ 9223372036854775807 then (some ((⟨#[33]⟩ : ByteArray) ++ t135)) else (none))) else (none)) else ((spec_l2Starts.f k l0 (wrap64 ((ji2) - 1))).bind fun t136 => ((spec_l2Binds.f l0).bind fun t137 => (if 0 ≤ t136 then (if t136 ≤ (l0.length : Int) then ((spec_l2Held.f k (l0.take (t136 : Int).toNat) t137).bind fun t142 => (if 0 ≤ (wrap64 (2 - t137)) then (if (wrap64 (2 - t137)) ≤ (wrap64 (3 - t137)) then (if (wrap64 (3 - t137)) ≤ 3 then (if t142.size + ((⟨#[38, 124, 61]⟩ : ByteArray).extract ((wrap64 (2 - t137)) : Int).toNat ((wrap64 (3 - t137)) : Int).toNat).size ≤ 9223372036854775807 then (if t136 ≤ (ji2) then (if (ji2) ≤ (l0.length : Int) then ((spec_l2Held.f k ((l0.take ((ji2) : Int).toNat).drop (t136 : Int).toNat) (wrap64 (t137 + 1))).bind fun t147 => (if (t142 ++ ((⟨#[38, 124, 61]⟩ : ByteArray).extract ((wrap64 (2 - t137)) : Int).toNat ((wrap64 (3 - t137)) : Int).toNat)).size + t147.size ≤ 9223372036854775807 then (some ((t142 ++ ((⟨#[38, 124, 61]⟩ : ByteArray).extract ((wrap64 (2 - t137)) : Int).toNat ((wrap64 (3 - t137)) : Int).toNat)) ++ t147)) else (none))) else (none)) else (none)) else (none)) else (none)) else (none)) else (none))) else (none)) else (none))))))) else (none)) else (none)) = some r := by first | (rw [hji2] at H; exact H) | (simp only [hji2] at H ⊢; exact H)
 have hji2w : (IntKind.i64.wrap ((l0.length : Int) - 1)) = ji2 := (i64_w _).trans hji2
 by_cases c3 : 0 ≤ (ji2)
 ·rw [if_pos c3] at H
  have c3b0 : decide (0 ≤ (ji2)) = true := decide_eq_true c3
  clear c3
  by_cases c4 : (ji2) < (l0.length : Int)
  ·rw [if_pos c4] at H
   have c4b0 : decide ((ji2) < (l0.length : Int)) = true := decide_eq_true c4
   clear c4
   by_cases c5 : ((rd_T62 l0 (ji2)).f0) = 0
   ·rw [if_pos c5] at H
    have c5b0 : (((rd_T62 l0 (ji2)).f0) == 0) = true := beq_iff_eq.mpr c5
    have c5b1 : (((rd_T62 l0 (ji2)).f0) != 0) = false := bne_eq_false_iff_eq.mpr c5
    clear c5
    by_cases c6 : 0 ≤ ((rd_T62 l0 (ji2)).f1)
    ·rw [if_pos c6] at H
     have c6b0 := eq_true c6
     have c6b1 : decide (0 ≤ ((rd_T62 l0 (ji2)).f1)) = true := decide_eq_true c6
     clear c6
     by_cases c7 : ((rd_T62 l0 (ji2)).f1) ≤ (wrap64 (((rd_T62 l0 (ji2)).f1) + 1))
     ·rw [if_pos c7] at H
      have c7b0 := eq_true c7
      have c7b1 : decide (((rd_T62 l0 (ji2)).f1) ≤ (wrap64 (((rd_T62 l0 (ji2)).f1) + 1))) = true := decide_eq_true c7
      by_cases c8 : (wrap64 (((rd_T62 l0 (ji2)).f1) + 1)) ≤ 4
      ·rw [if_pos c8] at H
       have c8b0 := eq_true c8
       have c8b1 : decide ((wrap64 (((rd_T62 l0 (ji2)).f1) + 1)) ≤ 4) = true := decide_eq_true c8
       obtain rfl := Option.some.inj H
       have p126 : 0 ≤ ((ji2) : Int) := of_decide_eq_true pwb_
       have q126 : (ji2) < (l0.length : Int) := of_decide_eq_true pwb_
       obtain ⟨ad126, e126, hx126_0, hx126_1⟩ := at_T62 HR0.out (ji2) p126 q126
       cases e126
       replace p126 := eq_true p126
       replace q126 := eq_true q126
       go_enter Try.func66, Try.ntmps66
       try go_wp2
       have n0_ := Aside0.mk (below_drew1 HB.out)
       clear HB
       have HB := n0_
       clear n0_
       have p127 : 0 ≤ ((ji2) : Int) := of_decide_eq_true pwb_
       have q127 : (ji2) < (l0.length : Int) := of_decide_eq_true pwb_
       obtain ⟨ad127, e127, hx127_0, hx127_1⟩ := at_T62 HR0.out (ji2) p127 q127
       have hw127_1 := hx127_1
       have hw127_0 := hx127_0
       obtain rfl : ad126 = ad127 := (by injection e127)
       replace hx127_0 := (HB.out.cell (World.block_lt_of_cell? w _ hx127_0)).trans hx127_0
       replace hx127_1 := (HB.out.cell (World.block_lt_of_cell? w _ hx127_1)).trans hx127_1
       replace p127 := eq_true p127
       replace q127 := eq_true q127
       have p128 : 0 ≤ ((ji2) : Int) := of_decide_eq_true pwb_
       have q128 : (ji2) < (l0.length : Int) := of_decide_eq_true pwb_
       obtain ⟨ad128, e128, hx128_0, hx128_1⟩ := at_T62 HR0.out (ji2) p128 q128
       have hw128_1 := hx128_1
       have hw128_0 := hx128_0
       obtain rfl : ad126 = ad128 := (by injection e128)
       replace hx128_0 := (HB.out.cell (World.block_lt_of_cell? w _ hx128_0)).trans hx128_0
       replace hx128_1 := (HB.out.cell (World.block_lt_of_cell? w _ hx128_1)).trans hx128_1
       replace p128 := eq_true p128
       replace q128 := eq_true q128
       refine start_ (n := 13) (S := fun w' => w'.cell? (ad126.add (((ji2)).toNat * 2)) = some (.int .i64 ((rd_T62 l0 (ji2)).f0)) ∧ w'.cell? ⟨(ad126.add (((ji2)).toNat * 2)).block, (ad126.add (((ji2)).toNat * 2)).off + 1, none⟩ = some (.int .i64 ((rd_T62 l0 (ji2)).f1)) ∧ w'.cell? (ad126.add (((ji2)).toNat * 2)) = some (.int .i64 ((rd_T62 l0 (ji2)).f0)) ∧ w'.cell? ⟨(ad126.add (((ji2)).toNat * 2)).block, (ad126.add (((ji2)).toNat * 2)).off + 1, none⟩ = some (.int .i64 ((rd_T62 l0 (ji2)).f1))) (ds := []) #[false, false, false, false, false, false, false, false, false, false, false, false, false] (by kernel_rfl) rfl rfl ⟨((HB.out.cell (World.block_lt_of_cell? w _ hw127_0)).trans hw127_0), ((HB.out.cell (World.block_lt_of_cell? w _ hw127_1)).trans hw127_1), ((HB.out.cell (World.block_lt_of_cell? w _ hw128_0)).trans hw128_0), ((HB.out.cell (World.block_lt_of_cell? w _ hw128_1)).trans hw128_1)⟩ (fun hHeld => ?_); refine with_tabW spec_l2Text.tab4 spec_l2Text.bits4 (fun HT_ HW_ => ?_)
       generalize w.drew = w9 at HB hx127_0 hx127_1 hx128_0 hx128_1 hHeld ⊢
       refine pure_ (i := 0) (N := some 16) (v := ?_) (a' := ?_) #[true, false, false, false, false, false, false, false, false, false, false, false, false] rfl rfl (any_of HT_.out (by kernel_rfl)) (fun _ _ _ h => h) (Or.inl ⟨by rfl, ?_⟩) ?_ ?_
       rotate_left
       ·intro w'
        go_simp
        with_reducible rfl
       rotate_left
       ·simp only [Act.put, List.setIfInBounds_toArray, List.set_cons_zero, List.set_cons_succ, i64_w, i32_w]
        rfl
       refine pure_ (i := 1) (N := some 17) (v := ?_) (a' := ?_) #[true, true, false, false, false, false, false, false, false, false, false, false, false] rfl rfl (any_of HT_.out (by kernel_rfl)) (fun _ _ _ h => h) (Or.inl ⟨by rfl, ?_⟩) ?_ ?_
       rotate_left
       ·intro w'
        go_simp
        with_reducible rfl
       rotate_left
       ·simp only [Act.put, List.setIfInBounds_toArray, List.set_cons_zero, List.set_cons_succ, i64_w, i32_w]
        rfl
       refine pure_ (i := 2) (N := some 18) (v := ?_) (a' := ?_) #[true, true, true, false, false, false, false, false, false, false, false, false, false] rfl rfl (any_of HT_.out (by kernel_rfl)) (fun _ _ _ h => h) (Or.inl ⟨by rfl, ?_⟩) ?_ ?_
       rotate_left
       ·intro w'
        go_simp
        with_reducible rfl
       rotate_left
       ·simp only [Act.put, List.setIfInBounds_toArray, List.set_cons_zero, List.set_cons_succ, i64_w, i32_w]
        rfl
       refine pure_ (i := 3) (N := some 19) (v := ?_) (a' := ?_) #[true, true, true, true, false, false, false, false, false, false, false, false, false] rfl rfl (any_of HT_.out (by kernel_rfl)) (fun _ _ _ h => h) (Or.inl ⟨by rfl, ?_⟩) ?_ ?_
       rotate_left
       ·intro w'
        go_simp
        with_reducible rfl
       rotate_left
       ·simp only [Act.put, List.setIfInBounds_toArray, List.set_cons_zero, List.set_cons_succ, i64_w, i32_w]
        rfl
       refine pure_ (i := 5) (N := some 21) (v := ?_) (a' := ?_) #[true, true, true, true, false, true, false, false, false, false, false, false, false] rfl rfl (any_of HT_.out (by kernel_rfl)) (fun _ _ _ h => h) (Or.inl ⟨by rfl, ?_⟩) ?_ ?_
       rotate_left
       ·intro w'
        go_simp
        with_reducible rfl
       rotate_left
       ·simp only [Act.put, List.setIfInBounds_toArray, List.set_cons_zero, List.set_cons_succ, i64_w, i32_w]
        rfl
       refine pure_ (i := 6) (N := some 22) (v := ?_) (a' := ?_) #[true, true, true, true, false, true, true, false, false, false, false, false, false] rfl rfl (any_of HT_.out (by kernel_rfl)) (fun _ _ _ h => h) (Or.inl ⟨by rfl, ?_⟩) ?_ ?_
       rotate_left
       ·intro w'
        go_simp
        with_reducible rfl
       rotate_left
       ·simp only [Act.put, List.setIfInBounds_toArray, List.set_cons_zero, List.set_cons_succ, i64_w, i32_w]
        rfl
       refine pure_ (i := 7) (N := some 23) (v := ?_) (a' := ?_) #[true, true, true, true, false, true, true, true, false, false, false, false, false] rfl rfl (any_of HT_.out (by kernel_rfl)) (fun _ _ _ h => h) (Or.inl ⟨by rfl, ?_⟩) ?_ ?_
       rotate_left
       ·intro w'
        go_simp
        with_reducible rfl
       rotate_left
       ·simp only [Act.put, List.setIfInBounds_toArray, List.set_cons_zero, List.set_cons_succ, i64_w, i32_w]
        rfl
       refine pure_ (i := 8) (N := some 24) (v := ?_) (a' := ?_) #[true, true, true, true, false, true, true, true, true, false, false, false, false] rfl rfl (any_of HT_.out (by kernel_rfl)) (fun _ _ _ h => h) (Or.inl ⟨by rfl, ?_⟩) ?_ ?_
       rotate_left
       ·intro w'
        go_simp
        with_reducible rfl
       rotate_left
       ·simp only [Act.put, List.setIfInBounds_toArray, List.set_cons_zero, List.set_cons_succ, i64_w, i32_w]
        rfl
       refine take_ (i := 4) (N := some 20) (v := ?_) (a' := ?_) #[true, true, true, true, true, true, true, true, true, false, false, false, false] rfl rfl (take_ofW HT_.out HW_.out (by kernel_rfl)) (fun _ _ _ h => h) (Or.inl ⟨by rfl, ?_⟩) hHeld ?_ ?_
       rotate_left
       ·rintro w' ⟨s0, s1, s2, s3⟩
        go_simp
        with_reducible rfl
       rotate_left
       ·simp only [Act.put, List.setIfInBounds_toArray, List.set_cons_zero, List.set_cons_succ, i64_w, i32_w]
        rfl
       refine take_ (i := 9) (N := some 25) (v := ?_) (a' := ?_) #[true, true, true, true, true, true, true, true, true, true, false, false, false] rfl rfl (take_ofW HT_.out HW_.out (by kernel_rfl)) (fun _ _ _ h => h) (Or.inl ⟨by rfl, ?_⟩) hHeld ?_ ?_
       rotate_left
       ·rintro w' ⟨s0, s1, s2, s3⟩
        go_simp
        with_reducible rfl
       rotate_left
       ·simp only [Act.put, List.setIfInBounds_toArray, List.set_cons_zero, List.set_cons_succ, i64_w, i32_w]
        rfl
       refine pure_ (i := 10) (N := some 26) (v := ?_) (a' := ?_) #[true, true, true, true, true, true, true, true, true, true, true, false, false] rfl rfl (any_of HT_.out (by kernel_rfl)) (fun _ _ _ h => h) (Or.inl ⟨by rfl, ?_⟩) ?_ ?_
       rotate_left
       ·intro w'
        go_simp
        with_reducible rfl
       rotate_left
       ·simp only [Act.put, List.setIfInBounds_toArray, List.set_cons_zero, List.set_cons_succ, i64_w, i32_w]
        rfl
       refine pure_ (i := 11) (N := some 27) (v := ?_) (a' := ?_) #[true, true, true, true, true, true, true, true, true, true, true, true, false] rfl rfl (any_of HT_.out (by kernel_rfl)) (fun _ _ _ h => h) (Or.inl ⟨by rfl, ?_⟩) ?_ ?_
       rotate_left
       ·intro w'
        go_simp
        with_reducible rfl
       rotate_left
       ·simp only [Act.put, List.setIfInBounds_toArray, List.set_cons_zero, List.set_cons_succ, i64_w, i32_w]
        rfl
       refine pure_ (i := 12) (N := some 2) (v := ?_) (a' := ?_) #[true, true, true, true, true, true, true, true, true, true, true, true, true] rfl rfl (any_of HT_.out (by kernel_rfl)) (fun _ _ _ h => h) (Or.inl ⟨by rfl, ?_⟩) ?_ ?_
       rotate_left
       ·intro w'
        go_simp
        with_reducible rfl
       rotate_left
       ·simp only [Act.put, List.setIfInBounds_toArray, List.set_cons_zero, List.set_cons_succ, i64_w, i32_w]
        rfl
       refine done_ (done_of HT_.out (by kernel_rfl)) ?_
       try go_wp2
       go_ret
       exact ⟨by first | rfl | (simp [errW_none, errW_some] <;> rfl) | (simp only [← hji2]; first | rfl | (simp [errW_none, errW_some] <;> rfl)) | (simp [*, errW_none, errW_some] <;> rfl), pwi_⟩
      ·rw [if_neg c8] at H
       exact absurd H (by simp)
     ·rw [if_neg c7] at H
      exact absurd H (by simp)
    ·rw [if_neg c6] at H
     exact absurd H (by simp)
   ·rw [if_neg c5] at H
    have c5b0 : (((rd_T62 l0 (ji2)).f0) == 0) = false := beq_eq_false_iff_ne.mpr c5
    have c5b1 : (((rd_T62 l0 (ji2)).f0) != 0) = true := bne_iff_ne.mpr c5
    by_cases c10 : ((rd_T62 l0 (ji2)).f0) = 1
    ·rw [if_pos c10] at H
     have c10b0 : (((rd_T62 l0 (ji2)).f0) == 1) = true := beq_iff_eq.mpr c10
     have c10b1 : (((rd_T62 l0 (ji2)).f0) != 1) = false := bne_eq_false_iff_eq.mpr c10
     clear c10
     replace H := Option.bind_eq_some_iff.mp H
     obtain ⟨t130, A110, H⟩ := H
     replace H : (some t130) = some r := H
     have A11 := Aside0.mk A110
     clear A110
     obtain rfl := Option.some.inj H
     have p126 : 0 ≤ ((ji2) : Int) := of_decide_eq_true pwb_
     have q126 : (ji2) < (l0.length : Int) := of_decide_eq_true pwb_
     obtain ⟨ad126, e126, hx126_0, hx126_1⟩ := at_T62 HR0.out (ji2) p126 q126
     cases e126
     replace p126 := eq_true p126
     replace q126 := eq_true q126
     have p129 : 0 ≤ ((ji2) : Int) := of_decide_eq_true pwb_
     have q129 : (ji2) < (l0.length : Int) := of_decide_eq_true pwb_
     obtain ⟨ad129, e129, hx129_0, hx129_1⟩ := at_T62 HR0.out (ji2) p129 q129
     obtain rfl : ad126 = ad129 := (by injection e129)
     replace p129 := eq_true p129
     replace q129 := eq_true q129
     go_enter Try.func66, Try.ntmps66
     go_wp2_with (first | ((with_reducible refine gate_callee (f := 92) rfl ?_); refine goesL_ (some 35) rfl rfl Try.func92 (by kernel_rfl) rfl #[.int .i64 ((rd_T62 l0 (ji2)).f1)] rfl (by (try simp only [List.map_toArray, List.map_cons, List.map_nil]); first | done | (simp only [hji2]; rfl) | rfl | (simp only [List.length_drop, List.length_take]; rfl)) ?_; (with_reducible refine (spec_l1Number.calls k ((rd_T62 l0 (ji2)).f1) t130 _ A11.out).mono ?_); rintro e w12 ⟨rfl, hb⟩; refine ⟨_, rfl, ?_⟩; have n0_ := Aside0.mk (below_step pwi_ hb); clear HB; have HB := n0_; clear n0_; (try clear hb); (try clear hb2); (try clear hk); (try clear hi)))
     go_ret
     exact ⟨by first | rfl | (simp [errW_none, errW_some] <;> rfl) | (simp only [← hji2]; first | rfl | (simp [errW_none, errW_some] <;> rfl)) | (simp [*, errW_none, errW_some] <;> rfl), pwi_⟩
    ·rw [if_neg c10] at H
     have c10b0 : (((rd_T62 l0 (ji2)).f0) == 1) = false := beq_eq_false_iff_ne.mpr c10
     have c10b1 : (((rd_T62 l0 (ji2)).f0) != 1) = true := bne_iff_ne.mpr c10
     by_cases c13 : ((rd_T62 l0 (ji2)).f0) = 2
     ·rw [if_pos c13] at H
      have c13b0 : (((rd_T62 l0 (ji2)).f0) == 2) = true := beq_iff_eq.mpr c13
      have c13b1 : (((rd_T62 l0 (ji2)).f0) != 2) = false := bne_eq_false_iff_eq.mpr c13
      clear c13
      have c14b0 := eq_true (of_decide_eq_true pwb_ : 0 ≤ (ji2))
      by_cases c15 : (ji2) ≤ (l0.length : Int)
      ·rw [if_pos c15] at H
       have c15b0 := eq_true c15
       have c15b1 : decide ((ji2) ≤ (l0.length : Int)) = true := decide_eq_true c15
       clear c15
       obtain ⟨y131, hy131⟩ : ∃ y_ : List (S62), y_ = (l0.take ((ji2) : Int).toNat) := ⟨_, rfl⟩
       replace H : ((spec_l2Held.f k y131 3).bind fun t135 => (if 1 + t135.size ≤ 9223372036854775807 then (some ((⟨#[33]⟩ : ByteArray) ++ t135)) else (none))) = some r := by first | (rw [hy131]; with_reducible exact H) | (have H2_ := (Option.bind_some _ _).symm.trans H; rw [hy131]; with_reducible exact H2_) | (have H2_ := (Option.bind_some _ _).symm.trans H; with_reducible exact H2_) | with_reducible exact H | (rw [hy131]; exact H) | exact H
       have Ny131 := Aside0.mk hy131
       clear hy131
       replace H := Option.bind_eq_some_iff.mp H
       obtain ⟨t135, A160, H⟩ := H
       replace H : (if 1 + t135.size ≤ 9223372036854775807 then (some ((⟨#[33]⟩ : ByteArray) ++ t135)) else (none)) = some r := H
       have A16 := Aside0.mk A160
       clear A160
       by_cases c17 : 1 + t135.size ≤ 9223372036854775807
       ·rw [if_pos c17] at H
        have c17b0 := eq_true c17
        have c17b1 : decide (1 + t135.size ≤ 9223372036854775807) = true := decide_eq_true c17
        try have c17b2 : (9223372036854775807 < 1 + t135.size) = False := eq_false (Nat.not_lt.2 c17)
        obtain rfl := Option.some.inj H
        have p126 : 0 ≤ ((ji2) : Int) := of_decide_eq_true pwb_
        have q126 : (ji2) < (l0.length : Int) := of_decide_eq_true pwb_
        obtain ⟨ad126, e126, hx126_0, hx126_1⟩ := at_T62 HR0.out (ji2) p126 q126
        cases e126
        replace p126 := eq_true p126
        replace q126 := eq_true q126
        have q18 : ((ji2) : Int) ≤ ((l0.length : Int) : Int) := of_decide_eq_true pwb_
        obtain ⟨i018, hi018, _, hsz18, _⟩ := info_parts info62
        have hroom18 : l0.length ≤ c0 := HC0.out
        have hC18 : Kd.C k62 _ (some ad126) l0.length l0 := HR0.out
        have hcut18 := cut_to (P := Try.prog) 25 62 .i64 Try.underlying25 hi018 (some ad126) l0.length c0 (ji2) (of_decide_eq_true pwb_) q18 hroom18
        have hr18 := Kd.C_take (m := ((ji2) : Int).toNat) hC18 (by omega)
        have hy18 : y131.length = ((ji2) : Int).toNat := (by rw [Ny131.out, List.length_take]; omega)
        rw [← Ny131.out] at hr18
        rw [← hy18] at hcut18
        have HR134 := Aside0.mk hr18
        have HC134 := Aside0.mk (show y131.length ≤ c0 from by omega)
        clear hr18 hC18 hroom18 hi018 hsz18
        have KY18 := Aside0.mk hy18
        clear hy18
        replace q18 := eq_true q18
        go_enter Try.func66, Try.ntmps66
        go_wp2_with (first | ((with_reducible refine gate_callee (f := 93) rfl ?_); refine goesL_ (some 41) rfl rfl Try.func93 (by kernel_rfl) rfl #[.slice (some ad126) y131.length c0, .int .i64 3] rfl pwk_ ?_; (with_reducible refine (h0_ k (by omega) _ _ y131 3 t135 _ ?side1 ?side2 A16.out).mono ?_); (case side1 => repeat (first | exact HR134.out | (with_reducible refine Kd.C_alloc ?_ _) | (with_reducible refine Kd.C_drewN ?_ _) | (with_reducible refine Kd.C_drew ?_))); (case side2 => exact HC134.out); rintro e w19 ⟨rfl, hb⟩; refine ⟨_, rfl, ?_⟩; have n0_ := Aside0.mk (below_step pwi_ hb); clear HB; have HB := n0_; clear n0_; (try clear hb); (try clear hb2); (try clear hk); (try clear hi)))
        go_ret
        exact ⟨by first | rfl | (simp [errW_none, errW_some] <;> rfl) | (simp only [← hji2]; first | rfl | (simp [errW_none, errW_some] <;> rfl)) | (simp [*, errW_none, errW_some] <;> rfl), pwi_⟩
       ·rw [if_neg c17] at H
        exact absurd H (by simp)
      ·rw [if_neg c15] at H
       exact absurd H (by simp)
     ·rw [if_neg c13] at H
      have c13b0 : (((rd_T62 l0 (ji2)).f0) == 2) = false := beq_eq_false_iff_ne.mpr c13
      have c13b1 : (((rd_T62 l0 (ji2)).f0) != 2) = true := bne_iff_ne.mpr c13
      replace H := Option.bind_eq_some_iff.mp H
      obtain ⟨t136, A200, H⟩ := H
      replace H : ((spec_l2Binds.f l0).bind fun t137 => (if 0 ≤ t136 then (if t136 ≤ (l0.length : Int) then ((spec_l2Held.f k (l0.take (t136 : Int).toNat) t137).bind fun t142 => (if 0 ≤ (wrap64 (2 - t137)) then (if (wrap64 (2 - t137)) ≤ (wrap64 (3 - t137)) then (if (wrap64 (3 - t137)) ≤ 3 then (if t142.size + ((⟨#[38, 124, 61]⟩ : ByteArray).extract ((wrap64 (2 - t137)) : Int).toNat ((wrap64 (3 - t137)) : Int).toNat).size ≤ 9223372036854775807 then (if t136 ≤ (ji2) then (if (ji2) ≤ (l0.length : Int) then ((spec_l2Held.f k ((l0.take ((ji2) : Int).toNat).drop (t136 : Int).toNat) (wrap64 (t137 + 1))).bind fun t147 => (if (t142 ++ ((⟨#[38, 124, 61]⟩ : ByteArray).extract ((wrap64 (2 - t137)) : Int).toNat ((wrap64 (3 - t137)) : Int).toNat)).size + t147.size ≤ 9223372036854775807 then (some ((t142 ++ ((⟨#[38, 124, 61]⟩ : ByteArray).extract ((wrap64 (2 - t137)) : Int).toNat ((wrap64 (3 - t137)) : Int).toNat)) ++ t147)) else (none))) else (none)) else (none)) else (none)) else (none)) else (none)) else (none))) else (none)) else (none))) = some r := H
      have A20 := Aside0.mk A200
      clear A200
      replace H := Option.bind_eq_some_iff.mp H
      obtain ⟨t137, A210, H⟩ := H
      replace H : (if 0 ≤ t136 then (if t136 ≤ (l0.length : Int) then ((spec_l2Held.f k (l0.take (t136 : Int).toNat) t137).bind fun t142 => (if 0 ≤ (wrap64 (2 - t137)) then (if (wrap64 (2 - t137)) ≤ (wrap64 (3 - t137)) then (if (wrap64 (3 - t137)) ≤ 3 then (if t142.size + ((⟨#[38, 124, 61]⟩ : ByteArray).extract ((wrap64 (2 - t137)) : Int).toNat ((wrap64 (3 - t137)) : Int).toNat).size ≤ 9223372036854775807 then (if t136 ≤ (ji2) then (if (ji2) ≤ (l0.length : Int) then ((spec_l2Held.f k ((l0.take ((ji2) : Int).toNat).drop (t136 : Int).toNat) (wrap64 (t137 + 1))).bind fun t147 => (if (t142 ++ ((⟨#[38, 124, 61]⟩ : ByteArray).extract ((wrap64 (2 - t137)) : Int).toNat ((wrap64 (3 - t137)) : Int).toNat)).size + t147.size ≤ 9223372036854775807 then (some ((t142 ++ ((⟨#[38, 124, 61]⟩ : ByteArray).extract ((wrap64 (2 - t137)) : Int).toNat ((wrap64 (3 - t137)) : Int).toNat)) ++ t147)) else (none))) else (none)) else (none)) else (none)) else (none)) else (none)) else (none))) else (none)) else (none)) = some r := H
      have A21 := Aside0.mk A210
      clear A210
      by_cases c22 : 0 ≤ t136
      ·rw [if_pos c22] at H
       have c22b0 := eq_true c22
       have c22b1 : decide (0 ≤ t136) = true := decide_eq_true c22
       clear c22
       by_cases c23 : t136 ≤ (l0.length : Int)
       ·rw [if_pos c23] at H
        have c23b0 := eq_true c23
        have c23b1 : decide (t136 ≤ (l0.length : Int)) = true := decide_eq_true c23
        clear c23
        obtain ⟨y138, hy138⟩ : ∃ y_ : List (S62), y_ = (l0.take (t136 : Int).toNat) := ⟨_, rfl⟩
        replace H : ((spec_l2Held.f k y138 t137).bind fun t142 => (if 0 ≤ (wrap64 (2 - t137)) then (if (wrap64 (2 - t137)) ≤ (wrap64 (3 - t137)) then (if (wrap64 (3 - t137)) ≤ 3 then (if t142.size + ((⟨#[38, 124, 61]⟩ : ByteArray).extract ((wrap64 (2 - t137)) : Int).toNat ((wrap64 (3 - t137)) : Int).toNat).size ≤ 9223372036854775807 then (if t136 ≤ (ji2) then (if (ji2) ≤ (l0.length : Int) then ((spec_l2Held.f k ((l0.take ((ji2) : Int).toNat).drop (t136 : Int).toNat) (wrap64 (t137 + 1))).bind fun t147 => (if (t142 ++ ((⟨#[38, 124, 61]⟩ : ByteArray).extract ((wrap64 (2 - t137)) : Int).toNat ((wrap64 (3 - t137)) : Int).toNat)).size + t147.size ≤ 9223372036854775807 then (some ((t142 ++ ((⟨#[38, 124, 61]⟩ : ByteArray).extract ((wrap64 (2 - t137)) : Int).toNat ((wrap64 (3 - t137)) : Int).toNat)) ++ t147)) else (none))) else (none)) else (none)) else (none)) else (none)) else (none)) else (none))) = some r := by first | (rw [hy138]; with_reducible exact H) | (have H2_ := (Option.bind_some _ _).symm.trans H; rw [hy138]; with_reducible exact H2_) | (have H2_ := (Option.bind_some _ _).symm.trans H; with_reducible exact H2_) | with_reducible exact H | (rw [hy138]; exact H) | exact H
        have Ny138 := Aside0.mk hy138
        clear hy138
        replace H := Option.bind_eq_some_iff.mp H
        obtain ⟨t142, A240, H⟩ := H
        replace H : (if 0 ≤ (wrap64 (2 - t137)) then (if (wrap64 (2 - t137)) ≤ (wrap64 (3 - t137)) then (if (wrap64 (3 - t137)) ≤ 3 then (if t142.size + ((⟨#[38, 124, 61]⟩ : ByteArray).extract ((wrap64 (2 - t137)) : Int).toNat ((wrap64 (3 - t137)) : Int).toNat).size ≤ 9223372036854775807 then (if t136 ≤ (ji2) then (if (ji2) ≤ (l0.length : Int) then ((spec_l2Held.f k ((l0.take ((ji2) : Int).toNat).drop (t136 : Int).toNat) (wrap64 (t137 + 1))).bind fun t147 => (if (t142 ++ ((⟨#[38, 124, 61]⟩ : ByteArray).extract ((wrap64 (2 - t137)) : Int).toNat ((wrap64 (3 - t137)) : Int).toNat)).size + t147.size ≤ 9223372036854775807 then (some ((t142 ++ ((⟨#[38, 124, 61]⟩ : ByteArray).extract ((wrap64 (2 - t137)) : Int).toNat ((wrap64 (3 - t137)) : Int).toNat)) ++ t147)) else (none))) else (none)) else (none)) else (none)) else (none)) else (none)) else (none)) = some r := H
        have A24 := Aside0.mk A240
        clear A240
        by_cases c25 : 0 ≤ (wrap64 (2 - t137))
        ·rw [if_pos c25] at H
         have c25b0 := eq_true c25
         have c25b1 : decide (0 ≤ (wrap64 (2 - t137))) = true := decide_eq_true c25
         clear c25
         by_cases c26 : (wrap64 (2 - t137)) ≤ (wrap64 (3 - t137))
         ·rw [if_pos c26] at H
          have c26b0 := eq_true c26
          have c26b1 : decide ((wrap64 (2 - t137)) ≤ (wrap64 (3 - t137))) = true := decide_eq_true c26
          clear c26
          by_cases c27 : (wrap64 (3 - t137)) ≤ 3
          ·rw [if_pos c27] at H
           have c27b0 := eq_true c27
           have c27b1 : decide ((wrap64 (3 - t137)) ≤ 3) = true := decide_eq_true c27
           clear c27
           by_cases c28 : t142.size + ((⟨#[38, 124, 61]⟩ : ByteArray).extract ((wrap64 (2 - t137)) : Int).toNat ((wrap64 (3 - t137)) : Int).toNat).size ≤ 9223372036854775807
           ·rw [if_pos c28] at H
            have c28b0 := eq_true c28
            have c28b1 : decide (t142.size + ((⟨#[38, 124, 61]⟩ : ByteArray).extract ((wrap64 (2 - t137)) : Int).toNat ((wrap64 (3 - t137)) : Int).toNat).size ≤ 9223372036854775807) = true := decide_eq_true c28
            try have c28b2 : (9223372036854775807 < t142.size + ((⟨#[38, 124, 61]⟩ : ByteArray).extract ((wrap64 (2 - t137)) : Int).toNat ((wrap64 (3 - t137)) : Int).toNat).size) = False := eq_false (Nat.not_lt.2 c28)
            try have c28b4 := pw_ext1 (⟨#[38, 124, 61]⟩ : ByteArray) 3 rfl (of_decide_eq_true pwb_) c28
            have c29b0 := eq_true (of_decide_eq_true pwb_ : 0 ≤ t136)
            by_cases c30 : t136 ≤ (ji2)
            ·rw [if_pos c30] at H
             have c30b0 := eq_true c30
             have c30b1 : decide (t136 ≤ (ji2)) = true := decide_eq_true c30
             clear c30
             by_cases c31 : (ji2) ≤ (l0.length : Int)
             ·rw [if_pos c31] at H
              have c31b0 := eq_true c31
              have c31b1 : decide ((ji2) ≤ (l0.length : Int)) = true := decide_eq_true c31
              clear c31
              obtain ⟨y143, hy143⟩ : ∃ y_ : List (S62), y_ = ((l0.take ((ji2) : Int).toNat).drop (t136 : Int).toNat) := ⟨_, rfl⟩
              replace H : ((spec_l2Held.f k y143 (wrap64 (t137 + 1))).bind fun t147 => (if (t142 ++ ((⟨#[38, 124, 61]⟩ : ByteArray).extract ((wrap64 (2 - t137)) : Int).toNat ((wrap64 (3 - t137)) : Int).toNat)).size + t147.size ≤ 9223372036854775807 then (some ((t142 ++ ((⟨#[38, 124, 61]⟩ : ByteArray).extract ((wrap64 (2 - t137)) : Int).toNat ((wrap64 (3 - t137)) : Int).toNat)) ++ t147)) else (none))) = some r := by first | (rw [hy143]; with_reducible exact H) | (have H2_ := (Option.bind_some _ _).symm.trans H; rw [hy143]; with_reducible exact H2_) | (have H2_ := (Option.bind_some _ _).symm.trans H; with_reducible exact H2_) | with_reducible exact H | (rw [hy143]; exact H) | exact H
              have Ny143 := Aside0.mk hy143
              clear hy143
              replace H := Option.bind_eq_some_iff.mp H
              obtain ⟨t147, A320, H⟩ := H
              replace H : (if (t142 ++ ((⟨#[38, 124, 61]⟩ : ByteArray).extract ((wrap64 (2 - t137)) : Int).toNat ((wrap64 (3 - t137)) : Int).toNat)).size + t147.size ≤ 9223372036854775807 then (some ((t142 ++ ((⟨#[38, 124, 61]⟩ : ByteArray).extract ((wrap64 (2 - t137)) : Int).toNat ((wrap64 (3 - t137)) : Int).toNat)) ++ t147)) else (none)) = some r := H
              have A32 := Aside0.mk A320
              clear A320
              by_cases c33 : (t142 ++ ((⟨#[38, 124, 61]⟩ : ByteArray).extract ((wrap64 (2 - t137)) : Int).toNat ((wrap64 (3 - t137)) : Int).toNat)).size + t147.size ≤ 9223372036854775807
              ·rw [if_pos c33] at H
               have c33b0 := eq_true c33
               have c33b1 : decide ((t142 ++ ((⟨#[38, 124, 61]⟩ : ByteArray).extract ((wrap64 (2 - t137)) : Int).toNat ((wrap64 (3 - t137)) : Int).toNat)).size + t147.size ≤ 9223372036854775807) = true := decide_eq_true c33
               try have c33b2 : (9223372036854775807 < (t142 ++ ((⟨#[38, 124, 61]⟩ : ByteArray).extract ((wrap64 (2 - t137)) : Int).toNat ((wrap64 (3 - t137)) : Int).toNat)).size + t147.size) = False := eq_false (Nat.not_lt.2 c33)
               try have c33b4 := pw_ext2 (⟨#[38, 124, 61]⟩ : ByteArray) 3 rfl (of_decide_eq_true pwb_) c33
               obtain rfl := Option.some.inj H
               have p126 : 0 ≤ ((ji2) : Int) := of_decide_eq_true pwb_
               have q126 : (ji2) < (l0.length : Int) := of_decide_eq_true pwb_
               obtain ⟨ad126, e126, hx126_0, hx126_1⟩ := at_T62 HR0.out (ji2) p126 q126
               cases e126
               replace p126 := eq_true p126
               replace q126 := eq_true q126
               go_enter Try.func66, Try.ntmps66
               try go_wp2_with (first | ((with_reducible refine gate_callee (f := 94) rfl ?_); refine goesL_ (some 46) rfl rfl Try.func94 (by kernel_rfl) rfl #[.slice (some ad126) l0.length c0, .int .i64 (wrap64 ((ji2) - 1))] rfl (by (try simp only [List.map_toArray, List.map_cons, List.map_nil]); first | done | (simp only [hji2]; rfl) | rfl | (simp only [List.length_drop, List.length_take]; rfl)) ?_; (with_reducible refine (spec_l2Starts.calls k _ _ l0 (wrap64 ((ji2) - 1)) t136 _ ?side1 ?side2 A20.out).mono ?_); (case side1 => repeat (first | exact HR0.out | (with_reducible refine Kd.C_alloc ?_ _) | (with_reducible refine Kd.C_drewN ?_ _) | (with_reducible refine Kd.C_drew ?_))); (case side2 => exact HC0.out); rintro e w' ⟨rfl, ⟨nd, rfl⟩⟩; refine ⟨_, rfl, ?_⟩) | ((with_reducible refine gate_callee (f := 95) rfl ?_); refine goesL_ (some 48) rfl rfl Try.func95 (by kernel_rfl) rfl #[.slice (some ad126) l0.length c0] rfl pwk_ ?_; (with_reducible refine (spec_l2Binds.calls _ _ l0 t137 _ ?side1 ?side2 A21.out).mono ?_); (case side1 => repeat (first | exact HR0.out | (with_reducible refine Kd.C_alloc ?_ _) | (with_reducible refine Kd.C_drewN ?_ _) | (with_reducible refine Kd.C_drew ?_))); (case side2 => exact HC0.out); rintro e w34 ⟨rfl, hb⟩; refine ⟨_, rfl, ?_⟩; have n0_ := Aside0.mk (below_step pwi_ hb); clear HB; have HB := n0_; clear n0_; (try clear hb); (try clear hb2); (try clear hk); (try clear hi)))
               have n0_ := Aside0.mk (below_drew1 HB.out)
               clear HB
               have HB := n0_
               clear n0_
               have q36 : (t136 : Int) ≤ ((l0.length : Int) : Int) := of_decide_eq_true pwb_
               obtain ⟨i036, hi036, _, hsz36, _⟩ := info_parts info62
               have hroom36 : l0.length ≤ c0 := HC0.out
               have hC36 : Kd.C k62 _ (some ad126) l0.length l0 := HR0.out
               have hcut36 := cut_to (P := Try.prog) 25 62 .i64 Try.underlying25 hi036 (some ad126) l0.length c0 t136 (of_decide_eq_true pwb_) q36 hroom36
               have hr36 := Kd.C_take (m := (t136 : Int).toNat) hC36 (by omega)
               have hy36 : y138.length = (t136 : Int).toNat := (by rw [Ny138.out, List.length_take]; omega)
               rw [← Ny138.out] at hr36
               rw [← hy36] at hcut36
               have HR141 := Aside0.mk hr36
               have HC141 := Aside0.mk (show y138.length ≤ c0 from by omega)
               clear hr36 hC36 hroom36 hi036 hsz36
               have KY36 := Aside0.mk hy36
               clear hy36
               replace q36 := eq_true q36
               have q37 : ((ji2) : Int) ≤ ((l0.length : Int) : Int) := of_decide_eq_true pwb_
               obtain ⟨i037, hi037, _, hsz37, _⟩ := info_parts info62
               have hroom37 : l0.length ≤ c0 := HC0.out
               have hC37 : Kd.C k62 _ (some ad126) l0.length l0 := HR0.out
               have ql37 : (t136 : Int) ≤ ((ji2) : Int) := of_decide_eq_true pwb_
               have q037 : (0 : Int) ≤ (t136 : Int) := of_decide_eq_true pwb_
               have hcut37 := cut_mid (P := Try.prog) 25 62 .i64 .i64 Try.underlying25 hi037 2 hsz37 (some ad126) l0.length c0 t136 (ji2) q037 ql37 q37 hroom37
               have hr37 := Kd.C_mid (lo := (t136 : Int).toNat) (hi := ((ji2) : Int).toNat) (c := c0) hC37 (by omega) (by omega) hroom37
               obtain ⟨A37, hA37⟩ : ∃ A1, A1 = (if c0 = (t136 : Int).toNat then (some ad126) else ((some ad126) : Option Addr).map (·.add ((t136 : Int).toNat * 2))) := ⟨_, rfl⟩
               obtain ⟨c37, hc37⟩ : ∃ c1, c1 = c0 - (t136 : Int).toNat := ⟨_, rfl⟩
               have hy37 : y143.length = ((ji2) : Int).toNat - (t136 : Int).toNat := (by rw [Ny143.out, List.length_drop, List.length_take] <;> omega)
               rw [show ((l0).take ((ji2) : Int).toNat).drop (t136 : Int).toNat = y143 from Ny143.out.symm] at hr37
               replace hr37 : Kd.C k62 _ A37 y143.length y143 := (by rw [hA37]; exact hr37)
               rw [← hy37, ← hA37, ← hc37] at hcut37
               have HR146 := Aside0.mk hr37
               have HC146 := Aside0.mk (show y143.length ≤ c37 from by rw [hy37, hc37]; exact Nat.sub_le_sub_right (Nat.le_trans (by omega) hroom37) _)
               clear hr37 hC37 hroom37 hi037 hsz37 hc37
               have KY37 := Aside0.mk hy37
               have KA37 := Aside0.mk hA37
               clear hy37 hA37
               replace q37 := eq_true q37
               refine start_ (n := 20) (S := fun w' => True) (ds := []) #[false, false, false, false, false, false, false, false, false, false, false, false, false, false, false, false, false, false, false, false] (by kernel_rfl) rfl rfl trivial (fun hHeld => ?_); refine with_tabW spec_l2Text.tab11 spec_l2Text.bits11 (fun HT_ HW_ => ?_)
               generalize w34.drew = w35 at HB HR141 HR146 hHeld ⊢
               refine pure_ (i := 0) (N := some 49) (v := ?_) (a' := ?_) #[true, false, false, false, false, false, false, false, false, false, false, false, false, false, false, false, false, false, false, false] rfl rfl (any_of HT_.out (by kernel_rfl)) (fun _ _ _ h => h) (Or.inl ⟨by rfl, ?_⟩) ?_ ?_
               rotate_left
               ·intro w'
                go_simp
                with_reducible rfl
               rotate_left
               ·simp only [Act.put, List.setIfInBounds_toArray, List.set_cons_zero, List.set_cons_succ, i64_w, i32_w]
                rfl
               refine pure_ (i := 1) (N := some 50) (v := ?_) (a' := ?_) #[true, true, false, false, false, false, false, false, false, false, false, false, false, false, false, false, false, false, false, false] rfl rfl (any_of HT_.out (by kernel_rfl)) (fun _ _ _ h => h) (Or.inl ⟨by rfl, ?_⟩) ?_ ?_
               rotate_left
               ·intro w'
                go_simp
                with_reducible rfl
               rotate_left
               ·simp only [Act.put, List.setIfInBounds_toArray, List.set_cons_zero, List.set_cons_succ, i64_w, i32_w]
                rfl
               refine pure_ (i := 2) (N := some 51) (v := ?_) (a' := ?_) #[true, true, true, false, false, false, false, false, false, false, false, false, false, false, false, false, false, false, false, false] rfl rfl (any_of HT_.out (by kernel_rfl)) (fun _ _ _ h => h) (Or.inl ⟨by rfl, ?_⟩) ?_ ?_
               rotate_left
               ·intro w'
                go_simp
                with_reducible rfl
               rotate_left
               ·simp only [Act.put, List.setIfInBounds_toArray, List.set_cons_zero, List.set_cons_succ, i64_w, i32_w]
                rfl
               refine pure_ (i := 3) (N := some 52) (v := ?_) (a' := ?_) #[true, true, true, true, false, false, false, false, false, false, false, false, false, false, false, false, false, false, false, false] rfl rfl (any_of HT_.out (by kernel_rfl)) (fun _ _ _ h => h) (Or.inl ⟨by rfl, ?_⟩) ?_ ?_
               rotate_left
               ·intro w'
                go_simp
                with_reducible rfl
               rotate_left
               ·simp only [Act.put, List.setIfInBounds_toArray, List.set_cons_zero, List.set_cons_succ, i64_w, i32_w]
                rfl
               refine pure_ (i := 5) (N := some 54) (v := ?_) (a' := ?_) #[true, true, true, true, false, true, false, false, false, false, false, false, false, false, false, false, false, false, false, false] rfl rfl (any_of HT_.out (by kernel_rfl)) (fun _ _ _ h => h) (Or.inl ⟨by rfl, ?_⟩) ?_ ?_
               rotate_left
               ·intro w'
                go_simp
                with_reducible rfl
               rotate_left
               ·simp only [Act.put, List.setIfInBounds_toArray, List.set_cons_zero, List.set_cons_succ, i64_w, i32_w]
                rfl
               refine pure_ (i := 6) (N := some 55) (v := ?_) (a' := ?_) #[true, true, true, true, false, true, true, false, false, false, false, false, false, false, false, false, false, false, false, false] rfl rfl (any_of HT_.out (by kernel_rfl)) (fun _ _ _ h => h) (Or.inl ⟨by rfl, ?_⟩) ?_ ?_
               rotate_left
               ·intro w'
                go_simp
                with_reducible rfl
               rotate_left
               ·simp only [Act.put, List.setIfInBounds_toArray, List.set_cons_zero, List.set_cons_succ, i64_w, i32_w]
                rfl
               refine pure_ (i := 7) (N := some 56) (v := ?_) (a' := ?_) #[true, true, true, true, false, true, true, true, false, false, false, false, false, false, false, false, false, false, false, false] rfl rfl (any_of HT_.out (by kernel_rfl)) (fun _ _ _ h => h) (Or.inl ⟨by rfl, ?_⟩) ?_ ?_
               rotate_left
               ·intro w'
                go_simp
                with_reducible rfl
               rotate_left
               ·simp only [Act.put, List.setIfInBounds_toArray, List.set_cons_zero, List.set_cons_succ, i64_w, i32_w]
                rfl
               refine pure_ (i := 8) (N := some 57) (v := ?_) (a' := ?_) #[true, true, true, true, false, true, true, true, true, false, false, false, false, false, false, false, false, false, false, false] rfl rfl (any_of HT_.out (by kernel_rfl)) (fun _ _ _ h => h) (Or.inl ⟨by rfl, ?_⟩) ?_ ?_
               rotate_left
               ·intro w'
                go_simp
                with_reducible rfl
               rotate_left
               ·simp only [Act.put, List.setIfInBounds_toArray, List.set_cons_zero, List.set_cons_succ, i64_w, i32_w]
                rfl
               refine pure_ (i := 9) (N := some 58) (v := ?_) (a' := ?_) #[true, true, true, true, false, true, true, true, true, true, false, false, false, false, false, false, false, false, false, false] rfl rfl (any_of HT_.out (by kernel_rfl)) (fun _ _ _ h => h) (Or.inl ⟨by rfl, ?_⟩) ?_ ?_
               rotate_left
               ·intro w'
                go_simp
                with_reducible rfl
               rotate_left
               ·simp only [Act.put, List.setIfInBounds_toArray, List.set_cons_zero, List.set_cons_succ, i64_w, i32_w]
                rfl
               refine pure_ (i := 11) (N := some 60) (v := ?_) (a' := ?_) #[true, true, true, true, false, true, true, true, true, true, false, true, false, false, false, false, false, false, false, false] rfl rfl (any_of HT_.out (by kernel_rfl)) (fun _ _ _ h => h) (Or.inl ⟨by rfl, ?_⟩) ?_ ?_
               rotate_left
               ·intro w'
                go_simp
                with_reducible rfl
               rotate_left
               ·simp only [Act.put, List.setIfInBounds_toArray, List.set_cons_zero, List.set_cons_succ, i64_w, i32_w]
                rfl
               refine pure_ (i := 12) (N := some 61) (v := ?_) (a' := ?_) #[true, true, true, true, false, true, true, true, true, true, false, true, true, false, false, false, false, false, false, false] rfl rfl (any_of HT_.out (by kernel_rfl)) (fun _ _ _ h => h) (Or.inl ⟨by rfl, ?_⟩) ?_ ?_
               rotate_left
               ·intro w'
                go_simp
                with_reducible rfl
               rotate_left
               ·simp only [Act.put, List.setIfInBounds_toArray, List.set_cons_zero, List.set_cons_succ, i64_w, i32_w]
                rfl
               refine pure_ (i := 13) (N := some 62) (v := ?_) (a' := ?_) #[true, true, true, true, false, true, true, true, true, true, false, true, true, true, false, false, false, false, false, false] rfl rfl (any_of HT_.out (by kernel_rfl)) (fun _ _ _ h => h) (Or.inl ⟨by rfl, ?_⟩) ?_ ?_
               rotate_left
               ·intro w'
                go_simp
                with_reducible rfl
               rotate_left
               ·simp only [Act.put, List.setIfInBounds_toArray, List.set_cons_zero, List.set_cons_succ, i64_w, i32_w]
                rfl
               refine pure_ (i := 14) (N := some 63) (v := ?_) (a' := ?_) #[true, true, true, true, false, true, true, true, true, true, false, true, true, true, true, false, false, false, false, false] rfl rfl (any_of HT_.out (by kernel_rfl)) (fun _ _ _ h => h) (Or.inl ⟨by rfl, ?_⟩) ?_ ?_
               rotate_left
               ·intro w'
                go_simp
                with_reducible rfl
               rotate_left
               ·simp only [Act.put, List.setIfInBounds_toArray, List.set_cons_zero, List.set_cons_succ, i64_w, i32_w]
                rfl
               refine pure_ (i := 15) (N := some 64) (v := ?_) (a' := ?_) #[true, true, true, true, false, true, true, true, true, true, false, true, true, true, true, true, false, false, false, false] rfl rfl (any_of HT_.out (by kernel_rfl)) (fun _ _ _ h => h) (Or.inl ⟨by rfl, ?_⟩) ?_ ?_
               rotate_left
               ·intro w'
                go_simp
                with_reducible rfl
               rotate_left
               ·simp only [Act.put, List.setIfInBounds_toArray, List.set_cons_zero, List.set_cons_succ, i64_w, i32_w]
                rfl
               refine pure_ (i := 16) (N := some 65) (v := ?_) (a' := ?_) #[true, true, true, true, false, true, true, true, true, true, false, true, true, true, true, true, true, false, false, false] rfl rfl (any_of HT_.out (by kernel_rfl)) (fun _ _ _ h => h) (Or.inl ⟨by rfl, ?_⟩) ?_ ?_
               rotate_left
               ·intro w'
                go_simp
                with_reducible rfl
               rotate_left
               ·simp only [Act.put, List.setIfInBounds_toArray, List.set_cons_zero, List.set_cons_succ, i64_w, i32_w]
                rfl
               refine one_ (i := 4) (N := some 53) #[true, true, true, true, true, true, true, true, true, true, false, true, true, true, true, true, true, false, false, false] rfl rfl (one_of HT_.out (by kernel_rfl)) (by decide) (fun K hK => ?_)
               refine goes_ Try.func93 (by kernel_rfl) rfl #[.slice (some ad126) y138.length c0, .int .i64 t137] (by rfl) rfl rfl pwk_ ?_
               with_reducible refine (h0_ k (by omega) _ _ y138 t137 t142 _ ?side1 ?side2 A24.out).mono ?_
               (case side1 => repeat (first | exact (Kd.C_below HR141.out HB.out) | (with_reducible refine Kd.C_alloc ?_ _) | (with_reducible refine Kd.C_drewN ?_ _) | (with_reducible refine Kd.C_drew ?_)))
               (case side2 => exact HC141.out)
               rintro e w38 ⟨rfl, hb⟩
               refine ⟨_, rfl, ?_⟩
               have n0_ := Aside0.mk (below_step pwi_ hb)
               clear HB
               have HB := n0_
               clear n0_
               (try clear hb)
               (try clear hb2)
               (try clear hk)
               (try clear hi)
               refine hK.out _ _ trivial (fun hHeld => ?_)
               clear hK K
               refine norm_ (a' := ?_) ?_ ?_
               rotate_left
               ·show Act.put _ (some 53) _ = _
                simp only [Act.put, List.setIfInBounds_toArray, List.set_cons_zero, List.set_cons_succ, i64_w, i32_w]
                rfl
               refine pure_ (i := 10) (N := some 59) (v := ?_) (a' := ?_) #[true, true, true, true, true, true, true, true, true, true, true, true, true, true, true, true, true, false, false, false] rfl rfl (any_of HT_.out (by kernel_rfl)) (fun _ _ _ h => h) (Or.inl ⟨by rfl, ?_⟩) ?_ ?_
               rotate_left
               ·intro w'
                go_simp
                with_reducible rfl
               rotate_left
               ·simp only [Act.put, List.setIfInBounds_toArray, List.set_cons_zero, List.set_cons_succ, i64_w, i32_w]
                rfl
               refine one_ (i := 17) (N := some 66) #[true, true, true, true, true, true, true, true, true, true, true, true, true, true, true, true, true, true, false, false] rfl rfl (one_of HT_.out (by kernel_rfl)) (by decide) (fun K hK => ?_)
               refine goes_ Try.func93 (by kernel_rfl) rfl #[.slice A37 y143.length c37, .int .i64 (wrap64 (t137 + 1))] (by rfl) rfl rfl pwk_ ?_
               with_reducible refine (h0_ k (by omega) _ _ y143 (wrap64 (t137 + 1)) t147 _ ?side1 ?side2 A32.out).mono ?_
               (case side1 => repeat (first | exact (Kd.C_below HR146.out HB.out) | (with_reducible refine Kd.C_alloc ?_ _) | (with_reducible refine Kd.C_drewN ?_ _) | (with_reducible refine Kd.C_drew ?_)))
               (case side2 => exact HC146.out)
               rintro e w39 ⟨rfl, hb⟩
               refine ⟨_, rfl, ?_⟩
               have n0_ := Aside0.mk (below_step pwi_ hb)
               clear HB
               have HB := n0_
               clear n0_
               (try clear hb)
               (try clear hb2)
               (try clear hk)
               (try clear hi)
               refine hK.out _ _ trivial (fun hHeld => ?_)
               clear hK K
               refine norm_ (a' := ?_) ?_ ?_
               rotate_left
               ·show Act.put _ (some 66) _ = _
                simp only [Act.put, List.setIfInBounds_toArray, List.set_cons_zero, List.set_cons_succ, i64_w, i32_w]
                rfl
               refine pure_ (i := 18) (N := some 67) (v := ?_) (a' := ?_) #[true, true, true, true, true, true, true, true, true, true, true, true, true, true, true, true, true, true, true, false] rfl rfl (any_of HT_.out (by kernel_rfl)) (fun _ _ _ h => h) (Or.inl ⟨by rfl, ?_⟩) ?_ ?_
               rotate_left
               ·intro w'
                go_simp
                with_reducible rfl
               rotate_left
               ·simp only [Act.put, List.setIfInBounds_toArray, List.set_cons_zero, List.set_cons_succ, i64_w, i32_w]
                rfl
               refine pure_ (i := 19) (N := some 2) (v := ?_) (a' := ?_) #[true, true, true, true, true, true, true, true, true, true, true, true, true, true, true, true, true, true, true, true] rfl rfl (any_of HT_.out (by kernel_rfl)) (fun _ _ _ h => h) (Or.inl ⟨by rfl, ?_⟩) ?_ ?_
               rotate_left
               ·intro w'
                go_simp
                with_reducible rfl
               rotate_left
               ·simp only [Act.put, List.setIfInBounds_toArray, List.set_cons_zero, List.set_cons_succ, i64_w, i32_w]
                rfl
               refine done_ (done_of HT_.out (by kernel_rfl)) ?_
               try go_wp2
               go_ret
               exact ⟨by first | rfl | (simp [errW_none, errW_some] <;> rfl) | (simp only [← hji2]; first | rfl | (simp [errW_none, errW_some] <;> rfl)) | (simp [*, errW_none, errW_some] <;> rfl), pwi_⟩
              ·rw [if_neg c33] at H
               exact absurd H (by simp)
             ·rw [if_neg c31] at H
              exact absurd H (by simp)
            ·rw [if_neg c30] at H
             exact absurd H (by simp)
           ·rw [if_neg c28] at H
            exact absurd H (by simp)
          ·rw [if_neg c27] at H
           exact absurd H (by simp)
         ·rw [if_neg c26] at H
          exact absurd H (by simp)
        ·rw [if_neg c25] at H
         exact absurd H (by simp)
       ·rw [if_neg c23] at H
        exact absurd H (by simp)
      ·rw [if_neg c22] at H
       exact absurd H (by simp)
  ·rw [if_neg c4] at H
   exact absurd H (by simp)
 ·rw [if_neg c3] at H
  exact absurd H (by simp)
theorem l2Text_l2Held_c.both (k : Nat) : (∀ (A0 : Option Addr) (c0 : Nat) (l0 : List (S62)) (a1 : Int) (r : ByteArray) (w : World) (hr0 : Kd.C k62 w A0 l0.length l0) (hc0 : l0.length ≤ c0) (h : spec_l2Held.f k l0 a1 = some r),
  Calls Try.prog 93 #[.slice A0 l0.length c0, .int .i64 a1] w fun e w' => e = .returned (.string r) ∧ Below w.heap.size w w') ∧ (∀ (A0 : Option Addr) (c0 : Nat) (l0 : List (S62)) (r : ByteArray) (w : World) (hr0 : Kd.C k62 w A0 l0.length l0) (hc0 : l0.length ≤ c0) (h : spec_l2Text.f k l0 = some r),
  Calls Try.prog 66 #[.slice A0 l0.length c0] w fun e w' => e = .returned (.string r) ∧ Below w.heap.size w w') := by
 induction k using Nat.strongRecOn with
 | _ k ih =>
  exact ⟨spec_l2Held.step k (fun m h => (ih m h).1) (fun m h => (ih m h).2), spec_l2Text.step k (fun m h => (ih m h).1) (fun m h => (ih m h).2)⟩
theorem spec_l2Held.calls (k : Nat) : ∀ (A0 : Option Addr) (c0 : Nat) (l0 : List (S62)) (a1 : Int) (r : ByteArray) (w : World) (hr0 : Kd.C k62 w A0 l0.length l0) (hc0 : l0.length ≤ c0) (h : spec_l2Held.f k l0 a1 = some r),
  Calls Try.prog 93 #[.slice A0 l0.length c0, .int .i64 a1] w fun e w' => e = .returned (.string r) ∧ Below w.heap.size w w' := (l2Text_l2Held_c.both k).1
theorem spec_l2Text.calls (k : Nat) : ∀ (A0 : Option Addr) (c0 : Nat) (l0 : List (S62)) (r : ByteArray) (w : World) (hr0 : Kd.C k62 w A0 l0.length l0) (hc0 : l0.length ≤ c0) (h : spec_l2Text.f k l0 = some r),
  Calls Try.prog 66 #[.slice A0 l0.length c0] w fun e w' => e = .returned (.string r) ∧ Below w.heap.size w w' := (l2Text_l2Held_c.both k).2

/-! ### spec_TermText: function 23 -/
def spec_TermText.f (k : Nat) (a0 : Int) (l1 : List (S62)) : Option (ByteArray) := (spec_TermOk.f k a0 l1).bind fun t148 => (if t148 = true then ((spec_l2Text.f k l1).bind fun t149 => (some t149)) else (some (⟨#[]⟩ : ByteArray)))
theorem spec_TermText.mono : ∀ a0 a1 k, LeO (spec_TermText.f k a0 a1) (spec_TermText.f (k + 1) a0 a1) := by
 intro a0 a1 k
 unfold spec_TermText.f
 repeat' first
   | (with_reducible exact spec_TermOk.mono _ _ _)
   | (with_reducible exact spec_l2Text.mono _ _)
   | (with_reducible exact LeO.refl _)
   | (with_reducible exact LeO.none _)
   | (with_reducible refine LeO.ite ?_ ?_)
   | (with_reducible refine LeO.bind ?_ (fun _ => ?_))
   | exact spec_TermOk.mono _ _ _
   | exact spec_l2Text.mono _ _
   | exact LeO.none _
   | refine LeO.ite ?_ ?_
   | refine LeO.bind ?_ (fun _ => ?_)
set_option maxHeartbeats 8000000 in
set_option maxRecDepth 100000 in
theorem spec_TermText.calls (k : Nat) (a0 : Int) (A1 : Option Addr) (c1 : Nat) (l1 : List (S62)) (r : ByteArray) (w : World) (hr1 : Kd.C k62 w A1 l1.length l1) (hc1 : l1.length ≤ c1) (h : spec_TermText.f k a0 l1 = some r) :
  Calls Try.prog 23 #[.int .i64 a0, .slice A1 l1.length c1] w fun e w' => e = .returned (.string r) ∧ Below w.heap.size w w' := by
 have HR1 := Aside0.mk hr1
 have HC1 := Aside0.mk hc1
 clear hr1 hc1
 have HB := Aside0.mk (Below.refl w.heap.size w)
 have H : ((spec_TermOk.f k a0 l1).bind fun t148 => (if t148 = true then ((spec_l2Text.f k l1).bind fun t149 => (some t149)) else (some (⟨#[]⟩ : ByteArray)))) = some r := h
 clear h
 replace H := Option.bind_eq_some_iff.mp H
 obtain ⟨t148, A30, H⟩ := H
 replace H : (if t148 = true then ((spec_l2Text.f k l1).bind fun t149 => (some t149)) else (some (⟨#[]⟩ : ByteArray))) = some r := H
 have A3 := Aside0.mk A30
 clear A30
 by_cases c4 : t148 = true
 ·subst c4
  have H1 : ((spec_l2Text.f k l1).bind fun t149 => (some t149)) = some r := by rw [if_pos rfl] at H; exact H
  clear H
  have H := H1
  clear H1
  replace H := Option.bind_eq_some_iff.mp H
  obtain ⟨t149, A50, H⟩ := H
  replace H : (some t149) = some r := H
  have A5 := Aside0.mk A50
  clear A50
  obtain rfl := Option.some.inj H
  go_enter Try.func23, Try.ntmps23
  go_wp2_with (first | ((with_reducible refine gate_callee (f := 65) rfl ?_); refine goesL_ (some 7) rfl rfl Try.func65 (by kernel_rfl) rfl #[.int .i64 a0, .slice A1 l1.length c1] rfl pwk_ ?_; (with_reducible refine (spec_TermOk.calls k a0 _ _ l1 true _ ?side1 ?side2 A3.out).mono ?_); (case side1 => repeat (first | exact HR1.out | (with_reducible refine Kd.C_alloc ?_ _) | (with_reducible refine Kd.C_drewN ?_ _) | (with_reducible refine Kd.C_drew ?_))); (case side2 => exact HC1.out); rintro e w' ⟨rfl, ⟨nd, rfl⟩⟩; refine ⟨_, rfl, ?_⟩) | ((with_reducible refine gate_callee (f := 66) rfl ?_); refine goesL_ (some 10) rfl rfl Try.func66 (by kernel_rfl) rfl #[.slice A1 l1.length c1] rfl pwk_ ?_; (with_reducible refine (spec_l2Text.calls k _ _ l1 t149 _ ?side1 ?side2 A5.out).mono ?_); (case side1 => repeat (first | exact HR1.out | (with_reducible refine Kd.C_alloc ?_ _) | (with_reducible refine Kd.C_drewN ?_ _) | (with_reducible refine Kd.C_drew ?_))); (case side2 => exact HC1.out); rintro e w6 ⟨rfl, hb⟩; refine ⟨_, rfl, ?_⟩; have n0_ := Aside0.mk (below_step pwi_ hb); clear HB; have HB := n0_; clear n0_; (try clear hb); (try clear hb2); (try clear hk); (try clear hi)))
  go_ret
  exact ⟨by first | rfl | (simp [errW_none, errW_some] <;> rfl) | (simp [*, errW_none, errW_some] <;> rfl), pwi_⟩
 ·replace c4 := Bool.eq_false_iff.mpr c4
  subst c4
  have H1 : (some (⟨#[]⟩ : ByteArray)) = some r := by rw [if_neg (show ¬ (false = true) by decide)] at H; exact H
  clear H
  have H := H1
  clear H1
  obtain rfl := Option.some.inj H
  go_enter Try.func23, Try.ntmps23
  go_wp2_with (first | ((with_reducible refine gate_callee (f := 65) rfl ?_); refine goesL_ (some 7) rfl rfl Try.func65 (by kernel_rfl) rfl #[.int .i64 a0, .slice A1 l1.length c1] rfl pwk_ ?_; (with_reducible refine (spec_TermOk.calls k a0 _ _ l1 false _ ?side1 ?side2 A3.out).mono ?_); (case side1 => repeat (first | exact HR1.out | (with_reducible refine Kd.C_alloc ?_ _) | (with_reducible refine Kd.C_drewN ?_ _) | (with_reducible refine Kd.C_drew ?_))); (case side2 => exact HC1.out); rintro e w' ⟨rfl, ⟨nd, rfl⟩⟩; refine ⟨_, rfl, ?_⟩))
  go_ret
  exact ⟨by first | rfl | (simp [errW_none, errW_some] <;> rfl) | (simp [*, errW_none, errW_some] <;> rfl), pwi_⟩

/-- A state of type 103 at block g of W; what its slices lead to came in by w0. -/
def IsS103 (w0 W : World) (g : Nat) (f0 : List Int) (f1 : Int) : Prop := ∃ A0 c0, W.heap[g]? = some (.cells #[.slice A0 f0.length c0, .int .i64 f1] 103 (0, 0)) ∧ w0.heap.size ≤ g ∧ Kd.C (Kd.int .u8) w0 A0 f0.length f0
theorem IsS103.grown {w0 W : World} {g : Nat} {f0 : List Int} {f1 : Int} {W1 : World} {row : Option Nat} (h : IsS103 w0 W g f0 f1) (hw : W.grownBy W1 row) (hne : some g ≠ row) : IsS103 w0 W1 g f0 f1 := by
 obtain ⟨A0, c0, hb, hg, hr0⟩ := h
 exact ⟨A0, c0, blk_grown hb hw hne, hg, hr0⟩
theorem IsS103.own_neN {w0 W : World} {g : Nat} {f0 : List Int} {f1 : Int} {α : Type} {d : Kd α} {e : Nat} {base : Nat} {ok : Nat → Prop} {v : Value} {xs : List α} (h : IsS103 w0 W g f0 f1) (ho : Kd.N d e W base ok v xs) (ht : e ≠ 103) : some g ≠ v.ownBlock := by
 obtain ⟨A0, c0, hb, hg, hr0⟩ := h
 exact Kd.N_ne ho hb ht
theorem IsS103.fresh {w0 W : World} {g : Nat} {f0 : List Int} {f1 : Int} (h : IsS103 w0 W g f0 f1) : ∀ k, W.heap.size ≤ k → k ≠ g := by
 obtain ⟨A0, c0, hb, hg, hr0⟩ := h
 exact Kd.freshB hb
theorem IsS103.kept {w0 W : World} {g : Nat} {f0 : List Int} {f1 : Int} {W1 : World} {S : Nat → Prop} (h : IsS103 w0 W g f0 f1) (hk : Kept W W1 S) (hne : ¬ S g) : IsS103 w0 W1 g f0 f1 := by
 obtain ⟨A0, c0, hb, hg, hr0⟩ := h
 exact ⟨A0, c0, blk_kept hb hk hne, hg, hr0⟩
theorem IsS103.below {w0 W : World} {g : Nat} {f0 : List Int} {f1 : Int} {W1 : World} (h : IsS103 w0 W g f0 f1) (hw : Below W.heap.size W W1) : IsS103 w0 W1 g f0 f1 := h.grown (grown_of_below hw none) (by simp)
theorem IsS103.alloc {w0 W : World} {g : Nat} {f0 : List Int} {f1 : Int} (h : IsS103 w0 W g f0 f1) (o : Obj) : IsS103 w0 (W.alloc o) g f0 f1 := h.below (below_alloc (Below.refl _ _) o)
theorem IsS103.drewN {w0 W : World} {g : Nat} {f0 : List Int} {f1 : Int} (h : IsS103 w0 W g f0 f1) (m : Nat) : IsS103 w0 (W.drewN m) g f0 f1 := h
theorem IsS103.drew {w0 W : World} {g : Nat} {f0 : List Int} {f1 : Int} (h : IsS103 w0 W g f0 f1) : IsS103 w0 W.drew g f0 f1 := h
theorem IsS103.at_ {w0 W : World} {g : Nat} {f0 : List Int} {f1 : Int} {w' : World} {m : Nat} (hq : W.drewN m = w') (h : IsS103 w0 W g f0 f1) : IsS103 w0 w' g f0 f1 := by subst hq; exact IsS103.drewN h m
theorem IsS103.apart {w0 W : World} {g : Nat} {f0 : List Int} {f1 : Int} {α : Type} {d : Kd α} {e : Nat} {base : Nat} {ok : Nat → Prop} {v : Value} {xs : List α} (h : IsS103 w0 W g f0 f1) (ho : d.R e W base ok v xs) (ht : ∀ q, q ∈ e :: d.E → q ≠ 103) : d.R e W base (fun k => ok k ∧ k ≠ g) v xs := by
 obtain ⟨A0, c0, hb, hg, hr0⟩ := h
 exact Kd.R_types ho hb ht
theorem IsS103.own_ne {w0 W : World} {g : Nat} {f0 : List Int} {f1 : Int} {α : Type} {d : Kd α} {e : Nat} {base : Nat} {ok : Nat → Prop} {v : Value} {xs : List α} (h : IsS103 w0 W g f0 f1) (ho : d.R e W base ok v xs) (ht : e ≠ 103) : some g ≠ v.ownBlock := by
 obtain ⟨A0, c0, hb, hg, hr0⟩ := h
 exact Kd.R_ne ho hb ht
theorem IsS103.apartQ {w0 W : World} {g : Nat} {f0 : List Int} {f1 : Int} {α : Type} {d : Kd α} {e : Nat} {base : Nat} {ok : Nat → Prop} {v : Value} {xs : List α} (h : IsS103 w0 W g f0 f1) (ho : d.Q e W base ok v xs) (ht : ∀ q, q ∈ e :: d.E → q ≠ 103) : d.Q e W base (fun k => ok k ∧ k ≠ g) v xs := by
 obtain ⟨A0, c0, hb, hg, hr0⟩ := h
 exact Kd.Q_types ho hb ht
theorem IsS103.own_neQ {w0 W : World} {g : Nat} {f0 : List Int} {f1 : Int} {α : Type} {d : Kd α} {e : Nat} {base : Nat} {ok : Nat → Prop} {v : Value} {xs : List α} (h : IsS103 w0 W g f0 f1) (ho : d.Q e W base ok v xs) (ht : e ≠ 103) : some g ≠ v.ownBlock := by
 obtain ⟨A0, c0, hb, hg, hr0⟩ := h
 exact Kd.Q_ne ho hb ht
theorem IsS103.apartS {w0 W : World} {g : Nat} {f0 : List Int} {f1 : Int} {α : Type} {d : Kd α} {e : Nat} {base : Nat} {ok : Nat → Prop} {v : Value} {xs : List α} (h : IsS103 w0 W g f0 f1) (ho : d.S e W base ok v xs) (ht : ∀ q, q ∈ e :: d.E → q ≠ 103) : d.S e W base (fun k => ok k ∧ k ≠ g) v xs := by
 obtain ⟨A0, c0, hb, hg, hr0⟩ := h
 exact Kd.S_types ho hb ht
theorem IsS103.own_neS {w0 W : World} {g : Nat} {f0 : List Int} {f1 : Int} {α : Type} {d : Kd α} {e : Nat} {base : Nat} {ok : Nat → Prop} {v : Value} {xs : List α} (h : IsS103 w0 W g f0 f1) (ho : d.S e W base ok v xs) (ht : e ≠ 103) : some g ≠ v.ownBlock := by
 obtain ⟨A0, c0, hb, hg, hr0⟩ := h
 exact Kd.S_ne ho hb ht
theorem IsS103.lt {w0 W : World} {g : Nat} {f0 : List Int} {f1 : Int} (h : IsS103 w0 W g f0 f1) : g < W.heap.size := by
 obtain ⟨A0, c0, hb, hg, hr0⟩ := h
 exact blk_lt hb
theorem IsS103.ge {w0 W : World} {g : Nat} {f0 : List Int} {f1 : Int} (h : IsS103 w0 W g f0 f1) : w0.heap.size ≤ g := by
 obtain ⟨A0, c0, hb, hg, hr0⟩ := h
 exact hg
theorem IsS103.ne_blk {w0 W : World} {g : Nat} {f0 : List Int} {f1 : Int} {a : Nat} {cs : Array Value} {t : TypeId} {fr : Nat × Nat} (h : IsS103 w0 W g f0 f1) (hb2 : W.heap[a]? = some (.cells cs t fr)) (ht : t ≠ 103) : g ≠ a := by
 obtain ⟨A0, c0, hb, hg, hr0⟩ := h
 rintro rfl
 rw [hb] at hb2
 injection hb2 with hb2
 injection hb2 with _ ht2
 exact ht ht2.symm
theorem IsS103.far {w0 W : World} {g : Nat} {f0 : List Int} {f1 : Int} {p : Addr} (h : IsS103 w0 W g f0 f1) (hne : g ≠ p.block) (u : Value) : IsS103 w0 (W.setCell p u) g f0 f1 := by
 obtain ⟨A0, c0, hb, hg, hr0⟩ := h
 exact ⟨A0, c0, blk_far hb hne u, hg, hr0⟩
theorem cellS103_0 {W : World} {g : Nat} {A0 : Option Addr} {c0 : Nat} {f0 : List Int} {f1 : Int} (h : W.heap[g]? = some (.cells #[.slice A0 f0.length c0, .int .i64 f1] 103 (0, 0))) : W.cell? ⟨g, 0, none⟩ = some (.slice A0 f0.length c0) := (blk_cell h 0).trans rfl
theorem cellS103_1 {W : World} {g : Nat} {A0 : Option Addr} {c0 : Nat} {f0 : List Int} {f1 : Int} (h : W.heap[g]? = some (.cells #[.slice A0 f0.length c0, .int .i64 f1] 103 (0, 0))) : W.cell? ⟨g, 1, none⟩ = some (.int .i64 f1) := (blk_cell h 1).trans rfl
theorem IsS103.set_1 {w0 W : World} {g : Nat} {f0 : List Int} {f1 : Int} (h : IsS103 w0 W g f0 f1) (x : Int) : IsS103 w0 (W.setCell ⟨g, 1, none⟩ (.int .i64 x)) g f0 x := by
 obtain ⟨A0, c0, hb, hg, hr0⟩ := h
 exact ⟨A0, c0, by simpa using blk_set hb 1 (.int .i64 x), hg, hr0⟩
theorem IsS103.new (w0 W : World) (A0 : Option Addr) (c0 : Nat) (f0 : List Int) (f1 : Int) (hB : Below w0.heap.size w0 W) (hr0 : Kd.C (Kd.int .u8) w0 A0 f0.length f0) : IsS103 w0 (W.alloc (.cells #[.slice A0 f0.length c0, .int .i64 f1] 103)) W.heap.size f0 f1 := ⟨A0, c0, by simpa using heap_alloc_new W _, hB.size, hr0⟩

/-! ### spec_l20Open: function 59 -/
def spec_l20Open.f (l0 : List Int) : Option (List Int × Int) := if (l0.length : Int) > 2000 then (if 2000 ≤ (l0.length : Int) then (some (l0.take 2000, 0)) else (none)) else (some (l0, 0))
set_option maxHeartbeats 8000000 in
set_option maxRecDepth 100000 in
theorem spec_l20Open.calls (A0 : Option Addr) (c0 : Nat) (l0 : List Int) (r1 : List Int) (r2 : Int) (w0 w : World) (hB : Below w0.heap.size w0 w) (hr0 : Kd.C (Kd.int .u8) w0 A0 l0.length l0) (hc0 : l0.length ≤ c0) (h : spec_l20Open.f l0 = some (r1, r2)) :
  Calls Try.prog 59 #[.slice A0 l0.length c0] w fun e w' => ∃ g_ : Nat, e = .returned (.pointer (some ⟨g_, 0, none⟩)) ∧ IsS103 w0 w' g_ r1 r2 ∧ Below w0.heap.size w0 w' ∧ Below w.heap.size w w' := by
 have hu103 := Try.underlying103
 have HR0 := Aside0.mk hr0
 have HC0 := Aside0.mk hc0
 clear hr0 hc0
 have HBW := Aside0.mk (Below.refl w.heap.size w)
 have HW0 := Aside0.mk hB.size
 have HB := Aside0.mk hB
 clear hB
 have H : (if (l0.length : Int) > 2000 then (if 2000 ≤ (l0.length : Int) then (some (l0.take 2000, 0)) else (none)) else (some (l0, 0))) = some (r1, r2) := h
 clear h
 by_cases c2 : (l0.length : Int) > 2000
 ·rw [if_pos c2] at H
  have c2b0 : decide (2000 < (l0.length : Int)) = true := decide_eq_true c2
  have c2b1 : decide (2000 < l0.length) = true := decide_eq_true (by omega)
  clear c2
  by_cases c3 : 2000 ≤ (l0.length : Int)
  ·rw [if_pos c3] at H
   have c3b0 := eq_true c3
   have c3b1 : decide (2000 ≤ (l0.length : Int)) = true := decide_eq_true c3
   clear c3
   simp only [Option.some.injEq, Prod.mk.injEq] at H
   obtain ⟨rfl, rfl⟩ := H
   obtain ⟨i04, hi04, _, hsz4, _⟩ := info_parts info5
   obtain ⟨hcut4, hA4, hC4⟩ := print_take_of (P := Try.prog) (Value.int .u8) 0 22 5 .i64 Try.underlying22 hi04 hsz4 A0 c0 l0 2000 (by omega) (of_decide_eq_true pwb_) HC0.out
   have HR150 := Aside0.mk (Kd.C_of_reads (h1 := fun _ => rfl) (hA4 _ (Kd.reads_of_C HR0.out)))
   have HC150 := Aside0.mk hC4
   clear hA4 hC4 hi04 hsz4
   go_enter Try.func59, Try.ntmps59
   go_wp2_with (first | ((with_reducible refine gate_dst (N := 10) rfl ?_); refine box_event ?hg (N := 10) ?hd (cs := #[.slice A0 (l0.take 2000).length c0, .int .i64 0]) (t := 103) ?hr ?_; (case hd => rfl); (case hg => rfl); (case hr => first | (go_simp; done) | (go_simp; rfl)); intro gb151 hg w5 hbox hb; have n0_ := Aside0.mk (below_step HBW.out hb); have n1_ := Aside0.mk (below_step pwi_ hb); have n2_ := Aside0.mk (hbox); have n3_ := Aside0.mk ((by rw [hg]; exact (below_size pwj_) : w.heap.size ≤ gb151)); have n4_ := Aside0.mk ((Nat.le_trans HW0.out (by rw [hg]; exact (below_size pwj_) : w.heap.size ≤ gb151) : w0.heap.size ≤ gb151)); clear HBW; clear HB; have HBW := n0_; have HB := n1_; have BK151 := n2_; have GW151 := n3_; have GE151 := n4_; clear n0_ n1_ n2_ n3_ n4_; clear hb hbox hg))
   go_ret
   exact ⟨_, rfl, (show IsS103 w0 _ gb151 (l0.take 2000) 0 from ⟨_, _, by (with_reducible repeat (first | refine blk_drewN ?_ _ | refine blk_drew ?_ | refine blk_alloc ?_ _)); exact BK151.out, GE151.out, HR150.out⟩), by repeat (first | (with_reducible first | exact HB.out | apply below_alloc | apply pw_below_drewN | apply below_drew1 | refine below_set ?_ GE151.out) | exact HB.out), by repeat (first | (with_reducible first | exact HBW.out | apply below_alloc | apply pw_below_drewN | apply below_drew1 | refine below_set ?_ GW151.out) | exact HBW.out)⟩
  ·rw [if_neg c3] at H
   exact absurd H (by simp)
 ·rw [if_neg c2] at H
  have c2b0 : decide (2000 < (l0.length : Int)) = false := decide_eq_false c2
  have c2b1 : decide (2000 < l0.length) = false := decide_eq_false (by omega)
  clear c2
  simp only [Option.some.injEq, Prod.mk.injEq] at H
  obtain ⟨rfl, rfl⟩ := H
  go_enter Try.func59, Try.ntmps59
  go_wp2_with (first | ((with_reducible refine gate_dst (N := 10) rfl ?_); refine box_event ?hg (N := 10) ?hd (cs := #[.slice A0 l0.length c0, .int .i64 0]) (t := 103) ?hr ?_; (case hd => rfl); (case hg => rfl); (case hr => first | (go_simp; done) | (go_simp; rfl)); intro gb152 hg w6 hbox hb; have n0_ := Aside0.mk (below_step HBW.out hb); have n1_ := Aside0.mk (below_step pwi_ hb); have n2_ := Aside0.mk (hbox); have n3_ := Aside0.mk ((by rw [hg]; exact (below_size pwj_) : w.heap.size ≤ gb152)); have n4_ := Aside0.mk ((Nat.le_trans HW0.out (by rw [hg]; exact (below_size pwj_) : w.heap.size ≤ gb152) : w0.heap.size ≤ gb152)); clear HBW; clear HB; have HBW := n0_; have HB := n1_; have BK152 := n2_; have GW152 := n3_; have GE152 := n4_; clear n0_ n1_ n2_ n3_ n4_; clear hb hbox hg))
  go_ret
  exact ⟨_, rfl, (show IsS103 w0 _ gb152 l0 0 from ⟨_, _, by (with_reducible repeat (first | refine blk_drewN ?_ _ | refine blk_drew ?_ | refine blk_alloc ?_ _)); exact BK152.out, GE152.out, HR0.out⟩), by repeat (first | (with_reducible first | exact HB.out | apply below_alloc | apply pw_below_drewN | apply below_drew1 | refine below_set ?_ GE152.out) | exact HB.out), by repeat (first | (with_reducible first | exact HBW.out | apply below_alloc | apply pw_below_drewN | apply below_drew1 | refine below_set ?_ GW152.out) | exact HBW.out)⟩

end Go.Proofs.Ytfhmafmfaoknlaa.PFnReadTerm
