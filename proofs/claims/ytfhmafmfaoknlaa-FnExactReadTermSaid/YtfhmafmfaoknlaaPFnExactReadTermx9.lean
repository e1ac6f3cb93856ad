-- Made by a program of this session (wip/tools/patchprint.py), not by the kit itself.
import Derived.Test.YtfhmafmfaoknlaaPFnExactReadTermx0
import Derived.Test.YtfhmafmfaoknlaaPFnExactReadTermx6
import Derived.Test.YtfhmafmfaoknlaaPFnExactReadTermx7
import Derived.Test.YtfhmafmfaoknlaaPFnExactReadTermx8
namespace Go.Proofs.Ytfhmafmfaoknlaa.PFnExactReadTerm
open Go.RowKit Go.Proofs.YtfhmafmfaoknlaaW.PrintWords Go.Proofs.YtfhmafmfaoknlaaW.PrintLast Go.Proofs.YtfhmafmfaoknlaaW.PrintMore
attribute [local go_sem] max2_int min2_int max_two min_two max_three min_three max_four min_four   -- for this text's walks alone
set_option linter.unusedVariables false
set_option linter.unusedSimpArgs false

attribute [local go_sem] setCell_isSome

/-! ### spec_l2Held, spec_l2Text, which call each other -/
mutual
def spec_l2Held.f : Nat → List (S62) → Int → Option (ByteArray)
 | 0, _, _ => none
 | k + 1, l0, a1 => (spec_l2Binds.f l0).bind fun t342 => (if t342 < a1 then ((spec_l2Text.f k l0).bind fun t343 => (if 1 + t343.size ≤ 9223372036854775807 then (if ((⟨#[40]⟩ : ByteArray) ++ t343).size + 1 ≤ 9223372036854775807 then (some (((⟨#[40]⟩ : ByteArray) ++ t343) ++ (⟨#[41]⟩ : ByteArray))) else (none)) else (none))) else ((spec_l2Text.f k l0).bind fun t344 => (some t344)))
def spec_l2Text.f : Nat → List (S62) → Option (ByteArray)
 | 0, _ => none
 | k + 1, l0 => if 0 ≤ (wrap64 ((l0.length : Int) - 1)) then (if (wrap64 ((l0.length : Int) - 1)) < (l0.length : Int) then (if ((rd_T62 l0 (wrap64 ((l0.length : Int) - 1))).f0) = 0 then (if 0 ≤ ((rd_T62 l0 (wrap64 ((l0.length : Int) - 1))).f1) then (if ((rd_T62 l0 (wrap64 ((l0.length : Int) - 1))).f1) ≤ (wrap64 (((rd_T62 l0 (wrap64 ((l0.length : Int) - 1))).f1) + 1)) then (if (wrap64 (((rd_T62 l0 (wrap64 ((l0.length : Int) - 1))).f1) + 1)) ≤ 4 then (some ((⟨#[97, 98, 99, 100]⟩ : ByteArray).extract (((rd_T62 l0 (wrap64 ((l0.length : Int) - 1))).f1) : Int).toNat ((wrap64 (((rd_T62 l0 (wrap64 ((l0.length : Int) - 1))).f1) + 1)) : Int).toNat)) else (none)) else (none)) else (none)) else (if ((rd_T62 l0 (wrap64 ((l0.length : Int) - 1))).f0) = 1 then ((spec_l1Number.f k ((rd_T62 l0 (wrap64 ((l0.length : Int) - 1))).f1)).bind fun t351 => (some t351)) else (if ((rd_T62 l0 (wrap64 ((l0.length : Int) - 1))).f0) = 2 then (if (wrap64 ((l0.length : Int) - 1)) ≤ (l0.length : Int) then ((spec_l2Held.f k (l0.take ((wrap64 ((l0.length : Int) - 1)) : Int).toNat) 3).bind fun t356 => (if 1 + t356.size ≤ 9223372036854775807 then (some ((⟨#[33]⟩ : ByteArray) ++ t356)) else (none))) else (none)) else ((spec_l2Starts.f k l0 (wrap64 ((wrap64 ((l0.length : Int) - 1)) - 1))).bind fun t357 => ((spec_l2Binds.f l0).bind fun t358 => (if 0 ≤ t357 then (if t357 ≤ (l0.length : Int) then ((spec_l2Held.f k (l0.take (t357 : Int).toNat) t358).bind fun t363 => (if 0 ≤ (wrap64 (2 - t358)) then (if (wrap64 (2 - t358)) ≤ (wrap64 (3 - t358)) then (if (wrap64 (3 - t358)) ≤ 3 then (if t363.size + ((⟨#[38, 124, 61]⟩ : ByteArray).extract ((wrap64 (2 - t358)) : Int).toNat ((wrap64 (3 - t358)) : Int).toNat).size ≤ 9223372036854775807 then (if t357 ≤ (wrap64 ((l0.length : Int) - 1)) then (if (wrap64 ((l0.length : Int) - 1)) ≤ (l0.length : Int) then ((spec_l2Held.f k ((l0.take ((wrap64 ((l0.length : Int) - 1)) : Int).toNat).drop (t357 : Int).toNat) (wrap64 (t358 + 1))).bind fun t368 => (if (t363 ++ ((⟨#[38, 124, 61]⟩ : ByteArray).extract ((wrap64 (2 - t358)) : Int).toNat ((wrap64 (3 - t358)) : Int).toNat)).size + t368.size ≤ 9223372036854775807 then (some ((t363 ++ ((⟨#[38, 124, 61]⟩ : ByteArray).extract ((wrap64 (2 - t358)) : Int).toNat ((wrap64 (3 - t358)) : Int).toNat)) ++ t368)) else (none))) else (none)) else (none)) else (none)) else (none)) else (none)) else (none))) else (none)) else (none))))))) else (none)) else (none)
end
theorem l2Text_l2Held_c.mono_l : ∀ k, ((∀ y0 y1, LeO (spec_l2Held.f k y0 y1) (spec_l2Held.f (k + 1) y0 y1))) ∧ ((∀ y0, LeO (spec_l2Text.f k y0) (spec_l2Text.f (k + 1) y0)))
 | 0 => ⟨fun _ _ r h => by simp [spec_l2Held.f] at h, fun _ r h => by simp [spec_l2Text.f] at h⟩
 | k + 1 => by
  obtain ⟨g0_, g1_⟩ := l2Text_l2Held_c.mono_l k
  refine ⟨?_, ?_⟩
  case refine_1 =>
   have ih0 := g0_
   ·intro y0 y1
    unfold spec_l2Held.f
    repeat' first
    | (with_reducible exact ih0 _ _)
    | (with_reducible exact g1_ _)
    | (with_reducible exact LeO.refl _)
    | (with_reducible exact LeO.none _)
    | (with_reducible refine LeO.ite ?_ ?_)
    | (with_reducible refine LeO.bind ?_ (fun _ => ?_))
    | exact ih0 _ _
    | exact g1_ _
    | exact LeO.none _
    | refine LeO.ite ?_ ?_
    | refine LeO.bind ?_ (fun _ => ?_)
  case refine_2 =>
   have ih0 := g1_
   ·intro y0
    unfold spec_l2Text.f
    repeat' first
    | (with_reducible exact ih0 _)
    | (with_reducible exact spec_l1Number.mono _ _)
    | (with_reducible exact g0_ _ _)
    | (with_reducible exact spec_l2Starts.mono _ _ _)
    | (with_reducible exact LeO.refl _)
    | (with_reducible exact LeO.none _)
    | (with_reducible refine LeO.ite ?_ ?_)
    | (with_reducible refine LeO.bind ?_ (fun _ => ?_))
    | exact ih0 _
    | exact spec_l1Number.mono _ _
    | exact g0_ _ _
    | exact spec_l2Starts.mono _ _ _
    | exact LeO.none _
    | refine LeO.ite ?_ ?_
    | refine LeO.bind ?_ (fun _ => ?_)
theorem spec_l2Held.mono : ∀ a0 a1 k, LeO (spec_l2Held.f k a0 a1) (spec_l2Held.f (k + 1) a0 a1) := by
 intro a0 a1 k
 have ih0 := (l2Text_l2Held_c.mono_l k).1
 exact ih0 a0 a1
theorem spec_l2Text.mono : ∀ a0 k, LeO (spec_l2Text.f k a0) (spec_l2Text.f (k + 1) a0) := by
 intro a0 k
 have ih0 := (l2Text_l2Held_c.mono_l k).2
 exact ih0 a0
def spec_l2Text.T4 : Bool × List (List Nat × List Nat) := (true, [([], []), ([], []), ([0, 1], [0, 1]), ([2], [2]), ([3], [3]), ([], []), ([], []), ([5, 6], [5, 6]), ([7], [7]), ([8], [8]), ([9], [9]), ([4, 10], [4, 10]), ([11, 0, 1, 2, 3, 4, 5, 6, 7, 8, 9, 10, 11], [11])])
def spec_l2Text.B4 : List Nat := [0, 0, 3, 7, 15, 0, 0, 96, 224, 480, 992, 2047, 4095]
theorem spec_l2Text.tab4 : rtab .any (opsOf Try.f66 4) = spec_l2Text.T4 := by kernel_rfl
theorem spec_l2Text.bits4 : waitsOk spec_l2Text.T4.2 spec_l2Text.B4 = true := by kernel_rfl
def spec_l2Text.T11 : Bool × List (List Nat × List Nat) := (true, [([], []), ([], []), ([0, 1], [0, 1]), ([], []), ([2, 3], [2, 3]), ([], []), ([5], [5]), ([], []), ([7], [7]), ([6, 8], [6, 8]), ([4, 9], [4, 9]), ([], []), ([], []), ([], []), ([11, 12, 13], [11, 12, 13]), ([], []), ([15], [15]), ([14, 16, 4], [14, 16]), ([10, 17], [10, 17]), ([18, 17, 0, 1, 2, 3, 4, 5, 6, 7, 8, 9, 10, 11, 12, 13, 14, 15, 16, 17, 18], [18])])
def spec_l2Text.B11 : List Nat := [0, 0, 3, 0, 15, 0, 32, 0, 128, 480, 1023, 0, 0, 0, 14336, 0, 32768, 129055, 262143, 524287]
theorem spec_l2Text.tab11 : rtab .any (opsOf Try.f66 11) = spec_l2Text.T11 := by kernel_rfl
theorem spec_l2Text.bits11 : waitsOk spec_l2Text.T11.2 spec_l2Text.B11 = true := by kernel_rfl
set_option maxHeartbeats 8000000 in
set_option maxRecDepth 100000 in
theorem spec_l2Held.step (k : Nat) (h0_ : ∀ m_, m_ < k → ∀ (A0 : Option Addr) (c0 : Nat) (l0 : List (S62)) (a1 : Int) (r : ByteArray) (w : World) (hr0 : Kd.C k62 w A0 l0.length l0) (hc0 : l0.length ≤ c0) (h : spec_l2Held.f m_ l0 a1 = some r),
  Calls Try.prog 93 #[.slice A0 l0.length c0, .int .i64 a1] w fun e w' => e = .returned (.string r) ∧ Below w.heap.size w w') (h1_ : ∀ m_, m_ < k → ∀ (A0 : Option Addr) (c0 : Nat) (l0 : List (S62)) (r : ByteArray) (w : World) (hr0 : Kd.C k62 w A0 l0.length l0) (hc0 : l0.length ≤ c0) (h : spec_l2Text.f m_ l0 = some r),
  Calls Try.prog 66 #[.slice A0 l0.length c0] w fun e w' => e = .returned (.string r) ∧ Below w.heap.size w w') : ∀ (A0 : Option Addr) (c0 : Nat) (l0 : List (S62)) (a1 : Int) (r : ByteArray) (w : World) (hr0 : Kd.C k62 w A0 l0.length l0) (hc0 : l0.length ≤ c0) (h : spec_l2Held.f k l0 a1 = some r),
  Calls Try.prog 93 #[.slice A0 l0.length c0, .int .i64 a1] w fun e w' => e = .returned (.string r) ∧ Below w.heap.size w w' := by
 have ih := h0_
 intro A0 c0 l0 a1 r w hr0 hc0 h
 cases k with
 | zero => exact absurd h (by simp [spec_l2Held.f])
 | succ k =>
 simp only [spec_l2Held.f] at h
 have HR0 := Aside0.mk hr0
 have HC0 := Aside0.mk hc0
 clear hr0 hc0
 have HB := Aside0.mk (Below.refl w.heap.size w)
 have H : ((spec_l2Binds.f l0).bind fun t342 => (if t342 < a1 then ((spec_l2Text.f k l0).bind fun t343 => (if 1 + t343.size ≤ 9223372036854775807 then (if ((⟨#[40]⟩ : ByteArray) ++ t343).size + 1 ≤ 9223372036854775807 then (some (((⟨#[40]⟩ : ByteArray) ++ t343) ++ (⟨#[41]⟩ : ByteArray))) else (none)) else (none))) else ((spec_l2Text.f k l0).bind fun t344 => (some t344)))) = some r := h
 clear h
 replace H := Option.bind_eq_some_iff.mp H
 obtain ⟨t342, A30, H⟩ := H
 replace H : (if t342 < a1 then ((spec_l2Text.f k l0).bind fun t343 => (if 1 + t343.size ≤ 9223372036854775807 then (if ((⟨#[40]⟩ : ByteArray) ++ t343).size + 1 ≤ 9223372036854775807 then (some (((⟨#[40]⟩ : ByteArray) ++ t343) ++ (⟨#[41]⟩ : ByteArray))) else (none)) else (none))) else ((spec_l2Text.f k l0).bind fun t344 => (some t344))) = some r := H
 have A3 := Aside0.mk A30
 clear A30
 by_cases c4 : t342 < a1
 ·rw [if_pos c4] at H
  have c4b0 : decide (t342 < a1) = true := decide_eq_true c4
  clear c4
  replace H := Option.bind_eq_some_iff.mp H
  obtain ⟨t343, A50, H⟩ := H
  replace H : (if 1 + t343.size ≤ 9223372036854775807 then (if ((⟨#[40]⟩ : ByteArray) ++ t343).size + 1 ≤ 9223372036854775807 then (some (((⟨#[40]⟩ : ByteArray) ++ t343) ++ (⟨#[41]⟩ : ByteArray))) else (none)) else (none)) = some r := H
  have A5 := Aside0.mk A50
  clear A50
  by_cases c6 : 1 + t343.size ≤ 9223372036854775807
  ·rw [if_pos c6] at H
   have c6b0 := eq_true c6
   have c6b1 : decide (1 + t343.size ≤ 9223372036854775807) = true := decide_eq_true c6
   try have c6b2 : (9223372036854775807 < 1 + t343.size) = False := eq_false (Nat.not_lt.2 c6)
   by_cases c7 : ((⟨#[40]⟩ : ByteArray) ++ t343).size + 1 ≤ 9223372036854775807
   ·rw [if_pos c7] at H
    have c7b0 := eq_true c7
    have c7b1 : decide (((⟨#[40]⟩ : ByteArray) ++ t343).size + 1 ≤ 9223372036854775807) = true := decide_eq_true c7
    try have c7b2 : (9223372036854775807 < ((⟨#[40]⟩ : ByteArray) ++ t343).size + 1) = False := eq_false (Nat.not_lt.2 c7)
    try have c7b3 : (9223372036854775807 < 1 + t343.size + 1) = False := eq_false (by have z_ := c7; simp only [ByteArray.size_append] at z_; have e0_ : (⟨#[40]⟩ : ByteArray).size = 1 := rfl; omega)
    obtain rfl := Option.some.inj H
    go_enter Try.func93, Try.ntmps93
    go_wp2_with (first | ((with_reducible refine gate_callee (f := 95) rfl ?_); refine goesL_ (some 6) rfl rfl Try.func95 (by kernel_rfl) rfl #[.slice A0 l0.length c0] rfl pwh_ ?_; (with_reducible refine (spec_l2Binds.calls _ _ l0 t342 _ ?side1 ?side2 A3.out).mono ?_); (case side1 => repeat (first | exact HR0.out | (with_reducible refine Kd.C_alloc ?_ _) | (with_reducible refine Kd.C_drewN ?_ _) | (with_reducible refine Kd.C_drew ?_))); (case side2 => exact HC0.out); rintro e w8 ⟨rfl, hb⟩; refine ⟨_, rfl, ?_⟩; have n0_ := Aside0.mk (below_step pwg_ hb); clear HB; have HB := n0_; clear n0_; (try clear hb); (try clear hb2); (try clear hk); (try clear hi)) | ((with_reducible refine gate_callee (f := 66) rfl ?_); refine goesL_ (some 10) rfl rfl Try.func66 (by kernel_rfl) rfl #[.slice A0 l0.length c0] rfl pwh_ ?_; (with_reducible refine (h1_ k (by omega) _ _ l0 t343 _ ?side1 ?side2 A5.out).mono ?_); (case side1 => repeat (first | exact (Kd.C_below HR0.out HB.out) | (with_reducible refine Kd.C_alloc ?_ _) | (with_reducible refine Kd.C_drewN ?_ _) | (with_reducible refine Kd.C_drew ?_))); (case side2 => exact HC0.out); rintro e w9 ⟨rfl, hb⟩; refine ⟨_, rfl, ?_⟩; have n0_ := Aside0.mk (below_step pwg_ hb); clear HB; have HB := n0_; clear n0_; (try clear hb); (try clear hb2); (try clear hk); (try clear hi)))
    go_ret
    exact ⟨by first | rfl | (simp [errW_none, errW_some] <;> rfl) | (simp [*, errW_none, errW_some] <;> rfl), pwg_⟩
   ·rw [if_neg c7] at H
    exact absurd H (by simp)
  ·rw [if_neg c6] at H
   exact absurd H (by simp)
 ·rw [if_neg c4] at H
  have c4b0 : decide (t342 < a1) = false := decide_eq_false c4
  clear c4
  replace H := Option.bind_eq_some_iff.mp H
  obtain ⟨t344, A100, H⟩ := H
  replace H : (some t344) = some r := H
  have A10 := Aside0.mk A100
  clear A100
  obtain rfl := Option.some.inj H
  go_enter Try.func93, Try.ntmps93
  go_wp2_with (first | ((with_reducible refine gate_callee (f := 95) rfl ?_); refine goesL_ (some 6) rfl rfl Try.func95 (by kernel_rfl) rfl #[.slice A0 l0.length c0] rfl pwh_ ?_; (with_reducible refine (spec_l2Binds.calls _ _ l0 t342 _ ?side1 ?side2 A3.out).mono ?_); (case side1 => repeat (first | exact HR0.out | (with_reducible refine Kd.C_alloc ?_ _) | (with_reducible refine Kd.C_drewN ?_ _) | (with_reducible refine Kd.C_drew ?_))); (case side2 => exact HC0.out); rintro e w11 ⟨rfl, hb⟩; refine ⟨_, rfl, ?_⟩; have n0_ := Aside0.mk (below_step pwg_ hb); clear HB; have HB := n0_; clear n0_; (try clear hb); (try clear hb2); (try clear hk); (try clear hi)) | ((with_reducible refine gate_callee (f := 66) rfl ?_); refine goesL_ (some 14) rfl rfl Try.func66 (by kernel_rfl) rfl #[.slice A0 l0.length c0] rfl pwh_ ?_; (with_reducible refine (h1_ k (by omega) _ _ l0 t344 _ ?side1 ?side2 A10.out).mono ?_); (case side1 => repeat (first | exact (Kd.C_below HR0.out HB.out) | (with_reducible refine Kd.C_alloc ?_ _) | (with_reducible refine Kd.C_drewN ?_ _) | (with_reducible refine Kd.C_drew ?_))); (case side2 => exact HC0.out); rintro e w12 ⟨rfl, hb⟩; refine ⟨_, rfl, ?_⟩; have n0_ := Aside0.mk (below_step pwg_ hb); clear HB; have HB := n0_; clear n0_; (try clear hb); (try clear hb2); (try clear hk); (try clear hi)))
  go_ret
  exact ⟨by first | rfl | (simp [errW_none, errW_some] <;> rfl) | (simp [*, errW_none, errW_some] <;> rfl), pwg_⟩
set_option maxHeartbeats 8000000 in
set_option maxRecDepth 100000 in
theorem spec_l2Text.step (k : Nat) (h0_ : ∀ m_, m_ < k → ∀ (A0 : Option Addr) (c0 : Nat) (l0 : List (S62)) (a1 : Int) (r : ByteArray) (w : World) (hr0 : Kd.C k62 w A0 l0.length l0) (hc0 : l0.length ≤ c0) (h : spec_l2Held.f m_ l0 a1 = some r),
  Calls Try.prog 93 #[.slice A0 l0.length c0, .int .i64 a1] w fun e w' => e = .returned (.string r) ∧ Below w.heap.size w w') (h1_ : ∀ m_, m_ < k → ∀ (A0 : Option Addr) (c0 : Nat) (l0 : List (S62)) (r : ByteArray) (w : World) (hr0 : Kd.C k62 w A0 l0.length l0) (hc0 : l0.length ≤ c0) (h : spec_l2Text.f m_ l0 = some r),
  Calls Try.prog 66 #[.slice A0 l0.length c0] w fun e w' => e = .returned (.string r) ∧ Below w.heap.size w w') : ∀ (A0 : Option Addr) (c0 : Nat) (l0 : List (S62)) (r : ByteArray) (w : World) (hr0 : Kd.C k62 w A0 l0.length l0) (hc0 : l0.length ≤ c0) (h : spec_l2Text.f k l0 = some r),
  Calls Try.prog 66 #[.slice A0 l0.length c0] w fun e w' => e = .returned (.string r) ∧ Below w.heap.size w w' := by
 have ih := h1_
 intro A0 c0 l0 r w hr0 hc0 h
 cases k with
 | zero => exact absurd h (by simp [spec_l2Text.f])
 | succ k =>
 simp only [spec_l2Text.f] at h
 have HR0 := Aside0.mk hr0
 have HC0 := Aside0.mk hc0
 clear hr0 hc0
 have HB := Aside0.mk (Below.refl w.heap.size w)
 have H : (if 0 ≤ (wrap64 ((l0.length : Int) - 1)) then (if (wrap64 ((l0.length : Int) - 1)) < (l0.length : Int) then (if ((rd_T62 l0 (wrap64 ((l0.length : Int) - 1))).f0) = 0 then (if 0 ≤ ((rd_T62 l0 (wrap64 ((l0.length : Int) - 1))).f1) then (if ((rd_T62 l0 (wrap64 ((l0.length : Int) - 1))).f1) ≤ (wrap64 (((rd_T62 l0 (wrap64 ((l0.length : Int) - 1))).f1) + 1)) then (if (wrap64 (((rd_T62 l0 (wrap64 ((l0.length : Int) - 1))).f1) + 1)) ≤ 4 then (some ((⟨#[97, 98, 99, 100]⟩ : ByteArray).extract (((rd_T62 l0 (wrap64 ((l0.length : Int) - 1))).f1) : Int).toNat ((wrap64 (((rd_T62 l0 (wrap64 ((l0.length : Int) - 1))).f1) + 1)) : Int).toNat)) else (none)) else (none)) else (none)) else (if ((rd_T62 l0 (wrap64 ((l0.length : Int) - 1))).f0) = 1 then ((spec_l1Number.f k ((rd_T62 l0 (wrap64 ((l0.length : Int) - 1))).f1)).bind fun t351 => (some t351)) else (if ((rd_T62 l0 (wrap64 ((l0.length : Int) - 1))).f0) = 2 then (if (wrap64 ((l0.length : Int) - 1)) ≤ (l0.length : Int) then ((spec_l2Held.f k (l0.take ((wrap64 ((l0.length : Int) - 1)) : Int).toNat) 3).bind fun t356 => (if 1 + t356.size ≤ 9223372036854775807 then (some ((⟨#[33]⟩ : ByteArray) ++ t356)) else (none))) else (none)) else ((spec_l2Starts.f k l0 (wrap64 ((wrap64 ((l0.length : Int) - 1)) - 1))).bind fun t357 => ((spec_l2Binds.f l0).bind fun t358 => (if 0 ≤ t357 then (if t357 ≤ (l0.length : Int) then ((spec_l2Held.f k (l0.take (t357 : Int).toNat) t358).bind fun t363 => (if 0 ≤ (wrap64 (2 - t358)) then (if (wrap64 (2 - t358)) ≤ (wrap64 (3 - t358)) then (if (wrap64 (3 - t358)) ≤ 3 then (if t363.size + ((⟨#[38, 124, 61]⟩ : ByteArray).extract ((wrap64 (2 - t358)) : Int).toNat ((wrap64 (3 - t358)) : Int).toNat).size ≤ 9223372036854775807 then (if t357 ≤ (wrap64 ((l0.length : Int) - 1)) then (if (wrap64 ((l0.length : Int) - 1)) ≤ (l0.length : Int) then ((spec_l2Held.f k ((l0.take ((wrap64 ((l0.length : Int) - 1)) : Int).toNat).drop (t357 : Int).toNat) (wrap64 (t358 + 1))).bind fun t368 => (if (t363 ++ ((⟨#[38, 124, 61]⟩ : ByteArray).extract ((wrap64 (2 - t358)) : Int).toNat ((wrap64 (3 - t358)) : Int).toNat)).size + t368.size ≤ 9223372036854775807 then (some ((t363 ++ ((⟨#[38, 124, 61]⟩ : ByteArray).extract ((wrap64 (2 - t358)) : Int).toNat ((wrap64 (3 - t358)) : Int).toNat)) ++ t368)) else (none))) else (none)) else (none)) else (none)) else (none)) else (none)) else (none))) else (none)) else (none))))))) else (none)) else (none)) = some r := h
 clear h
 obtain ⟨ji2, hji2⟩ : ∃ j_ : Int, (wrap64 ((l0.length : Int) - 1)) = j_ := ⟨_, rfl⟩
 replace H : (if 0 ≤ (ji2) then (if (ji2) < (l0.length : Int) then (if ((rd_T62 l0 (ji2)).f0) = 0 then (if 0 ≤ ((rd_T62 l0 (ji2)).f1) then (if ((rd_T62 l0 (ji2)).f1) ≤ (wrap64 (((rd_T62 l0 (ji2)).f1) + 1)) then (if (wrap64 (((rd_T62 l0 (ji2)).f1) + 1)) ≤ 4 then (some ((⟨#[97, 98, 99, 100]⟩ : ByteArray).extract (((rd_T62 l0 (ji2)).f1) : Int).toNat ((wrap64 (((rd_T62 l0 (ji2)).f1) + 1)) : Int).toNat)) else (none)) else (none)) else (none)) else (if ((rd_T62 l0 (ji2)).f0) = 1 then ((spec_l1Number.f k ((rd_T62 l0 (ji2)).f1)).bind fun t351 => (some t351)) else (if ((rd_T62 l0 (ji2)).f0) = 2 then (if (ji2) ≤ (l0.length : Int) then ((spec_l2Held.f k (l0.take ((ji2) : Int).toNat) 3).bind fun t356 => (if 1 + t356.size ≤ 9223372036854775807 then (some ((⟨#[33]⟩ : ByteArray) ++ t356)) else (none))) else (none)) else ((spec_l2Starts.f k l0 (wrap64 ((ji2) - 1))).bind fun t357 => ((spec_l2Binds.f l0).bind fun t358 => (if 0 ≤ t357 then (if t357 ≤ (l0.length : Int) then ((spec_l2Held.f k (l0.take (t357 : Int).toNat) t358).bind fun t363 => (if 0 ≤ (wrap64 (2 - t358)) then (if (wrap64 (2 - t358)) ≤ (wrap64 (3 - t358)) then (if (wrap64 (3 - t358)) ≤ 3 then (if t363.size + ((⟨#[38, 124, 61]⟩ : ByteArray).extract ((wrap64 (2 - t358)) : Int).toNat ((wrap64 (3 - t358)) : Int).toNat).size ≤ 9223372036854775807 then (if t357 ≤ (ji2) then (if (ji2) ≤ (l0.length : Int) then ((spec_l2Held.f k ((l0.take ((ji2) : Int).toNat).drop (t357 : Int).toNat) (wrap64 (t358 + 1))).bind fun t368 => (if (t363 ++ ((⟨#[38, 124, 61]⟩ : ByteArray).extract ((wrap64 (2 - t358)) : Int).toNat ((wrap64 (3 - t358)) : Int).toNat)).size + t368.size ≤ 9223372036854775807 then (some ((t363 ++ ((⟨#[38, 124, 61]⟩ : ByteArray).extract ((wrap64 (2 - t358)) : Int).toNat ((wrap64 (3 - t358)) : Int).toNat)) ++ t368)) else (none))) else (none)) else (none)) else (none)) else (none)) else (none)) else (none))) else (none)) else (none))))))) else (none)) else (none)) = some r := by first | (rw [hji2] at H; exact H) | (simp only [hji2] at H ⊢; exact H)
 have hji2w : (IntKind.i64.wrap ((l0.length : Int) - 1)) = ji2 := (i64_w _).trans hji2
 by_cases c3 : 0 ≤ (ji2)
 ·rw [if_pos c3] at H
  have c3b0 : decide (0 ≤ (ji2)) = true := decide_eq_true c3
  clear c3
  by_cases c4 : (ji2) < (l0.length : Int)
  ·rw [if_pos c4] at H
   have c4b0 : decide ((ji2) < (l0.length : Int)) = true := decide_eq_true c4
   clear c4
   by_cases c5 : ((rd_T62 l0 (ji2)).f0) = 0
   ·rw [if_pos c5] at H
    have c5b0 : (((rd_T62 l0 (ji2)).f0) == 0) = true := beq_iff_eq.mpr c5
    have c5b1 : (((rd_T62 l0 (ji2)).f0) != 0) = false := bne_eq_false_iff_eq.mpr c5
    clear c5
    by_cases c6 : 0 ≤ ((rd_T62 l0 (ji2)).f1)
    ·rw [if_pos c6] at H
     have c6b0 := eq_true c6
     have c6b1 : decide (0 ≤ ((rd_T62 l0 (ji2)).f1)) = true := decide_eq_true c6
     clear c6
     by_cases c7 : ((rd_T62 l0 (ji2)).f1) ≤ (wrap64 (((rd_T62 l0 (ji2)).f1) + 1))
     ·rw [if_pos c7] at H
      have c7b0 := eq_true c7
      have c7b1 : decide (((rd_T62 l0 (ji2)).f1) ≤ (wrap64 (((rd_T62 l0 (ji2)).f1) + 1))) = true := decide_eq_true c7
      by_cases c8 : (wrap64 (((rd_T62 l0 (ji2)).f1) + 1)) ≤ 4
      ·rw [if_pos c8] at H
       have c8b0 := eq_true c8
       have c8b1 : decide ((wrap64 (((rd_T62 l0 (ji2)).f1) + 1)) ≤ 4) = true := decide_eq_true c8
       obtain rfl := Option.some.inj H
       have p347 : 0 ≤ ((ji2) : Int) := of_decide_eq_true pwb_
       have q347 : (ji2) < (l0.length : Int) := of_decide_eq_true pwb_
       obtain ⟨ad347, e347, hx347_0, hx347_1⟩ := at_T62 HR0.out (ji2) p347 q347
       cases e347
       replace p347 := eq_true p347
       replace q347 := eq_true q347
       go_enter Try.func66, Try.ntmps66
       try go_wp2
       have n0_ := Aside0.mk (below_drew1 HB.out)
       clear HB
       have HB := n0_
       clear n0_
       have p348 : 0 ≤ ((ji2) : Int) := of_decide_eq_true pwb_
       have q348 : (ji2) < (l0.length : Int) := of_decide_eq_true pwb_
       obtain ⟨ad348, e348, hx348_0, hx348_1⟩ := at_T62 HR0.out (ji2) p348 q348
       have hw348_1 := hx348_1
       have hw348_0 := hx348_0
       obtain rfl : ad347 = ad348 := (by injection e348)
       replace hx348_0 := (HB.out.cell (World.block_lt_of_cell? w _ hx348_0)).trans hx348_0
       replace hx348_1 := (HB.out.cell (World.block_lt_of_cell? w _ hx348_1)).trans hx348_1
       replace p348 := eq_true p348
       replace q348 := eq_true q348
       have p349 : 0 ≤ ((ji2) : Int) := of_decide_eq_true pwb_
       have q349 : (ji2) < (l0.length : Int) := of_decide_eq_true pwb_
       obtain ⟨ad349, e349, hx349_0, hx349_1⟩ := at_T62 HR0.out (ji2) p349 q349
       have hw349_1 := hx349_1
       have hw349_0 := hx349_0
       obtain rfl : ad347 = ad349 := (by injection e349)
       replace hx349_0 := (HB.out.cell (World.block_lt_of_cell? w _ hx349_0)).trans hx349_0
       replace hx349_1 := (HB.out.cell (World.block_lt_of_cell? w _ hx349_1)).trans hx349_1
       replace p349 := eq_true p349
       replace q349 := eq_true q349
       refine start_ (n := 13) (S := fun w' => w'.cell? (ad347.add (((ji2)).toNat * 2)) = some (.int .i64 ((rd_T62 l0 (ji2)).f0)) ∧ w'.cell? ⟨(ad347.add (((ji2)).toNat * 2)).block, (ad347.add (((ji2)).toNat * 2)).off + 1, none⟩ = some (.int .i64 ((rd_T62 l0 (ji2)).f1)) ∧ w'.cell? (ad347.add (((ji2)).toNat * 2)) = some (.int .i64 ((rd_T62 l0 (ji2)).f0)) ∧ w'.cell? ⟨(ad347.add (((ji2)).toNat * 2)).block, (ad347.add (((ji2)).toNat * 2)).off + 1, none⟩ = some (.int .i64 ((rd_T62 l0 (ji2)).f1))) (ds := []) #[false, false, false, false, false, false, false, false, false, false, false, false, false] (by kernel_rfl) rfl rfl ⟨((HB.out.cell (World.block_lt_of_cell? w _ hw348_0)).trans hw348_0), ((HB.out.cell (World.block_lt_of_cell? w _ hw348_1)).trans hw348_1), ((HB.out.cell (World.block_lt_of_cell? w _ hw349_0)).trans hw349_0), ((HB.out.cell (World.block_lt_of_cell? w _ hw349_1)).trans hw349_1)⟩ (fun hHeld => ?_); refine with_tabW spec_l2Text.tab4 spec_l2Text.bits4 (fun HT_ HW_ => ?_)
       generalize w.drew = w9 at HB hx348_0 hx348_1 hx349_0 hx349_1 hHeld ⊢
       refine pure_ (i := 0) (N := some 16) (v := ?_) (a' := ?_) #[true, false, false, false, false, false, false, false, false, false, false, false, false] rfl rfl (any_of HT_.out (by kernel_rfl)) (fun _ _ _ h => h) (Or.inl ⟨by rfl, ?_⟩) ?_ ?_
       rotate_left
       ·intro w'
        go_simp
        with_reducible rfl
       rotate_left
       ·simp only [Act.put, List.setIfInBounds_toArray, List.set_cons_zero, List.set_cons_succ, i64_w, i32_w]
        rfl
       refine pure_ (i := 1) (N := some 17) (v := ?_) (a' := ?_) #[true, true, false, false, false, false, false, false, false, false, false, false, false] rfl rfl (any_of HT_.out (by kernel_rfl)) (fun _ _ _ h => h) (Or.inl ⟨by rfl, ?_⟩) ?_ ?_
       rotate_left
       ·intro w'
        go_simp
        with_reducible rfl
       rotate_left
       ·simp only [Act.put, List.setIfInBounds_toArray, List.set_cons_zero, List.set_cons_succ, i64_w, i32_w]
        rfl
       refine pure_ (i := 2) (N := some 18) (v := ?_) (a' := ?_) #[true, true, true, false, false, false, false, false, false, false, false, false, false] rfl rfl (any_of HT_.out (by kernel_rfl)) (fun _ _ _ h => h) (Or.inl ⟨by rfl, ?_⟩) ?_ ?_
       rotate_left
       ·intro w'
        go_simp
        with_reducible rfl
       rotate_left
       ·simp only [Act.put, List.setIfInBounds_toArray, List.set_cons_zero, List.set_cons_succ, i64_w, i32_w]
        rfl
       refine pure_ (i := 3) (N := some 19) (v := ?_) (a' := ?_) #[true, true, true, true, false, false, false, false, false, false, false, false, false] rfl rfl (any_of HT_.out (by kernel_rfl)) (fun _ _ _ h => h) (Or.inl ⟨by rfl, ?_⟩) ?_ ?_
       rotate_left
       ·intro w'
        go_simp
        with_reducible rfl
       rotate_left
       ·simp only [Act.put, List.setIfInBounds_toArray, List.set_cons_zero, List.set_cons_succ, i64_w, i32_w]
        rfl
       refine pure_ (i := 5) (N := some 21) (v := ?_) (a' := ?_) #[true, true, true, true, false, true, false, false, false, false, false, false, false] rfl rfl (any_of HT_.out (by kernel_rfl)) (fun _ _ _ h => h) (Or.inl ⟨by rfl, ?_⟩) ?_ ?_
       rotate_left
       ·intro w'
        go_simp
        with_reducible rfl
       rotate_left
       ·simp only [Act.put, List.setIfInBounds_toArray, List.set_cons_zero, List.set_cons_succ, i64_w, i32_w]
        rfl
       refine pure_ (i := 6) (N := some 22) (v := ?_) (a' := ?_) #[true, true, true, true, false, true, true, false, false, false, false, false, false] rfl rfl (any_of HT_.out (by kernel_rfl)) (fun _ _ _ h => h) (Or.inl ⟨by rfl, ?_⟩) ?_ ?_
       rotate_left
       ·intro w'
        go_simp
        with_reducible rfl
       rotate_left
       ·simp only [Act.put, List.setIfInBounds_toArray, List.set_cons_zero, List.set_cons_succ, i64_w, i32_w]
        rfl
       refine pure_ (i := 7) (N := some 23) (v := ?_) (a' := ?_) #[true, true, true, true, false, true, true, true, false, false, false, false, false] rfl rfl (any_of HT_.out (by kernel_rfl)) (fun _ _ _ h => h) (Or.inl ⟨by rfl, ?_⟩) ?_ ?_
       rotate_left
       ·intro w'
        go_simp
        with_reducible rfl
       rotate_left
       ·simp only [Act.put, List.setIfInBounds_toArray, List.set_cons_zero, List.set_cons_succ, i64_w, i32_w]
        rfl
       refine pure_ (i := 8) (N := some 24) (v := ?_) (a' := ?_) #[true, true, true, true, false, true, true, true, true, false, false, false, false] rfl rfl (any_of HT_.out (by kernel_rfl)) (fun _ _ _ h => h) (Or.inl ⟨by rfl, ?_⟩) ?_ ?_
       rotate_left
       ·intro w'
        go_simp
        with_reducible rfl
       rotate_left
       ·simp only [Act.put, List.setIfInBounds_toArray, List.set_cons_zero, List.set_cons_succ, i64_w, i32_w]
        rfl
       refine take_ (i := 4) (N := some 20) (v := ?_) (a' := ?_) #[true, true, true, true, true, true, true, true, true, false, false, false, false] rfl rfl (take_ofW HT_.out HW_.out (by kernel_rfl)) (fun _ _ _ h => h) (Or.inl ⟨by rfl, ?_⟩) hHeld ?_ ?_
       rotate_left
       ·rintro w' ⟨s0, s1, s2, s3⟩
        go_simp
        with_reducible rfl
       rotate_left
       ·simp only [Act.put, List.setIfInBounds_toArray, List.set_cons_zero, List.set_cons_succ, i64_w, i32_w]
        rfl
       refine take_ (i := 9) (N := some 25) (v := ?_) (a' := ?_) #[true, true, true, true, true, true, true, true, true, true, false, false, false] rfl rfl (take_ofW HT_.out HW_.out (by kernel_rfl)) (fun _ _ _ h => h) (Or.inl ⟨by rfl, ?_⟩) hHeld ?_ ?_
       rotate_left
       ·rintro w' ⟨s0, s1, s2, s3⟩
        go_simp
        with_reducible rfl
       rotate_left
       ·simp only [Act.put, List.setIfInBounds_toArray, List.set_cons_zero, List.set_cons_succ, i64_w, i32_w]
        rfl
       refine pure_ (i := 10) (N := some 26) (v := ?_) (a' := ?_) #[true, true, true, true, true, true, true, true, true, true, true, false, false] rfl rfl (any_of HT_.out (by kernel_rfl)) (fun _ _ _ h => h) (Or.inl ⟨by rfl, ?_⟩) ?_ ?_
       rotate_left
       ·intro w'
        go_simp
        with_reducible rfl
       rotate_left
       ·simp only [Act.put, List.setIfInBounds_toArray, List.set_cons_zero, List.set_cons_succ, i64_w, i32_w]
        rfl
       refine pure_ (i := 11) (N := some 27) (v := ?_) (a' := ?_) #[true, true, true, true, true, true, true, true, true, true, true, true, false] rfl rfl (any_of HT_.out (by kernel_rfl)) (fun _ _ _ h => h) (Or.inl ⟨by rfl, ?_⟩) ?_ ?_
       rotate_left
       ·intro w'
        go_simp
        with_reducible rfl
       rotate_left
       ·simp only [Act.put, List.setIfInBounds_toArray, List.set_cons_zero, List.set_cons_succ, i64_w, i32_w]
        rfl
       refine pure_ (i := 12) (N := some 2) (v := ?_) (a' := ?_) #[true, true, true, true, true, true, true, true, true, true, true, true, true] rfl rfl (any_of HT_.out (by kernel_rfl)) (fun _ _ _ h => h) (Or.inl ⟨by rfl, ?_⟩) ?_ ?_
       rotate_left
       ·intro w'
        go_simp
        with_reducible rfl
       rotate_left
       ·simp only [Act.put, List.setIfInBounds_toArray, List.set_cons_zero, List.set_cons_succ, i64_w, i32_w]
        rfl
       refine done_ (done_of HT_.out (by kernel_rfl)) ?_
       try go_wp2
       go_ret
       exact ⟨by first | rfl | (simp [errW_none, errW_some] <;> rfl) | (simp only [← hji2]; first | rfl | (simp [errW_none, errW_some] <;> rfl)) | (simp [*, errW_none, errW_some] <;> rfl), pwg_⟩
      ·rw [if_neg c8] at H
       exact absurd H (by simp)
     ·rw [if_neg c7] at H
      exact absurd H (by simp)
    ·rw [if_neg c6] at H
     exact absurd H (by simp)
   ·rw [if_neg c5] at H
    have c5b0 : (((rd_T62 l0 (ji2)).f0) == 0) = false := beq_eq_false_iff_ne.mpr c5
    have c5b1 : (((rd_T62 l0 (ji2)).f0) != 0) = true := bne_iff_ne.mpr c5
    by_cases c10 : ((rd_T62 l0 (ji2)).f0) = 1
    ·rw [if_pos c10] at H
     have c10b0 : (((rd_T62 l0 (ji2)).f0) == 1) = true := beq_iff_eq.mpr c10
     have c10b1 : (((rd_T62 l0 (ji2)).f0) != 1) = false := bne_eq_false_iff_eq.mpr c10
     clear c10
     replace H := Option.bind_eq_some_iff.mp H
     obtain ⟨t351, A110, H⟩ := H
     replace H : (some t351) = some r := H
     have A11 := Aside0.mk A110
     clear A110
     obtain rfl := Option.some.inj H
     have p347 : 0 ≤ ((ji2) : Int) := of_decide_eq_true pwb_
     have q347 : (ji2) < (l0.length : Int) := of_decide_eq_true pwb_
     obtain ⟨ad347, e347, hx347_0, hx347_1⟩ := at_T62 HR0.out (ji2) p347 q347
     cases e347
     replace p347 := eq_true p347
     replace q347 := eq_true q347
     have p350 : 0 ≤ ((ji2) : Int) := of_decide_eq_true pwb_
     have q350 : (ji2) < (l0.length : Int) := of_decide_eq_true pwb_
     obtain ⟨ad350, e350, hx350_0, hx350_1⟩ := at_T62 HR0.out (ji2) p350 q350
     obtain rfl : ad347 = ad350 := (by injection e350)
     replace p350 := eq_true p350
     replace q350 := eq_true q350
     go_enter Try.func66, Try.ntmps66
     go_wp2_with (first | ((with_reducible refine gate_callee (f := 92) rfl ?_); refine goesL_ (some 35) rfl rfl Try.func92 (by kernel_rfl) rfl #[.int .i64 ((rd_T62 l0 (ji2)).f1)] rfl (by (try simp only [List.map_toArray, List.map_cons, List.map_nil]); first | done | (simp only [hji2]; rfl) | rfl | (simp only [List.length_drop, List.length_take]; rfl)) ?_; (with_reducible refine (spec_l1Number.calls k ((rd_T62 l0 (ji2)).f1) t351 _ A11.out).mono ?_); rintro e w12 ⟨rfl, hb⟩; refine ⟨_, rfl, ?_⟩; have n0_ := Aside0.mk (below_step pwg_ hb); clear HB; have HB := n0_; clear n0_; (try clear hb); (try clear hb2); (try clear hk); (try clear hi)))
     go_ret
     exact ⟨by first | rfl | (simp [errW_none, errW_some] <;> rfl) | (simp only [← hji2]; first | rfl | (simp [errW_none, errW_some] <;> rfl)) | (simp [*, errW_none, errW_some] <;> rfl), pwg_⟩
    ·rw [if_neg c10] at H
     have c10b0 : (((rd_T62 l0 (ji2)).f0) == 1) = false := beq_eq_false_iff_ne.mpr c10
     have c10b1 : (((rd_T62 l0 (ji2)).f0) != 1) = true := bne_iff_ne.mpr c10
     by_cases c13 : ((rd_T62 l0 (ji2)).f0) = 2
     ·rw [if_pos c13] at H
      have c13b0 : (((rd_T62 l0 (ji2)).f0) == 2) = true := beq_iff_eq.mpr c13
      have c13b1 : (((rd_T62 l0 (ji2)).f0) != 2) = false := bne_eq_false_iff_eq.mpr c13
      clear c13
      have c14b0 := eq_true (of_decide_eq_true pwb_ : 0 ≤ (ji2))
      by_cases c15 : (ji2) ≤ (l0.length : Int)
      ·rw [if_pos c15] at H
       have c15b0 := eq_true c15
       have c15b1 : decide ((ji2) ≤ (l0.length : Int)) = true := decide_eq_true c15
       clear c15
       obtain ⟨y352, hy352⟩ : ∃ y_ : List (S62), y_ = (l0.take ((ji2) : Int).toNat) := ⟨_, rfl⟩
       replace H : ((spec_l2Held.f k y352 3).bind fun t356 => (if 1 + t356.size ≤ 9223372036854775807 then (some ((⟨#[33]⟩ : ByteArray) ++ t356)) else (none))) = some r := by first | (rw [hy352]; with_reducible exact H) | (have H2_ := (Option.bind_some _ _).symm.trans H; rw [hy352]; with_reducible exact H2_) | (have H2_ := (Option.bind_some _ _).symm.trans H; with_reducible exact H2_) | with_reducible exact H | (rw [hy352]; exact H) | exact H
       have Ny352 := Aside0.mk hy352
       clear hy352
       replace H := Option.bind_eq_some_iff.mp H
       obtain ⟨t356, A160, H⟩ := H
       replace H : (if 1 + t356.size ≤ 9223372036854775807 then (some ((⟨#[33]⟩ : ByteArray) ++ t356)) else (none)) = some r := H
       have A16 := Aside0.mk A160
       clear A160
       by_cases c17 : 1 + t356.size ≤ 9223372036854775807
       ·rw [if_pos c17] at H
        have c17b0 := eq_true c17
        have c17b1 : decide (1 + t356.size ≤ 9223372036854775807) = true := decide_eq_true c17
        try have c17b2 : (9223372036854775807 < 1 + t356.size) = False := eq_false (Nat.not_lt.2 c17)
        obtain rfl := Option.some.inj H
        have p347 : 0 ≤ ((ji2) : Int) := of_decide_eq_true pwb_
        have q347 : (ji2) < (l0.length : Int) := of_decide_eq_true pwb_
        obtain ⟨ad347, e347, hx347_0, hx347_1⟩ := at_T62 HR0.out (ji2) p347 q347
        cases e347
        replace p347 := eq_true p347
        replace q347 := eq_true q347
        have q18 : ((ji2) : Int) ≤ ((l0.length : Int) : Int) := of_decide_eq_true pwb_
        obtain ⟨i018, hi018, _, hsz18, _⟩ := info_parts info62
        have hroom18 : l0.length ≤ c0 := HC0.out
        have hC18 : Kd.C k62 _ (some ad347) l0.length l0 := HR0.out
        have hcut18 := cut_to (P := Try.prog) 25 62 .i64 Try.underlying25 hi018 (some ad347) l0.length c0 (ji2) (of_decide_eq_true pwb_) q18 hroom18
        have hr18 := Kd.C_take (m := ((ji2) : Int).toNat) hC18 (by omega)
        have hy18 : y352.length = ((ji2) : Int).toNat := (by rw [Ny352.out, List.length_take]; omega)
        rw [← Ny352.out] at hr18
        rw [← hy18] at hcut18
        have HR355 := Aside0.mk hr18
        have HC355 := Aside0.mk (show y352.length ≤ c0 from by omega)
        clear hr18 hC18 hroom18 hi018 hsz18
        have KY18 := Aside0.mk hy18
        clear hy18
        replace q18 := eq_true q18
        go_enter Try.func66, Try.ntmps66
        go_wp2_with (first | ((with_reducible refine gate_callee (f := 93) rfl ?_); refine goesL_ (some 41) rfl rfl Try.func93 (by kernel_rfl) rfl #[.slice (some ad347) y352.length c0, .int .i64 3] rfl pwh_ ?_; (with_reducible refine (h0_ k (by omega) _ _ y352 3 t356 _ ?side1 ?side2 A16.out).mono ?_); (case side1 => repeat (first | exact HR355.out | (with_reducible refine Kd.C_alloc ?_ _) | (with_reducible refine Kd.C_drewN ?_ _) | (with_reducible refine Kd.C_drew ?_))); (case side2 => exact HC355.out); rintro e w19 ⟨rfl, hb⟩; refine ⟨_, rfl, ?_⟩; have n0_ := Aside0.mk (below_step pwg_ hb); clear HB; have HB := n0_; clear n0_; (try clear hb); (try clear hb2); (try clear hk); (try clear hi)))
        go_ret
        exact ⟨by first | rfl | (simp [errW_none, errW_some] <;> rfl) | (simp only [← hji2]; first | rfl | (simp [errW_none, errW_some] <;> rfl)) | (simp [*, errW_none, errW_some] <;> rfl), pwg_⟩
       ·rw [if_neg c17] at H
        exact absurd H (by simp)
      ·rw [if_neg c15] at H
       exact absurd H (by simp)
     ·rw [if_neg c13] at H
      have c13b0 : (((rd_T62 l0 (ji2)).f0) == 2) = false := beq_eq_false_iff_ne.mpr c13
      have c13b1 : (((rd_T62 l0 (ji2)).f0) != 2) = true := bne_iff_ne.mpr c13
      replace H := Option.bind_eq_some_iff.mp H
      obtain ⟨t357, A200, H⟩ := H
      replace H : ((spec_l2Binds.f l0).bind fun t358 => (if 0 ≤ t357 then (if t357 ≤ (l0.length : Int) then ((spec_l2Held.f k (l0.take (t357 : Int).toNat) t358).bind fun t363 => (if 0 ≤ (wrap64 (2 - t358)) then (if (wrap64 (2 - t358)) ≤ (wrap64 (3 - t358)) then (if (wrap64 (3 - t358)) ≤ 3 then (if t363.size + ((⟨#[38, 124, 61]⟩ : ByteArray).extract ((wrap64 (2 - t358)) : Int).toNat ((wrap64 (3 - t358)) : Int).toNat).size ≤ 9223372036854775807 then (if t357 ≤ (ji2) then (if (ji2) ≤ (l0.length : Int) then ((spec_l2Held.f k ((l0.take ((ji2) : Int).toNat).drop (t357 : Int).toNat) (wrap64 (t358 + 1))).bind fun t368 => (if (t363 ++ ((⟨#[38, 124, 61]⟩ : ByteArray).extract ((wrap64 (2 - t358)) : Int).toNat ((wrap64 (3 - t358)) : Int).toNat)).size + t368.size ≤ 9223372036854775807 then (some ((t363 ++ ((⟨#[38, 124, 61]⟩ : ByteArray).extract ((wrap64 (2 - t358)) : Int).toNat ((wrap64 (3 - t358)) : Int).toNat)) ++ t368)) else (none))) else (none)) else (none)) else (none)) else (none)) else (none)) else (none))) else (none)) else (none))) = some r := H
      have A20 := Aside0.mk A200
      clear A200
      replace H := Option.bind_eq_some_iff.mp H
      obtain ⟨t358, A210, H⟩ := H
      replace H : (if 0 ≤ t357 then (if t357 ≤ (l0.length : Int) then ((spec_l2Held.f k (l0.take (t357 : Int).toNat) t358).bind fun t363 => (if 0 ≤ (wrap64 (2 - t358)) then (if (wrap64 (2 - t358)) ≤ (wrap64 (3 - t358)) then (if (wrap64 (3 - t358)) ≤ 3 then (if t363.size + ((⟨#[38, 124, 61]⟩ : ByteArray).extract ((wrap64 (2 - t358)) : Int).toNat ((wrap64 (3 - t358)) : Int).toNat).size ≤ 9223372036854775807 then (if t357 ≤ (ji2) then (if (ji2) ≤ (l0.length : Int) then ((spec_l2Held.f k ((l0.take ((ji2) : Int).toNat).drop (t357 : Int).toNat) (wrap64 (t358 + 1))).bind fun t368 => (if (t363 ++ ((⟨#[38, 124, 61]⟩ : ByteArray).extract ((wrap64 (2 - t358)) : Int).toNat ((wrap64 (3 - t358)) : Int).toNat)).size + t368.size ≤ 9223372036854775807 then (some ((t363 ++ ((⟨#[38, 124, 61]⟩ : ByteArray).extract ((wrap64 (2 - t358)) : Int).toNat ((wrap64 (3 - t358)) : Int).toNat)) ++ t368)) else (none))) else (none)) else (none)) else (none)) else (none)) else (none)) else (none))) else (none)) else (none)) = some r := H
      have A21 := Aside0.mk A210
      clear A210
      by_cases c22 : 0 ≤ t357
      ·rw [if_pos c22] at H
       have c22b0 := eq_true c22
       have c22b1 : decide (0 ≤ t357) = true := decide_eq_true c22
       clear c22
       by_cases c23 : t357 ≤ (l0.length : Int)
       ·rw [if_pos c23] at H
        have c23b0 := eq_true c23
        have c23b1 : decide (t357 ≤ (l0.length : Int)) = true := decide_eq_true c23
        clear c23
        obtain ⟨y359, hy359⟩ : ∃ y_ : List (S62), y_ = (l0.take (t357 : Int).toNat) := ⟨_, rfl⟩
        replace H : ((spec_l2Held.f k y359 t358).bind fun t363 => (if 0 ≤ (wrap64 (2 - t358)) then (if (wrap64 (2 - t358)) ≤ (wrap64 (3 - t358)) then (if (wrap64 (3 - t358)) ≤ 3 then (if t363.size + ((⟨#[38, 124, 61]⟩ : ByteArray).extract ((wrap64 (2 - t358)) : Int).toNat ((wrap64 (3 - t358)) : Int).toNat).size ≤ 9223372036854775807 then (if t357 ≤ (ji2) then (if (ji2) ≤ (l0.length : Int) then ((spec_l2Held.f k ((l0.take ((ji2) : Int).toNat).drop (t357 : Int).toNat) (wrap64 (t358 + 1))).bind fun t368 => (if (t363 ++ ((⟨#[38, 124, 61]⟩ : ByteArray).extract ((wrap64 (2 - t358)) : Int).toNat ((wrap64 (3 - t358)) : Int).toNat)).size + t368.size ≤ 9223372036854775807 then (some ((t363 ++ ((⟨#[38, 124, 61]⟩ : ByteArray).extract ((wrap64 (2 - t358)) : Int).toNat ((wrap64 (3 - t358)) : Int).toNat)) ++ t368)) else (none))) else (none)) else (none)) else (none)) else (none)) else (none)) else (none))) = some r := by first | (rw [hy359]; with_reducible exact H) | (have H2_ := (Option.bind_some _ _).symm.trans H; rw [hy359]; with_reducible exact H2_) | (have H2_ := (Option.bind_some _ _).symm.trans H; with_reducible exact H2_) | with_reducible exact H | (rw [hy359]; exact H) | exact H
        have Ny359 := Aside0.mk hy359
        clear hy359
        replace H := Option.bind_eq_some_iff.mp H
        obtain ⟨t363, A240, H⟩ := H
        replace H : (if 0 ≤ (wrap64 (2 - t358)) then (if (wrap64 (2 - t358)) ≤ (wrap64 (3 - t358)) then (if (wrap64 (3 - t358)) ≤ 3 then (if t363.size + ((⟨#[38, 124, 61]⟩ : ByteArray).extract ((wrap64 (2 - t358)) : Int).toNat ((wrap64 (3 - t358)) : Int).toNat).size ≤ 9223372036854775807 then (if t357 ≤ (ji2) then (if (ji2) ≤ (l0.length : Int) then ((spec_l2Held.f k ((l0.take ((ji2) : Int).toNat).drop (t357 : Int).toNat) (wrap64 (t358 + 1))).bind fun t368 => (if (t363 ++ ((⟨#[38, 124, 61]⟩ : ByteArray).extract ((wrap64 (2 - t358)) : Int).toNat ((wrap64 (3 - t358)) : Int).toNat)).size + t368.size ≤ 9223372036854775807 then (some ((t363 ++ ((⟨#[38, 124, 61]⟩ : ByteArray).extract ((wrap64 (2 - t358)) : Int).toNat ((wrap64 (3 - t358)) : Int).toNat)) ++ t368)) else (none))) else (none)) else (none)) else (none)) else (none)) else (none)) else (none)) = some r := H
        have A24 := Aside0.mk A240
        clear A240
        by_cases c25 : 0 ≤ (wrap64 (2 - t358))
        ·rw [if_pos c25] at H
         have c25b0 := eq_true c25
         have c25b1 : decide (0 ≤ (wrap64 (2 - t358))) = true := decide_eq_true c25
         clear c25
         by_cases c26 : (wrap64 (2 - t358)) ≤ (wrap64 (3 - t358))
         ·rw [if_pos c26] at H
          have c26b0 := eq_true c26
          have c26b1 : decide ((wrap64 (2 - t358)) ≤ (wrap64 (3 - t358))) = true := decide_eq_true c26
          clear c26
          by_cases c27 : (wrap64 (3 - t358)) ≤ 3
          ·rw [if_pos c27] at H
           have c27b0 := eq_true c27
           have c27b1 : decide ((wrap64 (3 - t358)) ≤ 3) = true := decide_eq_true c27
           clear c27
           by_cases c28 : t363.size + ((⟨#[38, 124, 61]⟩ : ByteArray).extract ((wrap64 (2 - t358)) : Int).toNat ((wrap64 (3 - t358)) : Int).toNat).size ≤ 9223372036854775807
           ·rw [if_pos c28] at H
            have c28b0 := eq_true c28
            have c28b1 : decide (t363.size + ((⟨#[38, 124, 61]⟩ : ByteArray).extract ((wrap64 (2 - t358)) : Int).toNat ((wrap64 (3 - t358)) : Int).toNat).size ≤ 9223372036854775807) = true := decide_eq_true c28
            try have c28b2 : (9223372036854775807 < t363.size + ((⟨#[38, 124, 61]⟩ : ByteArray).extract ((wrap64 (2 - t358)) : Int).toNat ((wrap64 (3 - t358)) : Int).toNat).size) = False := eq_false (Nat.not_lt.2 c28)
            try have c28b4 := pw_ext1 (⟨#[38, 124, 61]⟩ : ByteArray) 3 rfl (of_decide_eq_true pwb_) c28
            have c29b0 := eq_true (of_decide_eq_true pwb_ : 0 ≤ t357)
            by_cases c30 : t357 ≤ (ji2)
            ·rw [if_pos c30] at H
             have c30b0 := eq_true c30
             have c30b1 : decide (t357 ≤ (ji2)) = true := decide_eq_true c30
             clear c30
             by_cases c31 : (ji2) ≤ (l0.length : Int)
             ·rw [if_pos c31] at H
              have c31b0 := eq_true c31
              have c31b1 : decide ((ji2) ≤ (l0.length : Int)) = true := decide_eq_true c31
              clear c31
              obtain ⟨y364, hy364⟩ : ∃ y_ : List (S62), y_ = ((l0.take ((ji2) : Int).toNat).drop (t357 : Int).toNat) := ⟨_, rfl⟩
              replace H : ((spec_l2Held.f k y364 (wrap64 (t358 + 1))).bind fun t368 => (if (t363 ++ ((⟨#[38, 124, 61]⟩ : ByteArray).extract ((wrap64 (2 - t358)) : Int).toNat ((wrap64 (3 - t358)) : Int).toNat)).size + t368.size ≤ 9223372036854775807 then (some ((t363 ++ ((⟨#[38, 124, 61]⟩ : ByteArray).extract ((wrap64 (2 - t358)) : Int).toNat ((wrap64 (3 - t358)) : Int).toNat)) ++ t368)) else (none))) = some r := by first | (rw [hy364]; with_reducible exact H) | (have H2_ := (Option.bind_some _ _).symm.trans H; rw [hy364]; with_reducible exact H2_) | (have H2_ := (Option.bind_some _ _).symm.trans H; with_reducible exact H2_) | with_reducible exact H | (rw [hy364]; exact H) | exact H
              have Ny364 := Aside0.mk hy364
              clear hy364
              replace H := Option.bind_eq_some_iff.mp H
              obtain ⟨t368, A320, H⟩ := H
              replace H : (if (t363 ++ ((⟨#[38, 124, 61]⟩ : ByteArray).extract ((wrap64 (2 - t358)) : Int).toNat ((wrap64 (3 - t358)) : Int).toNat)).size + t368.size ≤ 9223372036854775807 then (some ((t363 ++ ((⟨#[38, 124, 61]⟩ : ByteArray).extract ((wrap64 (2 - t358)) : Int).toNat ((wrap64 (3 - t358)) : Int).toNat)) ++ t368)) else (none)) = some r := H
              have A32 := Aside0.mk A320
              clear A320
              by_cases c33 : (t363 ++ ((⟨#[38, 124, 61]⟩ : ByteArray).extract ((wrap64 (2 - t358)) : Int).toNat ((wrap64 (3 - t358)) : Int).toNat)).size + t368.size ≤ 9223372036854775807
              ·rw [if_pos c33] at H
               have c33b0 := eq_true c33
               have c33b1 : decide ((t363 ++ ((⟨#[38, 124, 61]⟩ : ByteArray).extract ((wrap64 (2 - t358)) : Int).toNat ((wrap64 (3 - t358)) : Int).toNat)).size + t368.size ≤ 9223372036854775807) = true := decide_eq_true c33
               try have c33b2 : (9223372036854775807 < (t363 ++ ((⟨#[38, 124, 61]⟩ : ByteArray).extract ((wrap64 (2 - t358)) : Int).toNat ((wrap64 (3 - t358)) : Int).toNat)).size + t368.size) = False := eq_false (Nat.not_lt.2 c33)
               try have c33b4 := pw_ext2 (⟨#[38, 124, 61]⟩ : ByteArray) 3 rfl (of_decide_eq_true pwb_) c33
               obtain rfl := Option.some.inj H
               have p347 : 0 ≤ ((ji2) : Int) := of_decide_eq_true pwb_
               have q347 : (ji2) < (l0.length : Int) := of_decide_eq_true pwb_
               obtain ⟨ad347, e347, hx347_0, hx347_1⟩ := at_T62 HR0.out (ji2) p347 q347
               cases e347
               replace p347 := eq_true p347
               replace q347 := eq_true q347
               go_enter Try.func66, Try.ntmps66
               try go_wp2_with (first | ((with_reducible refine gate_callee (f := 94) rfl ?_); refine goesL_ (some 46) rfl rfl Try.func94 (by kernel_rfl) rfl #[.slice (some ad347) l0.length c0, .int .i64 (wrap64 ((ji2) - 1))] rfl (by (try simp only [List.map_toArray, List.map_cons, List.map_nil]); first | done | (simp only [hji2]; rfl) | rfl | (simp only [List.length_drop, List.length_take]; rfl)) ?_; (with_reducible refine (spec_l2Starts.calls k _ _ l0 (wrap64 ((ji2) - 1)) t357 _ ?side1 ?side2 A20.out).mono ?_); (case side1 => repeat (first | exact HR0.out | (with_reducible refine Kd.C_alloc ?_ _) | (with_reducible refine Kd.C_drewN ?_ _) | (with_reducible refine Kd.C_drew ?_))); (case side2 => exact HC0.out); rintro e w' ⟨rfl, ⟨nd, rfl⟩⟩; refine ⟨_, rfl, ?_⟩) | ((with_reducible refine gate_callee (f := 95) rfl ?_); refine goesL_ (some 48) rfl rfl Try.func95 (by kernel_rfl) rfl #[.slice (some ad347) l0.length c0] rfl pwh_ ?_; (with_reducible refine (spec_l2Binds.calls _ _ l0 t358 _ ?side1 ?side2 A21.out).mono ?_); (case side1 => repeat (first | exact HR0.out | (with_reducible refine Kd.C_alloc ?_ _) | (with_reducible refine Kd.C_drewN ?_ _) | (with_reducible refine Kd.C_drew ?_))); (case side2 => exact HC0.out); rintro e w34 ⟨rfl, hb⟩; refine ⟨_, rfl, ?_⟩; have n0_ := Aside0.mk (below_step pwg_ hb); clear HB; have HB := n0_; clear n0_; (try clear hb); (try clear hb2); (try clear hk); (try clear hi)))
               have n0_ := Aside0.mk (below_drew1 HB.out)
               clear HB
               have HB := n0_
               clear n0_
               have q36 : (t357 : Int) ≤ ((l0.length : Int) : Int) := of_decide_eq_true pwb_
               obtain ⟨i036, hi036, _, hsz36, _⟩ := info_parts info62
               have hroom36 : l0.length ≤ c0 := HC0.out
               have hC36 : Kd.C k62 _ (some ad347) l0.length l0 := HR0.out
               have hcut36 := cut_to (P := Try.prog) 25 62 .i64 Try.underlying25 hi036 (some ad347) l0.length c0 t357 (of_decide_eq_true pwb_) q36 hroom36
               have hr36 := Kd.C_take (m := (t357 : Int).toNat) hC36 (by omega)
               have hy36 : y359.length = (t357 : Int).toNat := (by rw [Ny359.out, List.length_take]; omega)
               rw [← Ny359.out] at hr36
               rw [← hy36] at hcut36
               have HR362 := Aside0.mk hr36
               have HC362 := Aside0.mk (show y359.length ≤ c0 from by omega)
               clear hr36 hC36 hroom36 hi036 hsz36
               have KY36 := Aside0.mk hy36
               clear hy36
               replace q36 := eq_true q36
               have q37 : ((ji2) : Int) ≤ ((l0.length : Int) : Int) := of_decide_eq_true pwb_
               obtain ⟨i037, hi037, _, hsz37, _⟩ := info_parts info62
               have hroom37 : l0.length ≤ c0 := HC0.out
               have hC37 : Kd.C k62 _ (some ad347) l0.length l0 := HR0.out
               have ql37 : (t357 : Int) ≤ ((ji2) : Int) := of_decide_eq_true pwb_
               have q037 : (0 : Int) ≤ (t357 : Int) := of_decide_eq_true pwb_
               have hcut37 := cut_mid (P := Try.prog) 25 62 .i64 .i64 Try.underlying25 hi037 2 hsz37 (some ad347) l0.length c0 t357 (ji2) q037 ql37 q37 hroom37
               have hr37 := Kd.C_mid (lo := (t357 : Int).toNat) (hi := ((ji2) : Int).toNat) (c := c0) hC37 (by omega) (by omega) hroom37
               obtain ⟨A37, hA37⟩ : ∃ A1, A1 = (if c0 = (t357 : Int).toNat then (some ad347) else ((some ad347) : Option Addr).map (·.add ((t357 : Int).toNat * 2))) := ⟨_, rfl⟩
               obtain ⟨c37, hc37⟩ : ∃ c1, c1 = c0 - (t357 : Int).toNat := ⟨_, rfl⟩
               have hy37 : y364.length = ((ji2) : Int).toNat - (t357 : Int).toNat := (by rw [Ny364.out, List.length_drop, List.length_take] <;> omega)
               rw [show ((l0).take ((ji2) : Int).toNat).drop (t357 : Int).toNat = y364 from Ny364.out.symm] at hr37
               replace hr37 : Kd.C k62 _ A37 y364.length y364 := (by rw [hA37]; exact hr37)
               rw [← hy37, ← hA37, ← hc37] at hcut37
               have HR367 := Aside0.mk hr37
               have HC367 := Aside0.mk (show y364.length ≤ c37 from by rw [hy37, hc37]; exact Nat.sub_le_sub_right (Nat.le_trans (by omega) hroom37) _)
               clear hr37 hC37 hroom37 hi037 hsz37 hc37
               have KY37 := Aside0.mk hy37
               have KA37 := Aside0.mk hA37
               clear hy37 hA37
               replace q37 := eq_true q37
               refine start_ (n := 20) (S := fun w' => True) (ds := []) #[false, false, false, false, false, false, false, false, false, false, false, false, false, false, false, false, false, false, false, false] (by kernel_rfl) rfl rfl trivial (fun hHeld => ?_); refine with_tabW spec_l2Text.tab11 spec_l2Text.bits11 (fun HT_ HW_ => ?_)
               generalize w34.drew = w35 at HB HR362 HR367 hHeld ⊢
               refine pure_ (i := 0) (N := some 49) (v := ?_) (a' := ?_) #[true, false, false, false, false, false, false, false, false, false, false, false, false, false, false, false, false, false, false, false] rfl rfl (any_of HT_.out (by kernel_rfl)) (fun _ _ _ h => h) (Or.inl ⟨by rfl, ?_⟩) ?_ ?_
               rotate_left
               ·intro w'
                go_simp
                with_reducible rfl
               rotate_left
               ·simp only [Act.put, List.setIfInBounds_toArray, List.set_cons_zero, List.set_cons_succ, i64_w, i32_w]
                rfl
               refine pure_ (i := 1) (N := some 50) (v := ?_) (a' := ?_) #[true, true, false, false, false, false, false, false, false, false, false, false, false, false, false, false, false, false, false, false] rfl rfl (any_of HT_.out (by kernel_rfl)) (fun _ _ _ h => h) (Or.inl ⟨by rfl, ?_⟩) ?_ ?_
               rotate_left
               ·intro w'
                go_simp
                with_reducible rfl
               rotate_left
               ·simp only [Act.put, List.setIfInBounds_toArray, List.set_cons_zero, List.set_cons_succ, i64_w, i32_w]
                rfl
               refine pure_ (i := 2) (N := some 51) (v := ?_) (a' := ?_) #[true, true, true, false, false, false, false, false, false, false, false, false, false, false, false, false, false, false, false, false] rfl rfl (any_of HT_.out (by kernel_rfl)) (fun _ _ _ h => h) (Or.inl ⟨by rfl, ?_⟩) ?_ ?_
               rotate_left
               ·intro w'
                go_simp
                with_reducible rfl
               rotate_left
               ·simp only [Act.put, List.setIfInBounds_toArray, List.set_cons_zero, List.set_cons_succ, i64_w, i32_w]
                rfl
               refine pure_ (i := 3) (N := some 52) (v := ?_) (a' := ?_) #[true, true, true, true, false, false, false, false, false, false, false, false, false, false, false, false, false, false, false, false] rfl rfl (any_of HT_.out (by kernel_rfl)) (fun _ _ _ h => h) (Or.inl ⟨by rfl, ?_⟩) ?_ ?_
               rotate_left
               ·intro w'
                go_simp
                with_reducible rfl
               rotate_left
               ·simp only [Act.put, List.setIfInBounds_toArray, List.set_cons_zero, List.set_cons_succ, i64_w, i32_w]
                rfl
               refine pure_ (i := 5) (N := some 54) (v := ?_) (a' := ?_) #[true, true, true, true, false, true, false, false, false, false, false, false, false, false, false, false, false, false, false, false] rfl rfl (any_of HT_.out (by kernel_rfl)) (fun _ _ _ h => h) (Or.inl ⟨by rfl, ?_⟩) ?_ ?_
               rotate_left
               ·intro w'
                go_simp
                with_reducible rfl
               rotate_left
               ·simp only [Act.put, List.setIfInBounds_toArray, List.set_cons_zero, List.set_cons_succ, i64_w, i32_w]
                rfl
               refine pure_ (i := 6) (N := some 55) (v := ?_) (a' := ?_) #[true, true, true, true, false, true, true, false, false, false, false, false, false, false, false, false, false, false, false, false] rfl rfl (any_of HT_.out (by kernel_rfl)) (fun _ _ _ h => h) (Or.inl ⟨by rfl, ?_⟩) ?_ ?_
               rotate_left
               ·intro w'
                go_simp
                with_reducible rfl
               rotate_left
               ·simp only [Act.put, List.setIfInBounds_toArray, List.set_cons_zero, List.set_cons_succ, i64_w, i32_w]
                rfl
               refine pure_ (i := 7) (N := some 56) (v := ?_) (a' := ?_) #[true, true, true, true, false, true, true, true, false, false, false, false, false, false, false, false, false, false, false, false] rfl rfl (any_of HT_.out (by kernel_rfl)) (fun _ _ _ h => h) (Or.inl ⟨by rfl, ?_⟩) ?_ ?_
               rotate_left
               ·intro w'
                go_simp
                with_reducible rfl
               rotate_left
               ·simp only [Act.put, List.setIfInBounds_toArray, List.set_cons_zero, List.set_cons_succ, i64_w, i32_w]
                rfl
               refine pure_ (i := 8) (N := some 57) (v := ?_) (a' := ?_) #[true, true, true, true, false, true, true, true, true, false, false, false, false, false, false, false, false, false, false, false] rfl rfl (any_of HT_.out (by kernel_rfl)) (fun _ _ _ h => h) (Or.inl ⟨by rfl, ?_⟩) ?_ ?_
               rotate_left
               ·intro w'
                go_simp
                with_reducible rfl
               rotate_left
               ·simp only [Act.put, List.setIfInBounds_toArray, List.set_cons_zero, List.set_cons_succ, i64_w, i32_w]
                rfl
               refine pure_ (i := 9) (N := some 58) (v := ?_) (a' := ?_) #[true, true, true, true, false, true, true, true, true, true, false, false, false, false, false, false, false, false, false, false] rfl rfl (any_of HT_.out (by kernel_rfl)) (fun _ _ _ h => h) (Or.inl ⟨by rfl, ?_⟩) ?_ ?_
               rotate_left
               ·intro w'
                go_simp
                with_reducible rfl
               rotate_left
               ·simp only [Act.put, List.setIfInBounds_toArray, List.set_cons_zero, List.set_cons_succ, i64_w, i32_w]
                rfl
               refine pure_ (i := 11) (N := some 60) (v := ?_) (a' := ?_) #[true, true, true, true, false, true, true, true, true, true, false, true, false, false, false, false, false, false, false, false] rfl rfl (any_of HT_.out (by kernel_rfl)) (fun _ _ _ h => h) (Or.inl ⟨by rfl, ?_⟩) ?_ ?_
               rotate_left
               ·intro w'
                go_simp
                with_reducible rfl
               rotate_left
               ·simp only [Act.put, List.setIfInBounds_toArray, List.set_cons_zero, List.set_cons_succ, i64_w, i32_w]
                rfl
               refine pure_ (i := 12) (N := some 61) (v := ?_) (a' := ?_) #[true, true, true, true, false, true, true, true, true, true, false, true, true, false, false, false, false, false, false, false] rfl rfl (any_of HT_.out (by kernel_rfl)) (fun _ _ _ h => h) (Or.inl ⟨by rfl, ?_⟩) ?_ ?_
               rotate_left
               ·intro w'
                go_simp
                with_reducible rfl
               rotate_left
               ·simp only [Act.put, List.setIfInBounds_toArray, List.set_cons_zero, List.set_cons_succ, i64_w, i32_w]
                rfl
               refine pure_ (i := 13) (N := some 62) (v := ?_) (a' := ?_) #[true, true, true, true, false, true, true, true, true, true, false, true, true, true, false, false, false, false, false, false] rfl rfl (any_of HT_.out (by kernel_rfl)) (fun _ _ _ h => h) (Or.inl ⟨by rfl, ?_⟩) ?_ ?_
               rotate_left
               ·intro w'
                go_simp
                with_reducible rfl
               rotate_left
               ·simp only [Act.put, List.setIfInBounds_toArray, List.set_cons_zero, List.set_cons_succ, i64_w, i32_w]
                rfl
               refine pure_ (i := 14) (N := some 63) (v := ?_) (a' := ?_) #[true, true, true, true, false, true, true, true, true, true, false, true, true, true, true, false, false, false, false, false] rfl rfl (any_of HT_.out (by kernel_rfl)) (fun _ _ _ h => h) (Or.inl ⟨by rfl, ?_⟩) ?_ ?_
               rotate_left
               ·intro w'
                go_simp
                with_reducible rfl
               rotate_left
               ·simp only [Act.put, List.setIfInBounds_toArray, List.set_cons_zero, List.set_cons_succ, i64_w, i32_w]
                rfl
               refine pure_ (i := 15) (N := some 64) (v := ?_) (a' := ?_) #[true, true, true, true, false, true, true, true, true, true, false, true, true, true, true, true, false, false, false, false] rfl rfl (any_of HT_.out (by kernel_rfl)) (fun _ _ _ h => h) (Or.inl ⟨by rfl, ?_⟩) ?_ ?_
               rotate_left
               ·intro w'
                go_simp
                with_reducible rfl
               rotate_left
               ·simp only [Act.put, List.setIfInBounds_toArray, List.set_cons_zero, List.set_cons_succ, i64_w, i32_w]
                rfl
               refine pure_ (i := 16) (N := some 65) (v := ?_) (a' := ?_) #[true, true, true, true, false, true, true, true, true, true, false, true, true, true, true, true, true, false, false, false] rfl rfl (any_of HT_.out (by kernel_rfl)) (fun _ _ _ h => h) (Or.inl ⟨by rfl, ?_⟩) ?_ ?_
               rotate_left
               ·intro w'
                go_simp
                with_reducible rfl
               rotate_left
               ·simp only [Act.put, List.setIfInBounds_toArray, List.set_cons_zero, List.set_cons_succ, i64_w, i32_w]
                rfl
               refine one_ (i := 4) (N := some 53) #[true, true, true, true, true, true, true, true, true, true, false, true, true, true, true, true, true, false, false, false] rfl rfl (one_of HT_.out (by kernel_rfl)) (by decide) (fun K hK => ?_)
               refine goes_ Try.func93 (by kernel_rfl) rfl #[.slice (some ad347) y359.length c0, .int .i64 t358] (by rfl) rfl rfl pwh_ ?_
               with_reducible refine (h0_ k (by omega) _ _ y359 t358 t363 _ ?side1 ?side2 A24.out).mono ?_
               (case side1 => repeat (first | exact (Kd.C_below HR362.out HB.out) | (with_reducible refine Kd.C_alloc ?_ _) | (with_reducible refine Kd.C_drewN ?_ _) | (with_reducible refine Kd.C_drew ?_)))
               (case side2 => exact HC362.out)
               rintro e w38 ⟨rfl, hb⟩
               refine ⟨_, rfl, ?_⟩
               have n0_ := Aside0.mk (below_step pwg_ hb)
               clear HB
               have HB := n0_
               clear n0_
               (try clear hb)
               (try clear hb2)
               (try clear hk)
               (try clear hi)
               refine hK.out _ _ trivial (fun hHeld => ?_)
               clear hK K
               refine norm_ (a' := ?_) ?_ ?_
               rotate_left
               ·show Act.put _ (some 53) _ = _
                simp only [Act.put, List.setIfInBounds_toArray, List.set_cons_zero, List.set_cons_succ, i64_w, i32_w]
                rfl
               refine pure_ (i := 10) (N := some 59) (v := ?_) (a' := ?_) #[true, true, true, true, true, true, true, true, true, true, true, true, true, true, true, true, true, false, false, false] rfl rfl (any_of HT_.out (by kernel_rfl)) (fun _ _ _ h => h) (Or.inl ⟨by rfl, ?_⟩) ?_ ?_
               rotate_left
               ·intro w'
                go_simp
                with_reducible rfl
               rotate_left
               ·simp only [Act.put, List.setIfInBounds_toArray, List.set_cons_zero, List.set_cons_succ, i64_w, i32_w]
                rfl
               refine one_ (i := 17) (N := some 66) #[true, true, true, true, true, true, true, true, true, true, true, true, true, true, true, true, true, true, false, false] rfl rfl (one_of HT_.out (by kernel_rfl)) (by decide) (fun K hK => ?_)
               refine goes_ Try.func93 (by kernel_rfl) rfl #[.slice A37 y364.length c37, .int .i64 (wrap64 (t358 + 1))] (by rfl) rfl rfl pwh_ ?_
               with_reducible refine (h0_ k (by omega) _ _ y364 (wrap64 (t358 + 1)) t368 _ ?side1 ?side2 A32.out).mono ?_
               (case side1 => repeat (first | exact (Kd.C_below HR367.out HB.out) | (with_reducible refine Kd.C_alloc ?_ _) | (with_reducible refine Kd.C_drewN ?_ _) | (with_reducible refine Kd.C_drew ?_)))
               (case side2 => exact HC367.out)
               rintro e w39 ⟨rfl, hb⟩
               refine ⟨_, rfl, ?_⟩
               have n0_ := Aside0.mk (below_step pwg_ hb)
               clear HB
               have HB := n0_
               clear n0_
               (try clear hb)
               (try clear hb2)
               (try clear hk)
               (try clear hi)
               refine hK.out _ _ trivial (fun hHeld => ?_)
               clear hK K
               refine norm_ (a' := ?_) ?_ ?_
               rotate_left
               ·show Act.put _ (some 66) _ = _
                simp only [Act.put, List.setIfInBounds_toArray, List.set_cons_zero, List.set_cons_succ, i64_w, i32_w]
                rfl
               refine pure_ (i := 18) (N := some 67) (v := ?_) (a' := ?_) #[true, true, true, true, true, true, true, true, true, true, true, true, true, true, true, true, true, true, true, false] rfl rfl (any_of HT_.out (by kernel_rfl)) (fun _ _ _ h => h) (Or.inl ⟨by rfl, ?_⟩) ?_ ?_
               rotate_left
               ·intro w'
                go_simp
                with_reducible rfl
               rotate_left
               ·simp only [Act.put, List.setIfInBounds_toArray, List.set_cons_zero, List.set_cons_succ, i64_w, i32_w]
                rfl
               refine pure_ (i := 19) (N := some 2) (v := ?_) (a' := ?_) #[true, true, true, true, true, true, true, true, true, true, true, true, true, true, true, true, true, true, true, true] rfl rfl (any_of HT_.out (by kernel_rfl)) (fun _ _ _ h => h) (Or.inl ⟨by rfl, ?_⟩) ?_ ?_
               rotate_left
               ·intro w'
                go_simp
                with_reducible rfl
               rotate_left
               ·simp only [Act.put, List.setIfInBounds_toArray, List.set_cons_zero, List.set_cons_succ, i64_w, i32_w]
                rfl
               refine done_ (done_of HT_.out (by kernel_rfl)) ?_
               try go_wp2
               go_ret
               exact ⟨by first | rfl | (simp [errW_none, errW_some] <;> rfl) | (simp only [← hji2]; first | rfl | (simp [errW_none, errW_some] <;> rfl)) | (simp [*, errW_none, errW_some] <;> rfl), pwg_⟩
              ·rw [if_neg c33] at H
               exact absurd H (by simp)
             ·rw [if_neg c31] at H
              exact absurd H (by simp)
            ·rw [if_neg c30] at H
             exact absurd H (by simp)
           ·rw [if_neg c28] at H
            exact absurd H (by simp)
          ·rw [if_neg c27] at H
           exact absurd H (by simp)
         ·rw [if_neg c26] at H
          exact absurd H (by simp)
        ·rw [if_neg c25] at H
         exact absurd H (by simp)
       ·rw [if_neg c23] at H
        exact absurd H (by simp)
      ·rw [if_neg c22] at H
       exact absurd H (by simp)
  ·rw [if_neg c4] at H
   exact absurd H (by simp)
 ·rw [if_neg c3] at H
  exact absurd H (by simp)
theorem l2Text_l2Held_c.both (k : Nat) : (∀ (A0 : Option Addr) (c0 : Nat) (l0 : List (S62)) (a1 : Int) (r : ByteArray) (w : World) (hr0 : Kd.C k62 w A0 l0.length l0) (hc0 : l0.length ≤ c0) (h : spec_l2Held.f k l0 a1 = some r),
  Calls Try.prog 93 #[.slice A0 l0.length c0, .int .i64 a1] w fun e w' => e = .returned (.string r) ∧ Below w.heap.size w w') ∧ (∀ (A0 : Option Addr) (c0 : Nat) (l0 : List (S62)) (r : ByteArray) (w : World) (hr0 : Kd.C k62 w A0 l0.length l0) (hc0 : l0.length ≤ c0) (h : spec_l2Text.f k l0 = some r),
  Calls Try.prog 66 #[.slice A0 l0.length c0] w fun e w' => e = .returned (.string r) ∧ Below w.heap.size w w') := by
 induction k using Nat.strongRecOn with
 | _ k ih =>
  exact ⟨spec_l2Held.step k (fun m h => (ih m h).1) (fun m h => (ih m h).2), spec_l2Text.step k (fun m h => (ih m h).1) (fun m h => (ih m h).2)⟩
theorem spec_l2Held.calls (k : Nat) : ∀ (A0 : Option Addr) (c0 : Nat) (l0 : List (S62)) (a1 : Int) (r : ByteArray) (w : World) (hr0 : Kd.C k62 w A0 l0.length l0) (hc0 : l0.length ≤ c0) (h : spec_l2Held.f k l0 a1 = some r),
  Calls Try.prog 93 #[.slice A0 l0.length c0, .int .i64 a1] w fun e w' => e = .returned (.string r) ∧ Below w.heap.size w w' := (l2Text_l2Held_c.both k).1
theorem spec_l2Text.calls (k : Nat) : ∀ (A0 : Option Addr) (c0 : Nat) (l0 : List (S62)) (r : ByteArray) (w : World) (hr0 : Kd.C k62 w A0 l0.length l0) (hc0 : l0.length ≤ c0) (h : spec_l2Text.f k l0 = some r),
  Calls Try.prog 66 #[.slice A0 l0.length c0] w fun e w' => e = .returned (.string r) ∧ Below w.heap.size w w' := (l2Text_l2Held_c.both k).2

/-! ### spec_ReadTerm: function 17 -/
def spec_ReadTerm.f (k : Nat) (a0 : Int) (a1 : ByteArray) : Option ((List (S62)) × Bool) := if (a1.size : Int) > 60 then (some ((([] : List (S62))), false)) else ((spec_l2Level.f k a1 0 5).bind fun bt372 => (if bt372.2 = (a1.size : Int) then ((spec_TermOk.f k a0 bt372.1).bind fun t376 => (if t376 = true then ((spec_l2Text.f k bt372.1).bind fun t377 => (if t377.toList = a1.toList then (some (bt372.1, true)) else (some ((([] : List (S62))), false)))) else (some ((([] : List (S62))), false)))) else (some ((([] : List (S62))), false))))
theorem spec_ReadTerm.mono : ∀ a0 a1 k, LeO (spec_ReadTerm.f k a0 a1) (spec_ReadTerm.f (k + 1) a0 a1) := by
 intro a0 a1 k
 unfold spec_ReadTerm.f
 repeat' first
   | (with_reducible exact spec_TermOk.mono _ _ _)
   | (with_reducible exact spec_l2Level.mono _ _ _ _)
   | (with_reducible exact spec_l2Text.mono _ _)
   | (with_reducible exact LeO.refl _)
   | (with_reducible exact LeO.none _)
   | (with_reducible refine LeO.ite ?_ ?_)
   | (with_reducible refine LeO.bind ?_ (fun _ => ?_))
   | exact spec_TermOk.mono _ _ _
   | exact spec_l2Level.mono _ _ _ _
   | exact spec_l2Text.mono _ _
   | exact LeO.none _
   | refine LeO.ite ?_ ?_
   | refine LeO.bind ?_ (fun _ => ?_)
set_option maxHeartbeats 8000000 in
set_option maxRecDepth 100000 in
theorem spec_ReadTerm.calls (k : Nat) (a0 : Int) (a1 : ByteArray) (r1 : List (S62)) (r2 : Bool) (w : World) (h : spec_ReadTerm.f k a0 a1 = some (r1, r2)) :
  Calls Try.prog 17 #[.int .i64 a0, .string a1] w fun e w' => ∃ v0_ : Value, e = .returned (.tuple #[v0_, .bool r2]) ∧ Kd.R k62 62 w' w.heap.size (fun _ => True) v0_ r1 ∧ Below w.heap.size w w' := by
 have HB := Aside0.mk (Below.refl w.heap.size w)
 have H : (if (a1.size : Int) > 60 then (some ((([] : List (S62))), false)) else ((spec_l2Level.f k a1 0 5).bind fun bt372 => (if bt372.2 = (a1.size : Int) then ((spec_TermOk.f k a0 bt372.1).bind fun t376 => (if t376 = true then ((spec_l2Text.f k bt372.1).bind fun t377 => (if t377.toList = a1.toList then (some (bt372.1, true)) else (some ((([] : List (S62))), false)))) else (some ((([] : List (S62))), false)))) else (some ((([] : List (S62))), false))))) = some (r1, r2) := h
 clear h
 by_cases c3 : (a1.size : Int) > 60
 ·rw [if_pos c3] at H
  have c3b0 : decide (60 < (a1.size : Int)) = true := decide_eq_true c3
  have c3b1 : decide (60 < a1.size) = true := decide_eq_true (by omega)
  clear c3
  obtain ⟨y369, hy369⟩ : ∃ y_ : List (S62), y_ = (([] : List (S62))) := ⟨_, rfl⟩
  replace H : (some (y369, false)) = some (r1, r2) := by first | (rw [hy369]; with_reducible exact H) | (have H2_ := (Option.bind_some _ _).symm.trans H; rw [hy369]; with_reducible exact H2_) | (have H2_ := (Option.bind_some _ _).symm.trans H; with_reducible exact H2_) | with_reducible exact H | (rw [hy369]; exact H) | exact H
  have Ny369 := Aside0.mk hy369
  clear hy369
  simp only [Option.some.injEq, Prod.mk.injEq] at H
  obtain ⟨rfl, rfl⟩ := H
  go_enter Try.func17, Try.ntmps17
  go_wp2_with (first | ((with_reducible refine gate_dst (N := 11) rfl ?_); refine Kd.R_lit k62 _ 62 ?hg (N := 11) ?hd (xs := ([] : List (S62))) (inner := []) (ok := fun _ => True) (okp := fun _ => True) ?hr ?hp (fun _ hk => hk) trivial (Below.refl _ _) (Nat.le_refl _) (by simp) ?_; (case hd => rfl); (case hg => rfl); (case hr => first | (go_simp; done) | (go_simp; rfl)); (case hp => exact (Reps.none _ _)); intro v370 w4 ho5 hb hg_ hnew_; clear hg_ hnew_; (first | rw [← Ny369.out] at ho5 | (simp only [Int.reduceToNat] at ho5; rw [← Ny369.out] at ho5)); have n0_ := Aside0.mk (Kd.R_lower ho5 (below_size pwg_)); have n1_ := Aside0.mk (below_step pwg_ hb); clear HB; have HO371 := n0_; have HB := n1_; clear n0_ n1_; clear hb ho5))
  go_ret2
  exact ⟨_, by first | rfl | (simp [errW_none, errW_some] <;> rfl) | (simp [*, errW_none, errW_some] <;> rfl), by (with_reducible repeat apply Kd.R_alloc); exact HO371.out, pwg_⟩
 ·rw [if_neg c3] at H
  have c3b0 : decide (60 < (a1.size : Int)) = false := decide_eq_false c3
  have c3b1 : decide (60 < a1.size) = false := decide_eq_false (by omega)
  clear c3
  replace H := Option.bind_eq_some_iff.mp H
  obtain ⟨⟨t372, t373⟩, A60, H⟩ := H
  replace H : (if t373 = (a1.size : Int) then ((spec_TermOk.f k a0 t372).bind fun t376 => (if t376 = true then ((spec_l2Text.f k t372).bind fun t377 => (if t377.toList = a1.toList then (some (t372, true)) else (some ((([] : List (S62))), false)))) else (some ((([] : List (S62))), false)))) else (some ((([] : List (S62))), false))) = some (r1, r2) := H
  have A6 := Aside0.mk A60
  clear A60
  by_cases c7 : t373 = (a1.size : Int)
  ·rw [if_pos c7] at H
   have c7b0 : (t373 == (a1.size : Int)) = true := beq_iff_eq.mpr c7
   have c7b1 : (t373 != (a1.size : Int)) = false := bne_eq_false_iff_eq.mpr c7
   clear c7
   replace H := Option.bind_eq_some_iff.mp H
   obtain ⟨t376, A80, H⟩ := H
   replace H : (if t376 = true then ((spec_l2Text.f k t372).bind fun t377 => (if t377.toList = a1.toList then (some (t372, true)) else (some ((([] : List (S62))), false)))) else (some ((([] : List (S62))), false))) = some (r1, r2) := H
   have A8 := Aside0.mk A80
   clear A80
   by_cases c9 : t376 = true
   ·subst c9
    have H1 : ((spec_l2Text.f k t372).bind fun t377 => (if t377.toList = a1.toList then (some (t372, true)) else (some ((([] : List (S62))), false)))) = some (r1, r2) := by rw [if_pos rfl] at H; exact H
    clear H
    have H := H1
    clear H1
    replace H := Option.bind_eq_some_iff.mp H
    obtain ⟨t377, A100, H⟩ := H
    replace H : (if t377.toList = a1.toList then (some (t372, true)) else (some ((([] : List (S62))), false))) = some (r1, r2) := H
    have A10 := Aside0.mk A100
    clear A100
    by_cases c11 : t377.toList = a1.toList
    ·rw [if_pos c11] at H
     have c11b0 : (t377.toList == a1.toList) = true := beq_iff_eq.mpr c11
     have c11b1 : (t377.toList != a1.toList) = false := bne_eq_false_iff_eq.mpr c11
     clear c11
     simp only [Option.some.injEq, Prod.mk.injEq] at H
     obtain ⟨rfl, rfl⟩ := H
     go_enter Try.func17, Try.ntmps17
     go_wp2_with (first | ((with_reducible refine gate_callee (f := 64) rfl ?_); refine goesL_ (some 14) rfl rfl Try.func64 (by kernel_rfl) rfl #[.string a1, .int .i64 0, .int .i64 5] rfl pwh_ ?_; (with_reducible refine (spec_l2Level.calls k a1 0 5 t372 t373 _ A6.out).mono ?_); rintro e w12 ⟨v374, rfl, ho0, hb⟩; refine ⟨_, rfl, ?_⟩; have n0_ := Aside0.mk (Kd.R_lower ho0 (below_size pwg_)); have n1_ := Aside0.mk (below_step pwg_ hb); clear HB; have HO375 := n0_; have HB := n1_; clear n0_ n1_; (try clear hb); (try clear hb2); (try clear hk); (try clear hi); (try clear ho0); obtain ⟨Ao13, co13, eo13⟩ := Kd.R_slice HO375.out; subst eo13) | (go_at_call 65; (with_reducible refine (spec_TermOk.calls k a0 _ _ t372 true _ ?side1 ?side2 A8.out).mono ?_); (case side1 => repeat (first | exact (Kd.R_reads' HO375.out).2.2 | (with_reducible refine Kd.C_alloc ?_ _) | (with_reducible refine Kd.C_drewN ?_ _) | (with_reducible refine Kd.C_drew ?_))); (case side2 => exact (Kd.R_reads' HO375.out).2.1); rintro e w' ⟨rfl, ⟨nd, rfl⟩⟩) | (go_at_call 66; (with_reducible refine (spec_l2Text.calls k _ _ t372 t377 _ ?side1 ?side2 A10.out).mono ?_); (case side1 => repeat (first | exact (Kd.R_reads' HO375.out).2.2 | (with_reducible refine Kd.C_alloc ?_ _) | (with_reducible refine Kd.C_drewN ?_ _) | (with_reducible refine Kd.C_drew ?_))); (case side2 => exact (Kd.R_reads' HO375.out).2.1); rintro e w14 ⟨rfl, hb⟩; have n0_ := Aside0.mk (Kd.R_below (by (with_reducible repeat apply Kd.R_alloc); exact HO375.out) hb); have n1_ := Aside0.mk (below_step pwg_ hb); clear HO375; clear HB; have HO375 := n0_; have HB := n1_; clear n0_ n1_; (try clear hb); (try clear hb2); (try clear hk); (try clear hi)))
     go_ret2
     exact ⟨_, by first | rfl | (simp [errW_none, errW_some] <;> rfl) | (simp [*, errW_none, errW_some] <;> rfl), by (with_reducible repeat apply Kd.R_alloc); exact HO375.out, pwg_⟩
    ·rw [if_neg c11] at H
     have c11b0 : (t377.toList == a1.toList) = false := beq_eq_false_iff_ne.mpr c11
     have c11b1 : (t377.toList != a1.toList) = true := bne_iff_ne.mpr c11
     obtain ⟨y378, hy378⟩ : ∃ y_ : List (S62), y_ = (([] : List (S62))) := ⟨_, rfl⟩
     replace H : (some (y378, false)) = some (r1, r2) := by first | (rw [hy378]; with_reducible exact H) | (have H2_ := (Option.bind_some _ _).symm.trans H; rw [hy378]; with_reducible exact H2_) | (have H2_ := (Option.bind_some _ _).symm.trans H; with_reducible exact H2_) | with_reducible exact H | (rw [hy378]; exact H) | exact H
     have Ny378 := Aside0.mk hy378
     clear hy378
     simp only [Option.some.injEq, Prod.mk.injEq] at H
     obtain ⟨rfl, rfl⟩ := H
     go_enter Try.func17, Try.ntmps17
     go_wp2_with (first | ((with_reducible refine gate_callee (f := 64) rfl ?_); refine goesL_ (some 14) rfl rfl Try.func64 (by kernel_rfl) rfl #[.string a1, .int .i64 0, .int .i64 5] rfl pwh_ ?_; (with_reducible refine (spec_l2Level.calls k a1 0 5 t372 t373 _ A6.out).mono ?_); rintro e w15 ⟨v374, rfl, ho0, hb⟩; refine ⟨_, rfl, ?_⟩; have n0_ := Aside0.mk (Kd.R_lower ho0 (below_size pwg_)); have n1_ := Aside0.mk (below_step pwg_ hb); clear HB; have HO375 := n0_; have HB := n1_; clear n0_ n1_; (try clear hb); (try clear hb2); (try clear hk); (try clear hi); (try clear ho0); obtain ⟨Ao16, co16, eo16⟩ := Kd.R_slice HO375.out; subst eo16) | (go_at_call 65; (with_reducible refine (spec_TermOk.calls k a0 _ _ t372 true _ ?side1 ?side2 A8.out).mono ?_); (case side1 => repeat (first | exact (Kd.R_reads' HO375.out).2.2 | (with_reducible refine Kd.C_alloc ?_ _) | (with_reducible refine Kd.C_drewN ?_ _) | (with_reducible refine Kd.C_drew ?_))); (case side2 => exact (Kd.R_reads' HO375.out).2.1); rintro e w' ⟨rfl, ⟨nd, rfl⟩⟩) | (go_at_call 66; (with_reducible refine (spec_l2Text.calls k _ _ t372 t377 _ ?side1 ?side2 A10.out).mono ?_); (case side1 => repeat (first | exact (Kd.R_reads' HO375.out).2.2 | (with_reducible refine Kd.C_alloc ?_ _) | (with_reducible refine Kd.C_drewN ?_ _) | (with_reducible refine Kd.C_drew ?_))); (case side2 => exact (Kd.R_reads' HO375.out).2.1); rintro e w17 ⟨rfl, hb⟩; have n0_ := Aside0.mk (Kd.R_below (by (with_reducible repeat apply Kd.R_alloc); exact HO375.out) hb); have n1_ := Aside0.mk (below_step pwg_ hb); clear HO375; clear HB; have HO375 := n0_; have HB := n1_; clear n0_ n1_; (try clear hb); (try clear hb2); (try clear hk); (try clear hi)) | ((with_reducible refine gate_dst (N := 33) rfl ?_); refine Kd.R_lit k62 _ 62 ?hg (N := 33) ?hd (xs := ([] : List (S62))) (inner := []) (ok := fun _ => True) (okp := fun _ => True) ?hr ?hp (fun _ hk => hk) trivial (Below.refl _ _) (Nat.le_refl _) (by simp) ?_; (case hd => rfl); (case hg => rfl); (case hr => first | (go_simp; done) | (go_simp; rfl)); (case hp => exact (Reps.none _ _)); intro v379 w18 ho19 hb hg_ hnew_; clear hg_ hnew_; (first | rw [← Ny378.out] at ho19 | (simp only [Int.reduceToNat] at ho19; rw [← Ny378.out] at ho19)); have n0_ := Aside0.mk (Kd.R_elder' (by (with_reducible repeat apply Kd.R_alloc); exact HO375.out) (Kd.R_base ho19) hb); have n1_ := Aside0.mk (Kd.R_lower (Kd.R_new' ho19 (Kd.R_lt (by (with_reducible repeat apply Kd.R_alloc); exact HO375.out))) (below_size pwg_)); have n2_ := Aside0.mk (below_step pwg_ hb); clear HO375; clear HB; have HO375 := n0_; have HO380 := n1_; have HB := n2_; clear n0_ n1_ n2_; clear hb ho19))
     go_ret2
     exact ⟨_, by first | rfl | (simp [errW_none, errW_some] <;> rfl) | (simp [*, errW_none, errW_some] <;> rfl), by (with_reducible repeat apply Kd.R_alloc); exact Kd.R_mono HO380.out (fun _ hk => trivial), pwg_⟩
   ·replace c9 := Bool.eq_false_iff.mpr c9
    subst c9
    have H1 : (some ((([] : List (S62))), false)) = some (r1, r2) := by rw [if_neg (show ¬ (false = true) by decide)] at H; exact H
    clear H
    have H := H1
    clear H1
    obtain ⟨y381, hy381⟩ : ∃ y_ : List (S62), y_ = (([] : List (S62))) := ⟨_, rfl⟩
    replace H : (some (y381, false)) = some (r1, r2) := by first | (rw [hy381]; with_reducible exact H) | (have H2_ := (Option.bind_some _ _).symm.trans H; rw [hy381]; with_reducible exact H2_) | (have H2_ := (Option.bind_some _ _).symm.trans H; with_reducible exact H2_) | with_reducible exact H | (rw [hy381]; exact H) | exact H
    have Ny381 := Aside0.mk hy381
    clear hy381
    simp only [Option.some.injEq, Prod.mk.injEq] at H
    obtain ⟨rfl, rfl⟩ := H
    go_enter Try.func17, Try.ntmps17
    go_wp2_with (first | ((with_reducible refine gate_callee (f := 64) rfl ?_); refine goesL_ (some 14) rfl rfl Try.func64 (by kernel_rfl) rfl #[.string a1, .int .i64 0, .int .i64 5] rfl pwh_ ?_; (with_reducible refine (spec_l2Level.calls k a1 0 5 t372 t373 _ A6.out).mono ?_); rintro e w20 ⟨v374, rfl, ho0, hb⟩; refine ⟨_, rfl, ?_⟩; have n0_ := Aside0.mk (Kd.R_lower ho0 (below_size pwg_)); have n1_ := Aside0.mk (below_step pwg_ hb); clear HB; have HO375 := n0_; have HB := n1_; clear n0_ n1_; (try clear hb); (try clear hb2); (try clear hk); (try clear hi); (try clear ho0); obtain ⟨Ao21, co21, eo21⟩ := Kd.R_slice HO375.out; subst eo21) | (go_at_call 65; (with_reducible refine (spec_TermOk.calls k a0 _ _ t372 false _ ?side1 ?side2 A8.out).mono ?_); (case side1 => repeat (first | exact (Kd.R_reads' HO375.out).2.2 | (with_reducible refine Kd.C_alloc ?_ _) | (with_reducible refine Kd.C_drewN ?_ _) | (with_reducible refine Kd.C_drew ?_))); (case side2 => exact (Kd.R_reads' HO375.out).2.1); rintro e w' ⟨rfl, ⟨nd, rfl⟩⟩) | ((with_reducible refine gate_dst (N := 33) rfl ?_); refine Kd.R_lit k62 _ 62 ?hg (N := 33) ?hd (xs := ([] : List (S62))) (inner := []) (ok := fun _ => True) (okp := fun _ => True) ?hr ?hp (fun _ hk => hk) trivial (Below.refl _ _) (Nat.le_refl _) (by simp) ?_; (case hd => rfl); (case hg => rfl); (case hr => first | (go_simp; done) | (go_simp; rfl)); (case hp => exact (Reps.none _ _)); intro v382 w22 ho23 hb hg_ hnew_; clear hg_ hnew_; (first | rw [← Ny381.out] at ho23 | (simp only [Int.reduceToNat] at ho23; rw [← Ny381.out] at ho23)); have n0_ := Aside0.mk (Kd.R_elder' (by (with_reducible repeat apply Kd.R_alloc); exact HO375.out) (Kd.R_base ho23) hb); have n1_ := Aside0.mk (Kd.R_lower (Kd.R_new' ho23 (Kd.R_lt (by (with_reducible repeat apply Kd.R_alloc); exact HO375.out))) (below_size pwg_)); have n2_ := Aside0.mk (below_step pwg_ hb); clear HO375; clear HB; have HO375 := n0_; have HO383 := n1_; have HB := n2_; clear n0_ n1_ n2_; clear hb ho23))
    go_ret2
    exact ⟨_, by first | rfl | (simp [errW_none, errW_some] <;> rfl) | (simp [*, errW_none, errW_some] <;> rfl), by (with_reducible repeat apply Kd.R_alloc); exact Kd.R_mono HO383.out (fun _ hk => trivial), pwg_⟩
  ·rw [if_neg c7] at H
   have c7b0 : (t373 == (a1.size : Int)) = false := beq_eq_false_iff_ne.mpr c7
   have c7b1 : (t373 != (a1.size : Int)) = true := bne_iff_ne.mpr c7
   obtain ⟨y384, hy384⟩ : ∃ y_ : List (S62), y_ = (([] : List (S62))) := ⟨_, rfl⟩
   replace H : (some (y384, false)) = some (r1, r2) := by first | (rw [hy384]; with_reducible exact H) | (have H2_ := (Option.bind_some _ _).symm.trans H; rw [hy384]; with_reducible exact H2_) | (have H2_ := (Option.bind_some _ _).symm.trans H; with_reducible exact H2_) | with_reducible exact H | (rw [hy384]; exact H) | exact H
   have Ny384 := Aside0.mk hy384
   clear hy384
   simp only [Option.some.injEq, Prod.mk.injEq] at H
   obtain ⟨rfl, rfl⟩ := H
   go_enter Try.func17, Try.ntmps17
   go_wp2_with (first | ((with_reducible refine gate_callee (f := 64) rfl ?_); refine goesL_ (some 14) rfl rfl Try.func64 (by kernel_rfl) rfl #[.string a1, .int .i64 0, .int .i64 5] rfl pwh_ ?_; (with_reducible refine (spec_l2Level.calls k a1 0 5 t372 t373 _ A6.out).mono ?_); rintro e w24 ⟨v374, rfl, ho0, hb⟩; refine ⟨_, rfl, ?_⟩; have n0_ := Aside0.mk (Kd.R_lower ho0 (below_size pwg_)); have n1_ := Aside0.mk (below_step pwg_ hb); clear HB; have HO375 := n0_; have HB := n1_; clear n0_ n1_; (try clear hb); (try clear hb2); (try clear hk); (try clear hi); (try clear ho0)) | ((with_reducible refine gate_dst (N := 33) rfl ?_); refine Kd.R_lit k62 _ 62 ?hg (N := 33) ?hd (xs := ([] : List (S62))) (inner := []) (ok := fun _ => True) (okp := fun _ => True) ?hr ?hp (fun _ hk => hk) trivial (Below.refl _ _) (Nat.le_refl _) (by simp) ?_; (case hd => rfl); (case hg => rfl); (case hr => first | (go_simp; done) | (go_simp; rfl)); (case hp => exact (Reps.none _ _)); intro v385 w25 ho26 hb hg_ hnew_; clear hg_ hnew_; (first | rw [← Ny384.out] at ho26 | (simp only [Int.reduceToNat] at ho26; rw [← Ny384.out] at ho26)); have n0_ := Aside0.mk (Kd.R_elder' (by (with_reducible repeat apply Kd.R_alloc); exact HO375.out) (Kd.R_base ho26) hb); have n1_ := Aside0.mk (Kd.R_lower (Kd.R_new' ho26 (Kd.R_lt (by (with_reducible repeat apply Kd.R_alloc); exact HO375.out))) (below_size pwg_)); have n2_ := Aside0.mk (below_step pwg_ hb); clear HO375; clear HB; have HO375 := n0_; have HO386 := n1_; have HB := n2_; clear n0_ n1_ n2_; clear hb ho26))
   go_ret2
   exact ⟨_, by first | rfl | (simp [errW_none, errW_some] <;> rfl) | (simp [*, errW_none, errW_some] <;> rfl), by (with_reducible repeat apply Kd.R_alloc); exact Kd.R_mono HO386.out (fun _ hk => trivial), pwg_⟩

/-! ### laws_eqMark: function 70 -/
def laws_eqMark.f (a0_0 : Int) (a0_1 : Int) (a1_0 : Int) (a1_1 : Int) : Option (Bool) := if a0_0 = a1_0 then (if a0_1 = a1_1 then (some true) else (some false)) else (some false)
set_option maxHeartbeats 8000000 in
set_option maxRecDepth 100000 in
theorem laws_eqMark.calls (a0_0 : Int) (a0_1 : Int) (a1_0 : Int) (a1_1 : Int) (r : Bool) (w : World) (h : laws_eqMark.f a0_0 a0_1 a1_0 a1_1 = some r) :
  Calls Try.prog 70 #[.agg #[.int .i64 a0_0, .int .i64 a0_1], .agg #[.int .i64 a1_0, .int .i64 a1_1]] w fun e w' => e = .returned (.bool r) ∧ Below w.heap.size w w' := by
 have hu62 := Try.underlying62
 have HB := Aside0.mk (Below.refl w.heap.size w)
 have H : (if a0_0 = a1_0 then (if a0_1 = a1_1 then (some true) else (some false)) else (some false)) = some r := h
 clear h
 by_cases c3 : a0_0 = a1_0
 ·rw [if_pos c3] at H
  have c3b0 : (a0_0 == a1_0) = true := beq_iff_eq.mpr c3
  have c3b1 : (a0_0 != a1_0) = false := bne_eq_false_iff_eq.mpr c3
  clear c3
  by_cases c4 : a0_1 = a1_1
  ·rw [if_pos c4] at H
   have c4b0 : (a0_1 == a1_1) = true := beq_iff_eq.mpr c4
   have c4b1 : (a0_1 != a1_1) = false := bne_eq_false_iff_eq.mpr c4
   clear c4
   obtain rfl := Option.some.inj H
   go_enter Try.func70, Try.ntmps70
   go_wp2_with (first | ((with_reducible refine gate_dst (N := 2) rfl ?_); refine box_event ?hg (N := 2) ?hd (cs := #[.int .i64 a0_0, .int .i64 a0_1]) (t := 62) ?hr ?_; (case hd => rfl); (case hg => rfl); (case hr => first | (go_simp; done) | (go_simp; rfl)); intro gb387 hg w5 hbox hb; have n0_ := Aside0.mk (below_step pwg_ hb); have n1_ := Aside0.mk (hbox); have n2_ := Aside0.mk ((by rw [hg]; exact (below_size pwg_) : w.heap.size ≤ gb387)); have n3_ := Aside0.mk ((by rw [hg]; exact (below_size pwg_) : w.heap.size ≤ gb387)); clear HB; have HB := n0_; have BK387 := n1_; have GW387 := n2_; have GE387 := n3_; clear n0_ n1_ n2_ n3_; clear hb hbox hg) | ((with_reducible refine gate_dst (N := 3) rfl ?_); refine box_event ?hg (N := 3) ?hd (cs := #[.int .i64 a1_0, .int .i64 a1_1]) (t := 62) ?hr ?_; (case hd => rfl); (case hg => rfl); (case hr => first | (go_simp; done) | (go_simp; rfl)); intro gb388 hg w6 hbox hb; have n0_ := Aside0.mk (blk_below (g := gb387) (o := .cells #[.int .i64 a0_0, .int .i64 a0_1] 62 (0, 0)) pwf_ hb); have n1_ := Aside0.mk (below_step (by repeat (first | (with_reducible first | exact HB.out | apply below_alloc | apply pw_below_drewN | apply below_drew1 | refine below_set ?_ GE387.out) | exact HB.out)) hb); have n2_ := Aside0.mk (hbox); have n3_ := Aside0.mk ((by rw [hg]; exact (below_size (by repeat (first | (with_reducible first | exact HB.out | apply below_alloc | apply pw_below_drewN | apply below_drew1 | refine below_set ?_ GE387.out) | exact HB.out))) : w.heap.size ≤ gb388)); have n4_ := Aside0.mk ((by rw [hg]; exact (below_size (by repeat (first | (with_reducible first | exact HB.out | apply below_alloc | apply pw_below_drewN | apply below_drew1 | refine below_set ?_ GE387.out) | exact HB.out))) : w.heap.size ≤ gb388)); have n5_ := Aside0.mk ((by rw [hg]; exact Nat.ne_of_lt (blk_lt (g := gb387) (o := .cells #[.int .i64 a0_0, .int .i64 a0_1] 62 (0, 0)) pwf_) : gb387 ≠ gb388)); have n6_ := Aside0.mk ((by rw [hg]; exact Nat.ne_of_gt (blk_lt (g := gb387) (o := .cells #[.int .i64 a0_0, .int .i64 a0_1] 62 (0, 0)) pwf_) : gb388 ≠ gb387)); clear BK387; clear HB; have BK387 := n0_; have HB := n1_; have BK388 := n2_; have GW388 := n3_; have GE388 := n4_; have NB387_388 := n5_; have NB388_387 := n6_; clear n0_ n1_ n2_ n3_ n4_ n5_ n6_; clear hb hbox hg; have hnb7 := NB387_388.out; have hnc7 := NB388_387.out; have hcz8_0 : w6.cell? ⟨gb387, 0, none⟩ = some (.int .i64 a0_0) := (blk_cell BK387.out 0).trans rfl; have hcz8_1 : w6.cell? ⟨gb387, 1, none⟩ = some (.int .i64 a0_1) := (blk_cell BK387.out 1).trans rfl; have hfz8_0 := blk_frozen BK387.out 0; have hfz8_1 := blk_frozen BK387.out 1; have hcz9_0 : w6.cell? ⟨gb388, 0, none⟩ = some (.int .i64 a1_0) := (blk_cell BK388.out 0).trans rfl; have hcz9_1 : w6.cell? ⟨gb388, 1, none⟩ = some (.int .i64 a1_1) := (blk_cell BK388.out 1).trans rfl; have hfz9_0 := blk_frozen BK388.out 0; have hfz9_1 := blk_frozen BK388.out 1))
   go_ret
   exact ⟨by first | rfl | (simp [errW_none, errW_some] <;> rfl) | (simp [*, errW_none, errW_some] <;> rfl), by repeat (first | (with_reducible first | exact HB.out | apply below_alloc | apply pw_below_drewN | apply below_drew1 | refine below_set ?_ GE387.out | refine below_set ?_ GE388.out) | exact HB.out)⟩
  ·rw [if_neg c4] at H
   have c4b0 : (a0_1 == a1_1) = false := beq_eq_false_iff_ne.mpr c4
   have c4b1 : (a0_1 != a1_1) = true := bne_iff_ne.mpr c4
   obtain rfl := Option.some.inj H
   go_enter Try.func70, Try.ntmps70
   go_wp2_with (first | ((with_reducible refine gate_dst (N := 2) rfl ?_); refine box_event ?hg (N := 2) ?hd (cs := #[.int .i64 a0_0, .int .i64 a0_1]) (t := 62) ?hr ?_; (case hd => rfl); (case hg => rfl); (case hr => first | (go_simp; done) | (go_simp; rfl)); intro gb387 hg w10 hbox hb; have n0_ := Aside0.mk (below_step pwg_ hb); have n1_ := Aside0.mk (hbox); have n2_ := Aside0.mk ((by rw [hg]; exact (below_size pwg_) : w.heap.size ≤ gb387)); have n3_ := Aside0.mk ((by rw [hg]; exact (below_size pwg_) : w.heap.size ≤ gb387)); clear HB; have HB := n0_; have BK387 := n1_; have GW387 := n2_; have GE387 := n3_; clear n0_ n1_ n2_ n3_; clear hb hbox hg) | ((with_reducible refine gate_dst (N := 3) rfl ?_); refine box_event ?hg (N := 3) ?hd (cs := #[.int .i64 a1_0, .int .i64 a1_1]) (t := 62) ?hr ?_; (case hd => rfl); (case hg => rfl); (case hr => first | (go_simp; done) | (go_simp; rfl)); intro gb388 hg w11 hbox hb; have n0_ := Aside0.mk (blk_below (g := gb387) (o := .cells #[.int .i64 a0_0, .int .i64 a0_1] 62 (0, 0)) pwf_ hb); have n1_ := Aside0.mk (below_step (by repeat (first | (with_reducible first | exact HB.out | apply below_alloc | apply pw_below_drewN | apply below_drew1 | refine below_set ?_ GE387.out) | exact HB.out)) hb); have n2_ := Aside0.mk (hbox); have n3_ := Aside0.mk ((by rw [hg]; exact (below_size (by repeat (first | (with_reducible first | exact HB.out | apply below_alloc | apply pw_below_drewN | apply below_drew1 | refine below_set ?_ GE387.out) | exact HB.out))) : w.heap.size ≤ gb388)); have n4_ := Aside0.mk ((by rw [hg]; exact (below_size (by repeat (first | (with_reducible first | exact HB.out | apply below_alloc | apply pw_below_drewN | apply below_drew1 | refine below_set ?_ GE387.out) | exact HB.out))) : w.heap.size ≤ gb388)); have n5_ := Aside0.mk ((by rw [hg]; exact Nat.ne_of_lt (blk_lt (g := gb387) (o := .cells #[.int .i64 a0_0, .int .i64 a0_1] 62 (0, 0)) pwf_) : gb387 ≠ gb388)); have n6_ := Aside0.mk ((by rw [hg]; exact Nat.ne_of_gt (blk_lt (g := gb387) (o := .cells #[.int .i64 a0_0, .int .i64 a0_1] 62 (0, 0)) pwf_) : gb388 ≠ gb387)); clear BK387; clear HB; have BK387 := n0_; have HB := n1_; have BK388 := n2_; have GW388 := n3_; have GE388 := n4_; have NB387_388 := n5_; have NB388_387 := n6_; clear n0_ n1_ n2_ n3_ n4_ n5_ n6_; clear hb hbox hg; have hnb12 := NB387_388.out; have hnc12 := NB388_387.out; have hcz13_0 : w11.cell? ⟨gb387, 0, none⟩ = some (.int .i64 a0_0) := (blk_cell BK387.out 0).trans rfl; have hcz13_1 : w11.cell? ⟨gb387, 1, none⟩ = some (.int .i64 a0_1) := (blk_cell BK387.out 1).trans rfl; have hfz13_0 := blk_frozen BK387.out 0; have hfz13_1 := blk_frozen BK387.out 1; have hcz14_0 : w11.cell? ⟨gb388, 0, none⟩ = some (.int .i64 a1_0) := (blk_cell BK388.out 0).trans rfl; have hcz14_1 : w11.cell? ⟨gb388, 1, none⟩ = some (.int .i64 a1_1) := (blk_cell BK388.out 1).trans rfl; have hfz14_0 := blk_frozen BK388.out 0; have hfz14_1 := blk_frozen BK388.out 1))
   go_ret
   exact ⟨by first | rfl | (simp [errW_none, errW_some] <;> rfl) | (simp [*, errW_none, errW_some] <;> rfl), by repeat (first | (with_reducible first | exact HB.out | apply below_alloc | apply pw_below_drewN | apply below_drew1 | refine below_set ?_ GE387.out | refine below_set ?_ GE388.out) | exact HB.out)⟩
 ·rw [if_neg c3] at H
  have c3b0 : (a0_0 == a1_0) = false := beq_eq_false_iff_ne.mpr c3
  have c3b1 : (a0_0 != a1_0) = true := bne_iff_ne.mpr c3
  obtain rfl := Option.some.inj H
  go_enter Try.func70, Try.ntmps70
  go_wp2_with (first | ((with_reducible refine gate_dst (N := 2) rfl ?_); refine box_event ?hg (N := 2) ?hd (cs := #[.int .i64 a0_0, .int .i64 a0_1]) (t := 62) ?hr ?_; (case hd => rfl); (case hg => rfl); (case hr => first | (go_simp; done) | (go_simp; rfl)); intro gb387 hg w15 hbox hb; have n0_ := Aside0.mk (below_step pwg_ hb); have n1_ := Aside0.mk (hbox); have n2_ := Aside0.mk ((by rw [hg]; exact (below_size pwg_) : w.heap.size ≤ gb387)); have n3_ := Aside0.mk ((by rw [hg]; exact (below_size pwg_) : w.heap.size ≤ gb387)); clear HB; have HB := n0_; have BK387 := n1_; have GW387 := n2_; have GE387 := n3_; clear n0_ n1_ n2_ n3_; clear hb hbox hg) | ((with_reducible refine gate_dst (N := 3) rfl ?_); refine box_event ?hg (N := 3) ?hd (cs := #[.int .i64 a1_0, .int .i64 a1_1]) (t := 62) ?hr ?_; (case hd => rfl); (case hg => rfl); (case hr => first | (go_simp; done) | (go_simp; rfl)); intro gb388 hg w16 hbox hb; have n0_ := Aside0.mk (blk_below (g := gb387) (o := .cells #[.int .i64 a0_0, .int .i64 a0_1] 62 (0, 0)) pwf_ hb); have n1_ := Aside0.mk (below_step (by repeat (first | (with_reducible first | exact HB.out | apply below_alloc | apply pw_below_drewN | apply below_drew1 | refine below_set ?_ GE387.out) | exact HB.out)) hb); have n2_ := Aside0.mk (hbox); have n3_ := Aside0.mk ((by rw [hg]; exact (below_size (by repeat (first | (with_reducible first | exact HB.out | apply below_alloc | apply pw_below_drewN | apply below_drew1 | refine below_set ?_ GE387.out) | exact HB.out))) : w.heap.size ≤ gb388)); have n4_ := Aside0.mk ((by rw [hg]; exact (below_size (by repeat (first | (with_reducible first | exact HB.out | apply below_alloc | apply pw_below_drewN | apply below_drew1 | refine below_set ?_ GE387.out) | exact HB.out))) : w.heap.size ≤ gb388)); have n5_ := Aside0.mk ((by rw [hg]; exact Nat.ne_of_lt (blk_lt (g := gb387) (o := .cells #[.int .i64 a0_0, .int .i64 a0_1] 62 (0, 0)) pwf_) : gb387 ≠ gb388)); have n6_ := Aside0.mk ((by rw [hg]; exact Nat.ne_of_gt (blk_lt (g := gb387) (o := .cells #[.int .i64 a0_0, .int .i64 a0_1] 62 (0, 0)) pwf_) : gb388 ≠ gb387)); clear BK387; clear HB; have BK387 := n0_; have HB := n1_; have BK388 := n2_; have GW388 := n3_; have GE388 := n4_; have NB387_388 := n5_; have NB388_387 := n6_; clear n0_ n1_ n2_ n3_ n4_ n5_ n6_; clear hb hbox hg; have hnb17 := NB387_388.out; have hnc17 := NB388_387.out; have hcz18_0 : w16.cell? ⟨gb387, 0, none⟩ = some (.int .i64 a0_0) := (blk_cell BK387.out 0).trans rfl; have hcz18_1 : w16.cell? ⟨gb387, 1, none⟩ = some (.int .i64 a0_1) := (blk_cell BK387.out 1).trans rfl; have hfz18_0 := blk_frozen BK387.out 0; have hfz18_1 := blk_frozen BK387.out 1; have hcz19_0 : w16.cell? ⟨gb388, 0, none⟩ = some (.int .i64 a1_0) := (blk_cell BK388.out 0).trans rfl; have hcz19_1 : w16.cell? ⟨gb388, 1, none⟩ = some (.int .i64 a1_1) := (blk_cell BK388.out 1).trans rfl; have hfz19_0 := blk_frozen BK388.out 0; have hfz19_1 := blk_frozen BK388.out 1))
  go_ret
  exact ⟨by first | rfl | (simp [errW_none, errW_some] <;> rfl) | (simp [*, errW_none, errW_some] <;> rfl), by repeat (first | (with_reducible first | exact HB.out | apply below_alloc | apply pw_below_drewN | apply below_drew1 | refine below_set ?_ GE387.out | refine below_set ?_ GE388.out) | exact HB.out)⟩

end Go.Proofs.Ytfhmafmfaoknlaa.PFnExactReadTerm
