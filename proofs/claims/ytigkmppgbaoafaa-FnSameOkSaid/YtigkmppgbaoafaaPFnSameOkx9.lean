-- Made by a program of this session (wip/tools/patchprint.py), not by the kit itself.
import Derived.Test.YtigkmppgbaoafaaPFnSameOkx0
import Derived.Test.YtigkmppgbaoafaaPFnSameOkx2
import Derived.Test.YtigkmppgbaoafaaPFnSameOkx4
import Derived.Test.YtigkmppgbaoafaaPFnSameOkx6
import Derived.Test.YtigkmppgbaoafaaPFnSameOkx7
import Derived.Test.YtigkmppgbaoafaaPFnSameOkx8
namespace Go.Proofs.Ytigkmppgbaoafaa.PFnSameOk
open Go.RowKit Go.Proofs.YtigkmppgbaoafaaW.PrintWords Go.Proofs.YtigkmppgbaoafaaW.PrintLast Go.Proofs.YtigkmppgbaoafaaW.PrintMore
attribute [local go_sem] max2_int min2_int max_two min_two max_three min_three max_four min_four   -- for this text's walks alone
set_option linter.unusedVariables false
set_option linter.unusedSimpArgs false

attribute [local go_sem] setCell_isSome
/-! ### spec_l3Table: function 54 -/
def spec_l3Table.l0 : Nat → Int → List (S41) → Int → Int → Option (Int)
 | 0, _, _, _, _ => none
 | k + 1, x0, x1, x5, x6 => if 0 ≤ x0 then (if x6 < (shl .i64 1 x0) then ((spec_l3Holds.f k x1 x6).bind fun t362 => (if t362 = true then (if 0 ≤ x6 then (spec_l3Table.l0 k x0 x1 (Go.bits .or .i64 x5 (shl .i64 1 x6)) (wrap64 (x6 + 1))) else (none)) else (spec_l3Table.l0 k x0 x1 x5 (wrap64 (x6 + 1))))) else (some x5)) else (none)
def spec_l3Table.f (k : Nat) (a0 : Int) (l1 : List (S41)) : Option (Int) := spec_l3Table.l0 k a0 l1 0 0
theorem spec_l3Table.mono_l : ∀ k, (∀ y0 y1 y2 y3, LeO (spec_l3Table.l0 k y0 y1 y2 y3) (spec_l3Table.l0 (k + 1) y0 y1 y2 y3))
 | 0 => fun _ _ _ _ r h => by simp [spec_l3Table.l0] at h
 | k + 1 => by
  have ih0 := spec_l3Table.mono_l k
  ·intro y0 y1 y2 y3
   unfold spec_l3Table.l0
   repeat' first
   | (with_reducible exact ih0 _ _ _ _)
   | (with_reducible exact spec_l3Holds.mono _ _ _)
   | (with_reducible exact LeO.refl _)
   | (with_reducible exact LeO.none _)
   | (with_reducible refine LeO.ite ?_ ?_)
   | (with_reducible refine LeO.bind ?_ (fun _ => ?_))
   | exact ih0 _ _ _ _
   | exact spec_l3Holds.mono _ _ _
   | exact LeO.none _
   | refine LeO.ite ?_ ?_
   | refine LeO.bind ?_ (fun _ => ?_)
theorem spec_l3Table.mono : ∀ a0 a1 k, LeO (spec_l3Table.f k a0 a1) (spec_l3Table.f (k + 1) a0 a1) := by
 intro a0 a1 k
 have ih0 := spec_l3Table.mono_l k
 unfold spec_l3Table.f
 repeat' first
   | (with_reducible exact ih0 _ _ _ _)
   | (with_reducible exact spec_l3Holds.mono _ _ _)
   | (with_reducible exact LeO.refl _)
   | (with_reducible exact LeO.none _)
   | (with_reducible refine LeO.ite ?_ ?_)
   | (with_reducible refine LeO.bind ?_ (fun _ => ?_))
   | exact ih0 _ _ _ _
   | exact spec_l3Holds.mono _ _ _
   | exact LeO.none _
   | refine LeO.ite ?_ ?_
   | refine LeO.bind ?_ (fun _ => ?_)
set_option maxHeartbeats 8000000 in
set_option maxRecDepth 100000 in
theorem spec_l3Table.calls (k : Nat) (a0 : Int) (A1 : Option Addr) (c1 : Nat) (l1 : List (S41)) (r : Int) (w : World) (hr1 : Kd.C k41 w A1 l1.length l1) (hc1 : l1.length ≤ c1) (h : spec_l3Table.f k a0 l1 = some r) :
  Calls Try.prog 54 #[.int .i64 a0, .slice A1 l1.length c1] w fun e w' => e = .returned (.int .i64 r) ∧ Drawn0 w w' := by
 have HR1 := Aside0.mk hr1
 have HC1 := Aside0.mk hc1
 clear hr1 hc1
 have H : (spec_l3Table.l0 k a0 l1 0 0) = some r := h
 clear h
 have H' := Aside0.mk H
 clear H
 go_enter Try.func54, Try.ntmps54
 go_wp2
 go_loopg [5, 6] k (fun kq v5 v6 w' => ∃ (x5_1 : Int) (x6_1 : Int), v5 = .int .i64 x5_1 ∧ v6 = .int .i64 x6_1 ∧ Aside0 (spec_l3Table.l0 kq a0 l1 x5_1 x6_1 = some r) ∧ Aside0 (kq ≤ k) ∧ Drawn0 w w')
 case atStart => exact ⟨(0), (0), pwa_, pwa_, H', ⟨Nat.le_refl _⟩, by repeat (first | exact Drawn0.refl _ | apply Drawn0.step)⟩
 case round =>
  clear H'
  try clear c1
  try clear p2
  obtain ⟨x5_1, x6_1, rfl, rfl, HA, HK1, ⟨m1, rfl⟩⟩ := hrel
  cases gk with
  | zero => exact absurd HA.out (by simp [spec_l3Table.l0])
  | succ k1 =>
   have H := HA.out
   clear HA
   simp only [spec_l3Table.l0] at H
   by_cases c3 : 0 ≤ a0
   ·rw [if_pos c3] at H
    have c3b0 := eq_true c3
    have c3b1 : decide (0 ≤ a0) = true := decide_eq_true c3
    clear c3
    obtain ⟨ji4, hji4⟩ : ∃ j_ : Int, (shl .i64 1 a0) = j_ := ⟨_, rfl⟩
    replace H : (if x6_1 < (ji4) then ((spec_l3Holds.f k1 l1 x6_1).bind fun t362 => (if t362 = true then (if 0 ≤ x6_1 then (spec_l3Table.l0 k1 a0 l1 (Go.bits .or .i64 x5_1 (shl .i64 1 x6_1)) (wrap64 (x6_1 + 1))) else (none)) else (spec_l3Table.l0 k1 a0 l1 x5_1 (wrap64 (x6_1 + 1))))) else (some x5_1)) = some r := by first | (rw [hji4] at H; exact H) | (simp only [hji4] at H ⊢; exact H)
    have hji4_ : (IntKind.i64.wrap (1 * 2 ^ min a0.toNat 64)) = ji4 := hji4
    have hji4z : a0 ≤ 64 → (IntKind.i64.wrap (1 * 2 ^ a0.toNat)) = ji4 := shl_small hji4
    have hji4u : (IntKind.i64.wrap (2 ^ min a0.toNat 64)) = ji4 := by have h_ := hji4_; rw [Int.one_mul] at h_; exact h_
    have hji4v : a0 ≤ 64 → (IntKind.i64.wrap (2 ^ a0.toNat)) = ji4 := fun hle_ => by have h_ := hji4z hle_; rw [Int.one_mul] at h_; exact h_
    have hji4y : (wrap64 (1 * 2 ^ min a0.toNat 64)) = ji4 := (i64_w _).symm.trans hji4_
    have hji4x : a0 ≤ 64 → (wrap64 (1 * 2 ^ a0.toNat)) = ji4 := fun h_ => (i64_w _).symm.trans (hji4z h_)
    by_cases c5 : x6_1 < (ji4)
    ·rw [if_pos c5] at H
     have c5b0 : decide (x6_1 < (ji4)) = true := decide_eq_true c5
     clear c5
     replace H := Option.bind_eq_some_iff.mp H
     obtain ⟨t362, A60, H⟩ := H
     replace H : (if t362 = true then (if 0 ≤ x6_1 then (spec_l3Table.l0 k1 a0 l1 (Go.bits .or .i64 x5_1 (shl .i64 1 x6_1)) (wrap64 (x6_1 + 1))) else (none)) else (spec_l3Table.l0 k1 a0 l1 x5_1 (wrap64 (x6_1 + 1)))) = some r := H
     have A6 := Aside0.mk A60
     clear A60
     by_cases c7 : t362 = true
     ·subst c7
      have H1 : (if 0 ≤ x6_1 then (spec_l3Table.l0 k1 a0 l1 (Go.bits .or .i64 x5_1 (shl .i64 1 x6_1)) (wrap64 (x6_1 + 1))) else (none)) = some r := by rw [if_pos rfl] at H; exact H
      clear H
      have H := H1
      clear H1
      by_cases c8 : 0 ≤ x6_1
      ·rw [if_pos c8] at H
       have c8b0 := eq_true c8
       have c8b1 : decide (0 ≤ x6_1) = true := decide_eq_true c8
       clear c8
       obtain ⟨ji9, hji9⟩ : ∃ j_ : Int, (shl .i64 1 x6_1) = j_ := ⟨_, rfl⟩
       replace H : (spec_l3Table.l0 k1 a0 l1 (Go.bits .or .i64 x5_1 (ji9)) (wrap64 (x6_1 + 1))) = some r := by first | (rw [hji9] at H; exact H) | (simp only [hji9] at H ⊢; exact H)
       (try rw [hji9] at A6)
       have hji9_ : (IntKind.i64.wrap (1 * 2 ^ min x6_1.toNat 64)) = ji9 := hji9
       have hji9z : x6_1 ≤ 64 → (IntKind.i64.wrap (1 * 2 ^ x6_1.toNat)) = ji9 := shl_small hji9
       have hji9u : (IntKind.i64.wrap (2 ^ min x6_1.toNat 64)) = ji9 := by have h_ := hji9_; rw [Int.one_mul] at h_; exact h_
       have hji9v : x6_1 ≤ 64 → (IntKind.i64.wrap (2 ^ x6_1.toNat)) = ji9 := fun hle_ => by have h_ := hji9z hle_; rw [Int.one_mul] at h_; exact h_
       have hji9y : (wrap64 (1 * 2 ^ min x6_1.toNat 64)) = ji9 := (i64_w _).symm.trans hji9_
       have hji9x : x6_1 ≤ 64 → (wrap64 (1 * 2 ^ x6_1.toNat)) = ji9 := fun h_ => (i64_w _).symm.trans (hji9z h_)
       have H' := Aside0.mk H
       clear H
       go_wp2_with (first | ((with_reducible refine gate_callee (f := 59) rfl ?_); refine goesL_ (some 15) rfl rfl Try.func59 (by kernel_rfl) rfl #[.slice A1 l1.length c1, .int .i64 x6_1] rfl pwi_ ?_; (with_reducible refine (spec_l3Holds.calls k1 _ _ l1 x6_1 true _ ?side1 ?side2 A6.out).mono ?_); (case side1 => repeat (first | exact HR1.out | (with_reducible refine Kd.C_alloc ?_ _) | (with_reducible refine Kd.C_drewN ?_ _) | (with_reducible refine Kd.C_drew ?_))); (case side2 => exact HC1.out); rintro e w' ⟨rfl, ⟨nd, rfl⟩⟩; refine ⟨_, rfl, ?_⟩))
       go_roundg k1
       case measure => have := HK1.out; omega
       case rel => exact ⟨(Go.bits .or .i64 x5_1 (ji9)), (wrap64 (x6_1 + 1)), (by first | rfl | (simp; done) | (simp only [← hji9] <;> (first | rfl | simp)) | (simp [*]; done)), pwa_, H', ⟨by have := HK1.out; omega⟩, by repeat (first | exact Drawn0.refl _ | apply Drawn0.step)⟩
      ·rw [if_neg c8] at H
       exact absurd H (by simp)
     ·replace c7 := Bool.eq_false_iff.mpr c7
      subst c7
      have H1 : (spec_l3Table.l0 k1 a0 l1 x5_1 (wrap64 (x6_1 + 1))) = some r := by rw [if_neg (show ¬ (false = true) by decide)] at H; exact H
      clear H
      have H := H1
      clear H1
      have H' := Aside0.mk H
      clear H
      go_wp2_with (first | ((with_reducible refine gate_callee (f := 59) rfl ?_); refine goesL_ (some 15) rfl rfl Try.func59 (by kernel_rfl) rfl #[.slice A1 l1.length c1, .int .i64 x6_1] rfl pwi_ ?_; (with_reducible refine (spec_l3Holds.calls k1 _ _ l1 x6_1 false _ ?side1 ?side2 A6.out).mono ?_); (case side1 => repeat (first | exact HR1.out | (with_reducible refine Kd.C_alloc ?_ _) | (with_reducible refine Kd.C_drewN ?_ _) | (with_reducible refine Kd.C_drew ?_))); (case side2 => exact HC1.out); rintro e w' ⟨rfl, ⟨nd, rfl⟩⟩; refine ⟨_, rfl, ?_⟩))
      go_roundg k1
      case measure => have := HK1.out; omega
      case rel => exact ⟨(x5_1), (wrap64 (x6_1 + 1)), pwa_, pwa_, H', ⟨by have := HK1.out; omega⟩, by repeat (first | exact Drawn0.refl _ | apply Drawn0.step)⟩
    ·rw [if_neg c5] at H
     have c5b0 : decide (x6_1 < (ji4)) = false := decide_eq_false c5
     clear c5
     obtain rfl := Option.some.inj H
     go_wp2
     go_ret
     exact ⟨by first | rfl | (simp; done) | (simp only [← hji4] <;> (first | rfl | simp)) | (simp [*]; done), by repeat (first | exact Drawn0.refl _ | apply Drawn0.step)⟩
   ·rw [if_neg c3] at H
    exact absurd H (by simp)

/-! ### spec_SameOk: function 42 -/
def spec_SameOk.f (k : Nat) (a0 : Int) (l1 : List (S41)) (l2 : List (S41)) : Option (Bool) := (spec_TermOk.f k a0 l1).bind fun t363 => (if t363 = true then ((spec_TermOk.f k a0 l2).bind fun t364 => (if t364 = true then ((spec_l3Table.f k a0 l1).bind fun t365 => ((spec_l3Table.f k a0 l2).bind fun t366 => (some (t365 == t366)))) else (some false))) else (some false))
theorem spec_SameOk.mono : ∀ a0 a1 a2 k, LeO (spec_SameOk.f k a0 a1 a2) (spec_SameOk.f (k + 1) a0 a1 a2) := by
 intro a0 a1 a2 k
 unfold spec_SameOk.f
 repeat' first
   | (with_reducible exact spec_TermOk.mono _ _ _)
   | (with_reducible exact spec_l3Table.mono _ _ _)
   | (with_reducible exact LeO.refl _)
   | (with_reducible exact LeO.none _)
   | (with_reducible refine LeO.ite ?_ ?_)
   | (with_reducible refine LeO.bind ?_ (fun _ => ?_))
   | exact spec_TermOk.mono _ _ _
   | exact spec_l3Table.mono _ _ _
   | exact LeO.none _
   | refine LeO.ite ?_ ?_
   | refine LeO.bind ?_ (fun _ => ?_)
set_option maxHeartbeats 8000000 in
set_option maxRecDepth 100000 in
theorem spec_SameOk.calls (k : Nat) (a0 : Int) (A1 : Option Addr) (c1 : Nat) (l1 : List (S41)) (A2 : Option Addr) (c2 : Nat) (l2 : List (S41)) (r : Bool) (w : World) (hr1 : Kd.C k41 w A1 l1.length l1) (hc1 : l1.length ≤ c1) (hr2 : Kd.C k41 w A2 l2.length l2) (hc2 : l2.length ≤ c2) (h : spec_SameOk.f k a0 l1 l2 = some r) :
  Calls Try.prog 42 #[.int .i64 a0, .slice A1 l1.length c1, .slice A2 l2.length c2] w fun e w' => e = .returned (.bool r) ∧ Drawn0 w w' := by
 have HR1 := Aside0.mk hr1
 have HC1 := Aside0.mk hc1
 clear hr1 hc1
 have HR2 := Aside0.mk hr2
 have HC2 := Aside0.mk hc2
 clear hr2 hc2
 have H : ((spec_TermOk.f k a0 l1).bind fun t363 => (if t363 = true then ((spec_TermOk.f k a0 l2).bind fun t364 => (if t364 = true then ((spec_l3Table.f k a0 l1).bind fun t365 => ((spec_l3Table.f k a0 l2).bind fun t366 => (some (t365 == t366)))) else (some false))) else (some false))) = some r := h
 clear h
 replace H := Option.bind_eq_some_iff.mp H
 obtain ⟨t363, A40, H⟩ := H
 replace H : (if t363 = true then ((spec_TermOk.f k a0 l2).bind fun t364 => (if t364 = true then ((spec_l3Table.f k a0 l1).bind fun t365 => ((spec_l3Table.f k a0 l2).bind fun t366 => (some (t365 == t366)))) else (some false))) else (some false)) = some r := H
 have A4 := Aside0.mk A40
 clear A40
 by_cases c5 : t363 = true
 ·subst c5
  have H1 : ((spec_TermOk.f k a0 l2).bind fun t364 => (if t364 = true then ((spec_l3Table.f k a0 l1).bind fun t365 => ((spec_l3Table.f k a0 l2).bind fun t366 => (some (t365 == t366)))) else (some false))) = some r := by rw [if_pos rfl] at H; exact H
  clear H
  have H := H1
  clear H1
  replace H := Option.bind_eq_some_iff.mp H
  obtain ⟨t364, A60, H⟩ := H
  replace H : (if t364 = true then ((spec_l3Table.f k a0 l1).bind fun t365 => ((spec_l3Table.f k a0 l2).bind fun t366 => (some (t365 == t366)))) else (some false)) = some r := H
  have A6 := Aside0.mk A60
  clear A60
  by_cases c7 : t364 = true
  ·subst c7
   have H1 : ((spec_l3Table.f k a0 l1).bind fun t365 => ((spec_l3Table.f k a0 l2).bind fun t366 => (some (t365 == t366)))) = some r := by rw [if_pos rfl] at H; exact H
   clear H
   have H := H1
   clear H1
   replace H := Option.bind_eq_some_iff.mp H
   obtain ⟨t365, A80, H⟩ := H
   replace H : ((spec_l3Table.f k a0 l2).bind fun t366 => (some (t365 == t366))) = some r := H
   have A8 := Aside0.mk A80
   clear A80
   replace H := Option.bind_eq_some_iff.mp H
   obtain ⟨t366, A90, H⟩ := H
   replace H : (some (t365 == t366)) = some r := H
   have A9 := Aside0.mk A90
   clear A90
   obtain rfl := Option.some.inj H
   go_enter Try.func42, Try.ntmps42
   go_wp2_with (first | ((with_reducible refine gate_callee (f := 35) rfl ?_); refine goesL_ (some 9) rfl rfl Try.func35 (by kernel_rfl) rfl #[.int .i64 a0, .slice A1 l1.length c1] rfl pwi_ ?_; (with_reducible refine (spec_TermOk.calls k a0 _ _ l1 true _ ?side1 ?side2 A4.out).mono ?_); (case side1 => repeat (first | exact HR1.out | (with_reducible refine Kd.C_alloc ?_ _) | (with_reducible refine Kd.C_drewN ?_ _) | (with_reducible refine Kd.C_drew ?_))); (case side2 => exact HC1.out); rintro e w' ⟨rfl, ⟨nd, rfl⟩⟩; refine ⟨_, rfl, ?_⟩) | (go_at_call 35; (with_reducible refine (spec_TermOk.calls k a0 _ _ l2 true _ ?side1 ?side2 A6.out).mono ?_); (case side1 => repeat (first | exact HR2.out | (with_reducible refine Kd.C_alloc ?_ _) | (with_reducible refine Kd.C_drewN ?_ _) | (with_reducible refine Kd.C_drew ?_))); (case side2 => exact HC2.out); rintro e w' ⟨rfl, ⟨nd, rfl⟩⟩) | (go_at_call 54; (with_reducible refine (spec_l3Table.calls k a0 _ _ l1 t365 _ ?side1 ?side2 A8.out).mono ?_); (case side1 => repeat (first | exact HR1.out | (with_reducible refine Kd.C_alloc ?_ _) | (with_reducible refine Kd.C_drewN ?_ _) | (with_reducible refine Kd.C_drew ?_))); (case side2 => exact HC1.out); rintro e w' ⟨rfl, ⟨nd, rfl⟩⟩) | (go_at_call 54; (with_reducible refine (spec_l3Table.calls k a0 _ _ l2 t366 _ ?side1 ?side2 A9.out).mono ?_); (case side1 => repeat (first | exact HR2.out | (with_reducible refine Kd.C_alloc ?_ _) | (with_reducible refine Kd.C_drewN ?_ _) | (with_reducible refine Kd.C_drew ?_))); (case side2 => exact HC2.out); rintro e w' ⟨rfl, ⟨nd, rfl⟩⟩))
   go_ret
   exact ⟨pwa_, by repeat (first | exact Drawn0.refl _ | apply Drawn0.step)⟩
  ·replace c7 := Bool.eq_false_iff.mpr c7
   subst c7
   have H1 : (some false) = some r := by rw [if_neg (show ¬ (false = true) by decide)] at H; exact H
   clear H
   have H := H1
   clear H1
   obtain rfl := Option.some.inj H
   go_enter Try.func42, Try.ntmps42
   go_wp2_with (first | ((with_reducible refine gate_callee (f := 35) rfl ?_); refine goesL_ (some 9) rfl rfl Try.func35 (by kernel_rfl) rfl #[.int .i64 a0, .slice A1 l1.length c1] rfl pwi_ ?_; (with_reducible refine (spec_TermOk.calls k a0 _ _ l1 true _ ?side1 ?side2 A4.out).mono ?_); (case side1 => repeat (first | exact HR1.out | (with_reducible refine Kd.C_alloc ?_ _) | (with_reducible refine Kd.C_drewN ?_ _) | (with_reducible refine Kd.C_drew ?_))); (case side2 => exact HC1.out); rintro e w' ⟨rfl, ⟨nd, rfl⟩⟩; refine ⟨_, rfl, ?_⟩) | (go_at_call 35; (with_reducible refine (spec_TermOk.calls k a0 _ _ l2 false _ ?side1 ?side2 A6.out).mono ?_); (case side1 => repeat (first | exact HR2.out | (with_reducible refine Kd.C_alloc ?_ _) | (with_reducible refine Kd.C_drewN ?_ _) | (with_reducible refine Kd.C_drew ?_))); (case side2 => exact HC2.out); rintro e w' ⟨rfl, ⟨nd, rfl⟩⟩))
   go_ret
   exact ⟨pwa_, by repeat (first | exact Drawn0.refl _ | apply Drawn0.step)⟩
 ·replace c5 := Bool.eq_false_iff.mpr c5
  subst c5
  have H1 : (some false) = some r := by rw [if_neg (show ¬ (false = true) by decide)] at H; exact H
  clear H
  have H := H1
  clear H1
  obtain rfl := Option.some.inj H
  go_enter Try.func42, Try.ntmps42
  go_wp2_with (first | ((with_reducible refine gate_callee (f := 35) rfl ?_); refine goesL_ (some 9) rfl rfl Try.func35 (by kernel_rfl) rfl #[.int .i64 a0, .slice A1 l1.length c1] rfl pwi_ ?_; (with_reducible refine (spec_TermOk.calls k a0 _ _ l1 false _ ?side1 ?side2 A4.out).mono ?_); (case side1 => repeat (first | exact HR1.out | (with_reducible refine Kd.C_alloc ?_ _) | (with_reducible refine Kd.C_drewN ?_ _) | (with_reducible refine Kd.C_drew ?_))); (case side2 => exact HC1.out); rintro e w' ⟨rfl, ⟨nd, rfl⟩⟩; refine ⟨_, rfl, ?_⟩))
  go_ret
  exact ⟨pwa_, by repeat (first | exact Drawn0.refl _ | apply Drawn0.step)⟩

/-! ### laws_FnSameOk: function 14 -/
def laws_FnSameOk.j0 : Nat → Int → List (S41) → List (S41) → Bool → Bool → Option (Bool)
 | 0, _, _, _, _, _ => none
 | k + 1, x3, x4, x5, x6, x36 => if x36 = true then (if x6 = true then (some false) else ((laws_alive.f).bind fun t378 => (some t378))) else ((some (([] : List (S41)) : List (S41))).bind fun y379 => (if y379.length + x4.length < 8796093022208 then ((some (y379 ++ x4 : List (S41))).bind fun y382 => (if y382.length + x5.length < 8796093022208 then ((some (y382 ++ x5 : List (S41))).bind fun y385 => (if y385.length < 8796093022208 then ((some (y385 ++ [(⟨5, 0⟩ : S41)] : List (S41))).bind fun y388 => ((impl_FollowsOk.f k x3 x4 x5).bind fun t391 => (if t391 = true then ((impl_FollowsOk.f k x3 x5 x4).bind fun t392 => (if (x6 == t392) = true then ((spec_TermOk.f k x3 y388).bind fun t393 => (if t393 = true then ((impl_AlwaysOk.f k x3 y388).bind fun t394 => (if (t394 == x6) = true then ((impl_SameOk.f k x3 x4 x4).bind fun t395 => (some t395)) else (some false))) else ((impl_SameOk.f k x3 x4 x4).bind fun t396 => (some t396)))) else (some false))) else (if (x6 == false) = true then ((spec_TermOk.f k x3 y388).bind fun t397 => (if t397 = true then ((impl_AlwaysOk.f k x3 y388).bind fun t398 => (if (t398 == x6) = true then ((impl_SameOk.f k x3 x4 x4).bind fun t399 => (some t399)) else (some false))) else ((impl_SameOk.f k x3 x4 x4).bind fun t400 => (some t400)))) else (some false))))) else (none))) else (none))) else (none)))
def laws_FnSameOk.f (k : Nat) (l0 : List Int) : Option (Bool) := if (l0.length : Int) > 1048576 then (some true) else ((spec_DrawSameOk.f k l0).bind fun bt367 => ((impl_SameOk.f k bt367.1 bt367.2.1 bt367.2.2).bind fun t374 => ((spec_SameOk.f k bt367.1 bt367.2.1 bt367.2.2).bind fun t375 => (if (t374 != t375) = true then (some false) else ((spec_TermOk.f k bt367.1 bt367.2.1).bind fun t376 => (if t376 = true then ((spec_TermOk.f k bt367.1 bt367.2.2).bind fun t377 => (laws_FnSameOk.j0 k bt367.1 bt367.2.1 bt367.2.2 t374 (!t377))) else (laws_FnSameOk.j0 k bt367.1 bt367.2.1 bt367.2.2 t374 true)))))))
theorem laws_FnSameOk.mono_l : ∀ k, (∀ y0 y1 y2 y3 y4, LeO (laws_FnSameOk.j0 k y0 y1 y2 y3 y4) (laws_FnSameOk.j0 (k + 1) y0 y1 y2 y3 y4))
 | 0 => fun _ _ _ _ _ r h => by simp [laws_FnSameOk.j0] at h
 | k + 1 => by
  have ih0 := laws_FnSameOk.mono_l k
  ·intro y0 y1 y2 y3 y4
   unfold laws_FnSameOk.j0
   repeat' first
   | (with_reducible exact ih0 _ _ _ _ _)
   | (with_reducible exact impl_AlwaysOk.mono _ _ _)
   | (with_reducible exact impl_FollowsOk.mono _ _ _ _)
   | (with_reducible exact impl_SameOk.mono _ _ _ _)
   | (with_reducible exact spec_DrawSameOk.mono _ _)
   | (with_reducible exact spec_SameOk.mono _ _ _ _)
   | (with_reducible exact spec_TermOk.mono _ _ _)
   | (with_reducible exact LeO.refl _)
   | (with_reducible exact LeO.none _)
   | (with_reducible refine LeO.ite ?_ ?_)
   | (with_reducible refine LeO.bind ?_ (fun _ => ?_))
   | exact ih0 _ _ _ _ _
   | exact impl_AlwaysOk.mono _ _ _
   | exact impl_FollowsOk.mono _ _ _ _
   | exact impl_SameOk.mono _ _ _ _
   | exact spec_DrawSameOk.mono _ _
   | exact spec_SameOk.mono _ _ _ _
   | exact spec_TermOk.mono _ _ _
   | exact LeO.none _
   | refine LeO.ite ?_ ?_
   | refine LeO.bind ?_ (fun _ => ?_)
theorem laws_FnSameOk.mono : ∀ a0 k, LeO (laws_FnSameOk.f k a0) (laws_FnSameOk.f (k + 1) a0) := by
 intro a0 k
 have ih0 := laws_FnSameOk.mono_l k
 unfold laws_FnSameOk.f
 repeat' first
   | (with_reducible exact ih0 _ _ _ _ _)
   | (with_reducible exact impl_AlwaysOk.mono _ _ _)
   | (with_reducible exact impl_FollowsOk.mono _ _ _ _)
   | (with_reducible exact impl_SameOk.mono _ _ _ _)
   | (with_reducible exact spec_DrawSameOk.mono _ _)
   | (with_reducible exact spec_SameOk.mono _ _ _ _)
   | (with_reducible exact spec_TermOk.mono _ _ _)
   | (with_reducible exact LeO.refl _)
   | (with_reducible exact LeO.none _)
   | (with_reducible refine LeO.ite ?_ ?_)
   | (with_reducible refine LeO.bind ?_ (fun _ => ?_))
   | exact ih0 _ _ _ _ _
   | exact impl_AlwaysOk.mono _ _ _
   | exact impl_FollowsOk.mono _ _ _ _
   | exact impl_SameOk.mono _ _ _ _
   | exact spec_DrawSameOk.mono _ _
   | exact spec_SameOk.mono _ _ _ _
   | exact spec_TermOk.mono _ _ _
   | exact LeO.none _
   | refine LeO.ite ?_ ?_
   | refine LeO.bind ?_ (fun _ => ?_)
set_option maxHeartbeats 8000000 in
set_option maxRecDepth 100000 in
theorem laws_FnSameOk.calls (k : Nat) (A0 : Option Addr) (c0 : Nat) (l0 : List Int) (r : Bool) (w : World) (hr0 : Kd.C (Kd.int .u8) w A0 l0.length l0) (hc0 : l0.length ≤ c0) (h : laws_FnSameOk.f k l0 = some r) :
  Calls Try.prog 14 #[.slice A0 l0.length c0] w fun e w' => e = .returned (.bool r) ∧ Below w.heap.size w w' := by
 have hu41 := Try.underlying41
 have HR0 := Aside0.mk hr0
 have HC0 := Aside0.mk hc0
 clear hr0 hc0
 have HB := Aside0.mk (Below.refl w.heap.size w)
 have H : (if (l0.length : Int) > 1048576 then (some true) else ((spec_DrawSameOk.f k l0).bind fun bt367 => ((impl_SameOk.f k bt367.1 bt367.2.1 bt367.2.2).bind fun t374 => ((spec_SameOk.f k bt367.1 bt367.2.1 bt367.2.2).bind fun t375 => (if (t374 != t375) = true then (some false) else ((spec_TermOk.f k bt367.1 bt367.2.1).bind fun t376 => (if t376 = true then ((spec_TermOk.f k bt367.1 bt367.2.2).bind fun t377 => (laws_FnSameOk.j0 k bt367.1 bt367.2.1 bt367.2.2 t374 (!t377))) else (laws_FnSameOk.j0 k bt367.1 bt367.2.1 bt367.2.2 t374 true)))))))) = some r := h
 clear h
 by_cases c2 : (l0.length : Int) > 1048576
 ·rw [if_pos c2] at H
  have c2b0 : decide (1048576 < (l0.length : Int)) = true := decide_eq_true c2
  have c2b1 : decide (1048576 < l0.length) = true := decide_eq_true (by omega)
  clear c2
  obtain rfl := Option.some.inj H
  go_enter Try.func14, Try.ntmps14
  go_wp2
  go_ret
  exact ⟨by first | rfl | (simp [errW_none, errW_some] <;> rfl) | (simp [*, errW_none, errW_some] <;> rfl), pwg_⟩
 ·rw [if_neg c2] at H
  have c2b0 : decide (1048576 < (l0.length : Int)) = false := decide_eq_false c2
  have c2b1 : decide (1048576 < l0.length) = false := decide_eq_false (by omega)
  clear c2
  replace H := Option.bind_eq_some_iff.mp H
  obtain ⟨⟨t367, t368, t369⟩, A30, H⟩ := H
  replace H : ((impl_SameOk.f k t367 t368 t369).bind fun t374 => ((spec_SameOk.f k t367 t368 t369).bind fun t375 => (if (t374 != t375) = true then (some false) else ((spec_TermOk.f k t367 t368).bind fun t376 => (if t376 = true then ((spec_TermOk.f k t367 t369).bind fun t377 => (laws_FnSameOk.j0 k t367 t368 t369 t374 (!t377))) else (laws_FnSameOk.j0 k t367 t368 t369 t374 true)))))) = some r := H
  have A3 := Aside0.mk A30
  clear A30
  replace H := Option.bind_eq_some_iff.mp H
  obtain ⟨t374, A40, H⟩ := H
  replace H : ((spec_SameOk.f k t367 t368 t369).bind fun t375 => (if (t374 != t375) = true then (some false) else ((spec_TermOk.f k t367 t368).bind fun t376 => (if t376 = true then ((spec_TermOk.f k t367 t369).bind fun t377 => (laws_FnSameOk.j0 k t367 t368 t369 t374 (!t377))) else (laws_FnSameOk.j0 k t367 t368 t369 t374 true))))) = some r := H
  have A4 := Aside0.mk A40
  clear A40
  replace H := Option.bind_eq_some_iff.mp H
  obtain ⟨t375, A50, H⟩ := H
  replace H : (if (t374 != t375) = true then (some false) else ((spec_TermOk.f k t367 t368).bind fun t376 => (if t376 = true then ((spec_TermOk.f k t367 t369).bind fun t377 => (laws_FnSameOk.j0 k t367 t368 t369 t374 (!t377))) else (laws_FnSameOk.j0 k t367 t368 t369 t374 true)))) = some r := H
  have A5 := Aside0.mk A50
  clear A50
  by_cases c6 : (t374 != t375) = true
  ·rw [if_pos c6] at H
   have c6b0 : (t374 != t375) = true := c6
   (try (have c6b1 : decide (t374 = t375) = false := by simpa using c6))
   (try (have c6b2 : (t374 == t375) = false := by simpa using c6))
   (try (have c6b3 : ¬ (t374 = t375) := by simpa using c6))
   clear c6
   obtain rfl := Option.some.inj H
   go_enter Try.func14, Try.ntmps14
   go_wp2_with (first | ((with_reducible refine gate_callee (f := 34) rfl ?_); refine goesL_ (some 13) rfl rfl Try.func34 (by kernel_rfl) rfl #[.slice A0 l0.length c0] rfl pwi_ ?_; (with_reducible refine (spec_DrawSameOk.calls k _ _ l0 t367 t368 t369 _ ?side1 ?side2 A3.out).mono ?_); (case side1 => repeat (first | exact HR0.out | (with_reducible refine Kd.C_alloc ?_ _) | (with_reducible refine Kd.C_drewN ?_ _) | (with_reducible refine Kd.C_drew ?_))); (case side2 => exact HC0.out); rintro e w7 ⟨v370, v372, rfl, ho0, ho1, hb⟩; refine ⟨_, rfl, ?_⟩; have n0_ := Aside0.mk (Kd.R_lower ho0 (below_size pwg_)); have n1_ := Aside0.mk (Kd.R_lower ho1 (below_size pwg_)); have n2_ := Aside0.mk (below_step pwg_ hb); clear HB; have HO371 := n0_; have HO373 := n1_; have HB := n2_; clear n0_ n1_ n2_; (try clear hb); (try clear hb2); (try clear hk); (try clear hi); (try clear ho0); (try clear ho1); obtain ⟨Ao8, co8, eo8⟩ := Kd.R_slice HO371.out; subst eo8; obtain ⟨Ao9, co9, eo9⟩ := Kd.R_slice HO373.out; subst eo9) | ((with_reducible refine gate_callee (f := 36) rfl ?_); refine goesL_ (some 20) rfl rfl Try.func36 (by kernel_rfl) rfl #[.int .i64 t367, .slice Ao8 t368.length co8, .slice Ao9 t369.length co9] rfl pwi_ ?_; (with_reducible refine (impl_SameOk.calls k t367 _ _ t368 _ _ t369 t374 _ ?side1 ?side2 ?side3 ?side4 A4.out).mono ?_); (case side1 => repeat (first | exact (Kd.R_reads' HO371.out).2.2 | (with_reducible refine Kd.C_alloc ?_ _) | (with_reducible refine Kd.C_drewN ?_ _) | (with_reducible refine Kd.C_drew ?_))); (case side2 => exact (Kd.R_reads' HO371.out).2.1); (case side3 => repeat (first | exact (Kd.R_reads' HO373.out).2.2 | (with_reducible refine Kd.C_alloc ?_ _) | (with_reducible refine Kd.C_drewN ?_ _) | (with_reducible refine Kd.C_drew ?_))); (case side4 => exact (Kd.R_reads' HO373.out).2.1); rintro e w10 ⟨rfl, hb⟩; refine ⟨_, rfl, ?_⟩; have n0_ := Aside0.mk (Kd.R_below (by (with_reducible repeat apply Kd.R_alloc); exact HO371.out) hb); have n1_ := Aside0.mk (Kd.R_below (by (with_reducible repeat apply Kd.R_alloc); exact HO373.out) hb); have n2_ := Aside0.mk (below_step pwg_ hb); clear HO371; clear HO373; clear HB; have HO371 := n0_; have HO373 := n1_; have HB := n2_; clear n0_ n1_ n2_; (try clear hb); (try clear hb2); (try clear hk); (try clear hi)) | ((with_reducible refine gate_callee (f := 42) rfl ?_); refine goesL_ (some 25) rfl rfl Try.func42 (by kernel_rfl) rfl #[.int .i64 t367, .slice Ao8 t368.length co8, .slice Ao9 t369.length co9] rfl pwi_ ?_; (with_reducible refine (spec_SameOk.calls k t367 _ _ t368 _ _ t369 t375 _ ?side1 ?side2 ?side3 ?side4 A5.out).mono ?_); (case side1 => repeat (first | exact (Kd.R_reads' HO371.out).2.2 | (with_reducible refine Kd.C_alloc ?_ _) | (with_reducible refine Kd.C_drewN ?_ _) | (with_reducible refine Kd.C_drew ?_))); (case side2 => exact (Kd.R_reads' HO371.out).2.1); (case side3 => repeat (first | exact (Kd.R_reads' HO373.out).2.2 | (with_reducible refine Kd.C_alloc ?_ _) | (with_reducible refine Kd.C_drewN ?_ _) | (with_reducible refine Kd.C_drew ?_))); (case side4 => exact (Kd.R_reads' HO373.out).2.1); rintro e w' ⟨rfl, ⟨nd, rfl⟩⟩; refine ⟨_, rfl, ?_⟩))
   go_ret
   exact ⟨by first | rfl | (simp [errW_none, errW_some] <;> rfl) | (simp [*, errW_none, errW_some] <;> rfl), pwg_⟩
  ·rw [if_neg c6] at H
   have c6b0 : (t374 != t375) = false := by simpa using c6
   (try (have c6b1 : decide (t374 = t375) = true := by simpa using c6))
   (try (have c6b2 : (t374 == t375) = true := by simpa using c6))
   clear c6
   have HC11 := Aside0.mk H
   clear H
   go_enter Try.func14, Try.ntmps14
   go_upto_region 7 with (first | ((with_reducible refine gate_callee (f := 34) rfl ?_); refine goesL_ (some 13) rfl rfl Try.func34 (by kernel_rfl) rfl #[.slice A0 l0.length c0] rfl pwi_ ?_; (with_reducible refine (spec_DrawSameOk.calls k _ _ l0 t367 t368 t369 _ ?side1 ?side2 A3.out).mono ?_); (case side1 => repeat (first | exact HR0.out | (with_reducible refine Kd.C_alloc ?_ _) | (with_reducible refine Kd.C_drewN ?_ _) | (with_reducible refine Kd.C_drew ?_))); (case side2 => exact HC0.out); rintro e w12 ⟨v370, v372, rfl, ho0, ho1, hb⟩; refine ⟨_, rfl, ?_⟩; have n0_ := Aside0.mk (Kd.R_lower ho0 (below_size pwg_)); have n1_ := Aside0.mk (Kd.R_lower ho1 (below_size pwg_)); have n2_ := Aside0.mk (below_step pwg_ hb); clear HB; have HO371 := n0_; have HO373 := n1_; have HB := n2_; clear n0_ n1_ n2_; (try clear hb); (try clear hb2); (try clear hk); (try clear hi); (try clear ho0); (try clear ho1); obtain ⟨Ao13, co13, eo13⟩ := Kd.R_slice HO371.out; subst eo13; obtain ⟨Ao14, co14, eo14⟩ := Kd.R_slice HO373.out; subst eo14) | ((with_reducible refine gate_callee (f := 36) rfl ?_); refine goesL_ (some 20) rfl rfl Try.func36 (by kernel_rfl) rfl #[.int .i64 t367, .slice Ao13 t368.length co13, .slice Ao14 t369.length co14] rfl pwi_ ?_; (with_reducible refine (impl_SameOk.calls k t367 _ _ t368 _ _ t369 t374 _ ?side1 ?side2 ?side3 ?side4 A4.out).mono ?_); (case side1 => repeat (first | exact (Kd.R_reads' HO371.out).2.2 | (with_reducible refine Kd.C_alloc ?_ _) | (with_reducible refine Kd.C_drewN ?_ _) | (with_reducible refine Kd.C_drew ?_))); (case side2 => exact (Kd.R_reads' HO371.out).2.1); (case side3 => repeat (first | exact (Kd.R_reads' HO373.out).2.2 | (with_reducible refine Kd.C_alloc ?_ _) | (with_reducible refine Kd.C_drewN ?_ _) | (with_reducible refine Kd.C_drew ?_))); (case side4 => exact (Kd.R_reads' HO373.out).2.1); rintro e w15 ⟨rfl, hb⟩; refine ⟨_, rfl, ?_⟩; have n0_ := Aside0.mk (Kd.R_below (by (with_reducible repeat apply Kd.R_alloc); exact HO371.out) hb); have n1_ := Aside0.mk (Kd.R_below (by (with_reducible repeat apply Kd.R_alloc); exact HO373.out) hb); have n2_ := Aside0.mk (below_step pwg_ hb); clear HO371; clear HO373; clear HB; have HO371 := n0_; have HO373 := n1_; have HB := n2_; clear n0_ n1_ n2_; (try clear hb); (try clear hb2); (try clear hk); (try clear hi)) | ((with_reducible refine gate_callee (f := 42) rfl ?_); refine goesL_ (some 25) rfl rfl Try.func42 (by kernel_rfl) rfl #[.int .i64 t367, .slice Ao13 t368.length co13, .slice Ao14 t369.length co14] rfl pwi_ ?_; (with_reducible refine (spec_SameOk.calls k t367 _ _ t368 _ _ t369 t375 _ ?side1 ?side2 ?side3 ?side4 A5.out).mono ?_); (case side1 => repeat (first | exact (Kd.R_reads' HO371.out).2.2 | (with_reducible refine Kd.C_alloc ?_ _) | (with_reducible refine Kd.C_drewN ?_ _) | (with_reducible refine Kd.C_drew ?_))); (case side2 => exact (Kd.R_reads' HO371.out).2.1); (case side3 => repeat (first | exact (Kd.R_reads' HO373.out).2.2 | (with_reducible refine Kd.C_alloc ?_ _) | (with_reducible refine Kd.C_drewN ?_ _) | (with_reducible refine Kd.C_drew ?_))); (case side4 => exact (Kd.R_reads' HO373.out).2.1); rintro e w' ⟨rfl, ⟨nd, rfl⟩⟩; refine ⟨_, rfl, ?_⟩))
   (try simp only [Act.put, List.setIfInBounds_toArray, List.set_cons_zero, List.set_cons_succ])
   go_cut [36] (fun v36 wc => ∃ (kq : Nat) (x36_10 : Bool), v36 = .bool x36_10 ∧ Aside0 (laws_FnSameOk.j0 kq t367 t368 t369 t374 x36_10 = some r) ∧ Aside0 (kq ≤ k) ∧ Aside0 (Kd.R k41 41 wc w.heap.size (fun k_ => some k_ ≠ ((.slice Ao14 t369.length co14) : Value).ownBlock) (.slice Ao13 t368.length co13) t368) ∧ Aside0 (Kd.R k41 41 wc w.heap.size (fun k_ => some k_ ≠ ((.slice Ao13 t368.length co13) : Value).ownBlock) (.slice Ao14 t369.length co14) t369) ∧ Aside0 (Below w.heap.size w wc))
   case first =>
    have H := HC11.out
    clear HC11
    replace H := Option.bind_eq_some_iff.mp H
    obtain ⟨t376, A160, H⟩ := H
    replace H : (if t376 = true then ((spec_TermOk.f k t367 t369).bind fun t377 => (laws_FnSameOk.j0 k t367 t368 t369 t374 (!t377))) else (laws_FnSameOk.j0 k t367 t368 t369 t374 true)) = some r := H
    have A16 := Aside0.mk A160
    clear A160
    by_cases c17 : t376 = true
    ·subst c17
     have H1 : ((spec_TermOk.f k t367 t369).bind fun t377 => (laws_FnSameOk.j0 k t367 t368 t369 t374 (!t377))) = some r := by rw [if_pos rfl] at H; exact H
     clear H
     have H := H1
     clear H1
     replace H := Option.bind_eq_some_iff.mp H
     obtain ⟨t377, A180, H⟩ := H
     replace H : (laws_FnSameOk.j0 k t367 t368 t369 t374 (!t377)) = some r := H
     have A18 := Aside0.mk A180
     clear A180
     have H' := Aside0.mk H
     clear H
     go_wp2_with (first | ((with_reducible refine gate_callee (f := 35) rfl ?_); refine goesL_ (some 29) rfl rfl Try.func35 (by kernel_rfl) rfl #[.int .i64 t367, .slice Ao13 t368.length co13] rfl pwi_ ?_; (with_reducible refine (spec_TermOk.calls k t367 _ _ t368 true _ ?side1 ?side2 A16.out).mono ?_); (case side1 => repeat (first | exact (Kd.R_reads' HO371.out).2.2 | (with_reducible refine Kd.C_alloc ?_ _) | (with_reducible refine Kd.C_drewN ?_ _) | (with_reducible refine Kd.C_drew ?_))); (case side2 => exact (Kd.R_reads' HO371.out).2.1); rintro e w' ⟨rfl, ⟨nd, rfl⟩⟩; refine ⟨_, rfl, ?_⟩) | (go_at_call 35; (with_reducible refine (spec_TermOk.calls k t367 _ _ t369 t377 _ ?side1 ?side2 A18.out).mono ?_); (case side1 => repeat (first | exact (Kd.R_reads' HO373.out).2.2 | (with_reducible refine Kd.C_alloc ?_ _) | (with_reducible refine Kd.C_drewN ?_ _) | (with_reducible refine Kd.C_drew ?_))); (case side2 => exact (Kd.R_reads' HO373.out).2.1); rintro e w' ⟨rfl, ⟨nd, rfl⟩⟩))
     go_meet
     case rel => exact ⟨_, (!t377), pwa_, H', ⟨by first | omega | exact Nat.le_refl _⟩, ⟨by (with_reducible repeat apply Kd.R_alloc); exact HO371.out⟩, ⟨by (with_reducible repeat apply Kd.R_alloc); exact HO373.out⟩, ⟨pwg_⟩⟩
    ·replace c17 := Bool.eq_false_iff.mpr c17
     subst c17
     have H1 : (laws_FnSameOk.j0 k t367 t368 t369 t374 true) = some r := by rw [if_neg (show ¬ (false = true) by decide)] at H; exact H
     clear H
     have H := H1
     clear H1
     have H' := Aside0.mk H
     clear H
     go_wp2_with (first | ((with_reducible refine gate_callee (f := 35) rfl ?_); refine goesL_ (some 29) rfl rfl Try.func35 (by kernel_rfl) rfl #[.int .i64 t367, .slice Ao13 t368.length co13] rfl pwi_ ?_; (with_reducible refine (spec_TermOk.calls k t367 _ _ t368 false _ ?side1 ?side2 A16.out).mono ?_); (case side1 => repeat (first | exact (Kd.R_reads' HO371.out).2.2 | (with_reducible refine Kd.C_alloc ?_ _) | (with_reducible refine Kd.C_drewN ?_ _) | (with_reducible refine Kd.C_drew ?_))); (case side2 => exact (Kd.R_reads' HO371.out).2.1); rintro e w' ⟨rfl, ⟨nd, rfl⟩⟩; refine ⟨_, rfl, ?_⟩))
     go_meet
     case rel => exact ⟨_, (true), pwa_, H', ⟨by first | omega | exact Nat.le_refl _⟩, ⟨by (with_reducible repeat apply Kd.R_alloc); exact HO371.out⟩, ⟨by (with_reducible repeat apply Kd.R_alloc); exact HO373.out⟩, ⟨pwg_⟩⟩
   case rest =>
    clear HC11
    try clear c1
    try clear c2
    try clear c2b0
    try clear c2b1
    try clear p2
    try clear c3
    try clear c4
    try clear c6
    try clear c6b0
    try clear c6b1
    try clear c6b2
    try clear c14
    try clear c17
    obtain ⟨kq, x36_10, rfl, HA, HJ10, HO_4, HO_5, HB⟩ := hcut
    cases kq with
    | zero => exact absurd HA.out (by simp [laws_FnSameOk.j0])
    | succ kj10 =>
     have H := HA.out
     clear HA
     simp only [laws_FnSameOk.j0] at H
     by_cases c19 : x36_10 = true
     ·subst c19
      have H1 : (if t374 = true then (some false) else ((laws_alive.f).bind fun t378 => (some t378))) = some r := by rw [if_pos rfl] at H; exact H
      clear H
      have H := H1
      clear H1
      by_cases c20 : t374 = true
      ·subst c20
       have H1 : (some false) = some r := by rw [if_pos rfl] at H; exact H
       clear H
       have H := H1
       clear H1
       obtain rfl := Option.some.inj H
       go_wp2
       go_ret
       exact ⟨by first | rfl | (simp [errW_none, errW_some] <;> rfl) | (simp [*, errW_none, errW_some] <;> rfl), pwg_⟩
      ·replace c20 := Bool.eq_false_iff.mpr c20
       subst c20
       have H1 : ((laws_alive.f).bind fun t378 => (some t378)) = some r := by rw [if_neg (show ¬ (false = true) by decide)] at H; exact H
       clear H
       have H := H1
       clear H1
       replace H := Option.bind_eq_some_iff.mp H
       obtain ⟨t378, A210, H⟩ := H
       replace H : (some t378) = some r := H
       have A21 := Aside0.mk A210
       clear A210
       obtain rfl := Option.some.inj H
       go_wp2_with (first | (go_at_call 21; (with_reducible refine (laws_alive.calls  t378 _ A21.out).mono ?_); rintro e w' ⟨rfl, ⟨nd, rfl⟩⟩))
       go_ret
       exact ⟨by first | rfl | (simp [errW_none, errW_some] <;> rfl) | (simp [*, errW_none, errW_some] <;> rfl), pwg_⟩
     ·replace c19 := Bool.eq_false_iff.mpr c19
      subst c19
      have H1 : ((some (([] : List (S41)) : List (S41))).bind fun y379 => (if y379.length + t368.length < 8796093022208 then ((some (y379 ++ t368 : List (S41))).bind fun y382 => (if y382.length + t369.length < 8796093022208 then ((some (y382 ++ t369 : List (S41))).bind fun y385 => (if y385.length < 8796093022208 then ((some (y385 ++ [(⟨5, 0⟩ : S41)] : List (S41))).bind fun y388 => ((impl_FollowsOk.f kj10 t367 t368 t369).bind fun t391 => (if t391 = true then ((impl_FollowsOk.f kj10 t367 t369 t368).bind fun t392 => (if (t374 == t392) = true then ((spec_TermOk.f kj10 t367 y388).bind fun t393 => (if t393 = true then ((impl_AlwaysOk.f kj10 t367 y388).bind fun t394 => (if (t394 == t374) = true then ((impl_SameOk.f kj10 t367 t368 t368).bind fun t395 => (some t395)) else (some false))) else ((impl_SameOk.f kj10 t367 t368 t368).bind fun t396 => (some t396)))) else (some false))) else (if (t374 == false) = true then ((spec_TermOk.f kj10 t367 y388).bind fun t397 => (if t397 = true then ((impl_AlwaysOk.f kj10 t367 y388).bind fun t398 => (if (t398 == t374) = true then ((impl_SameOk.f kj10 t367 t368 t368).bind fun t399 => (some t399)) else (some false))) else ((impl_SameOk.f kj10 t367 t368 t368).bind fun t400 => (some t400)))) else (some false))))) else (none))) else (none))) else (none))) = some r := by rw [if_neg (show ¬ (false = true) by decide)] at H; exact H
      clear H
      have H := H1
      clear H1
      obtain ⟨y379, hy379⟩ : ∃ y_ : List (S41), y_ = (([] : List (S41))) := ⟨_, rfl⟩
      replace H : (if y379.length + t368.length < 8796093022208 then ((some (y379 ++ t368 : List (S41))).bind fun y382 => (if y382.length + t369.length < 8796093022208 then ((some (y382 ++ t369 : List (S41))).bind fun y385 => (if y385.length < 8796093022208 then ((some (y385 ++ [(⟨5, 0⟩ : S41)] : List (S41))).bind fun y388 => ((impl_FollowsOk.f kj10 t367 t368 t369).bind fun t391 => (if t391 = true then ((impl_FollowsOk.f kj10 t367 t369 t368).bind fun t392 => (if (t374 == t392) = true then ((spec_TermOk.f kj10 t367 y388).bind fun t393 => (if t393 = true then ((impl_AlwaysOk.f kj10 t367 y388).bind fun t394 => (if (t394 == t374) = true then ((impl_SameOk.f kj10 t367 t368 t368).bind fun t395 => (some t395)) else (some false))) else ((impl_SameOk.f kj10 t367 t368 t368).bind fun t396 => (some t396)))) else (some false))) else (if (t374 == false) = true then ((spec_TermOk.f kj10 t367 y388).bind fun t397 => (if t397 = true then ((impl_AlwaysOk.f kj10 t367 y388).bind fun t398 => (if (t398 == t374) = true then ((impl_SameOk.f kj10 t367 t368 t368).bind fun t399 => (some t399)) else (some false))) else ((impl_SameOk.f kj10 t367 t368 t368).bind fun t400 => (some t400)))) else (some false))))) else (none))) else (none))) else (none)) = some r := by first | (rw [hy379]; with_reducible exact H) | (have H2_ := (Option.bind_some _ _).symm.trans H; rw [hy379]; with_reducible exact H2_) | (have H2_ := (Option.bind_some _ _).symm.trans H; with_reducible exact H2_) | with_reducible exact H | (rw [hy379]; exact H) | exact H
      have Ny379 := Aside0.mk hy379
      clear hy379
      by_cases c22 : y379.length + t368.length < 8796093022208
      ·rw [if_pos c22] at H
       have LMc22 := Aside0.mk c22
       clear c22
       obtain ⟨y382, hy382⟩ : ∃ y_ : List (S41), y_ = (y379 ++ t368) := ⟨_, rfl⟩
       replace H : (if y382.length + t369.length < 8796093022208 then ((some (y382 ++ t369 : List (S41))).bind fun y385 => (if y385.length < 8796093022208 then ((some (y385 ++ [(⟨5, 0⟩ : S41)] : List (S41))).bind fun y388 => ((impl_FollowsOk.f kj10 t367 t368 t369).bind fun t391 => (if t391 = true then ((impl_FollowsOk.f kj10 t367 t369 t368).bind fun t392 => (if (t374 == t392) = true then ((spec_TermOk.f kj10 t367 y388).bind fun t393 => (if t393 = true then ((impl_AlwaysOk.f kj10 t367 y388).bind fun t394 => (if (t394 == t374) = true then ((impl_SameOk.f kj10 t367 t368 t368).bind fun t395 => (some t395)) else (some false))) else ((impl_SameOk.f kj10 t367 t368 t368).bind fun t396 => (some t396)))) else (some false))) else (if (t374 == false) = true then ((spec_TermOk.f kj10 t367 y388).bind fun t397 => (if t397 = true then ((impl_AlwaysOk.f kj10 t367 y388).bind fun t398 => (if (t398 == t374) = true then ((impl_SameOk.f kj10 t367 t368 t368).bind fun t399 => (some t399)) else (some false))) else ((impl_SameOk.f kj10 t367 t368 t368).bind fun t400 => (some t400)))) else (some false))))) else (none))) else (none)) = some r := by first | (rw [hy382]; with_reducible exact H) | (have H2_ := (Option.bind_some _ _).symm.trans H; rw [hy382]; with_reducible exact H2_) | (have H2_ := (Option.bind_some _ _).symm.trans H; with_reducible exact H2_) | with_reducible exact H | (rw [hy382]; exact H) | exact H
       have Ny382 := Aside0.mk hy382
       clear hy382
       by_cases c23 : y382.length + t369.length < 8796093022208
       ·rw [if_pos c23] at H
        have LMc23 := Aside0.mk c23
        clear c23
        obtain ⟨y385, hy385⟩ : ∃ y_ : List (S41), y_ = (y382 ++ t369) := ⟨_, rfl⟩
        replace H : (if y385.length < 8796093022208 then ((some (y385 ++ [(⟨5, 0⟩ : S41)] : List (S41))).bind fun y388 => ((impl_FollowsOk.f kj10 t367 t368 t369).bind fun t391 => (if t391 = true then ((impl_FollowsOk.f kj10 t367 t369 t368).bind fun t392 => (if (t374 == t392) = true then ((spec_TermOk.f kj10 t367 y388).bind fun t393 => (if t393 = true then ((impl_AlwaysOk.f kj10 t367 y388).bind fun t394 => (if (t394 == t374) = true then ((impl_SameOk.f kj10 t367 t368 t368).bind fun t395 => (some t395)) else (some false))) else ((impl_SameOk.f kj10 t367 t368 t368).bind fun t396 => (some t396)))) else (some false))) else (if (t374 == false) = true then ((spec_TermOk.f kj10 t367 y388).bind fun t397 => (if t397 = true then ((impl_AlwaysOk.f kj10 t367 y388).bind fun t398 => (if (t398 == t374) = true then ((impl_SameOk.f kj10 t367 t368 t368).bind fun t399 => (some t399)) else (some false))) else ((impl_SameOk.f kj10 t367 t368 t368).bind fun t400 => (some t400)))) else (some false))))) else (none)) = some r := by first | (rw [hy385]; with_reducible exact H) | (have H2_ := (Option.bind_some _ _).symm.trans H; rw [hy385]; with_reducible exact H2_) | (have H2_ := (Option.bind_some _ _).symm.trans H; with_reducible exact H2_) | with_reducible exact H | (rw [hy385]; exact H) | exact H
        have Ny385 := Aside0.mk hy385
        clear hy385
        by_cases c24 : y385.length < 8796093022208
        ·rw [if_pos c24] at H
         have LMc24 := Aside0.mk c24
         clear c24
         obtain ⟨y388, hy388⟩ : ∃ y_ : List (S41), y_ = (y385 ++ [(⟨5, 0⟩ : S41)]) := ⟨_, rfl⟩
         replace H : ((impl_FollowsOk.f kj10 t367 t368 t369).bind fun t391 => (if t391 = true then ((impl_FollowsOk.f kj10 t367 t369 t368).bind fun t392 => (if (t374 == t392) = true then ((spec_TermOk.f kj10 t367 y388).bind fun t393 => (if t393 = true then ((impl_AlwaysOk.f kj10 t367 y388).bind fun t394 => (if (t394 == t374) = true then ((impl_SameOk.f kj10 t367 t368 t368).bind fun t395 => (some t395)) else (some false))) else ((impl_SameOk.f kj10 t367 t368 t368).bind fun t396 => (some t396)))) else (some false))) else (if (t374 == false) = true then ((spec_TermOk.f kj10 t367 y388).bind fun t397 => (if t397 = true then ((impl_AlwaysOk.f kj10 t367 y388).bind fun t398 => (if (t398 == t374) = true then ((impl_SameOk.f kj10 t367 t368 t368).bind fun t399 => (some t399)) else (some false))) else ((impl_SameOk.f kj10 t367 t368 t368).bind fun t400 => (some t400)))) else (some false)))) = some r := by first | (rw [hy388]; with_reducible exact H) | (have H2_ := (Option.bind_some _ _).symm.trans H; rw [hy388]; with_reducible exact H2_) | (have H2_ := (Option.bind_some _ _).symm.trans H; with_reducible exact H2_) | with_reducible exact H | (rw [hy388]; exact H) | exact H
         have Ny388 := Aside0.mk hy388
         clear hy388
         replace H := Option.bind_eq_some_iff.mp H
         obtain ⟨t391, A250, H⟩ := H
         replace H : (if t391 = true then ((impl_FollowsOk.f kj10 t367 t369 t368).bind fun t392 => (if (t374 == t392) = true then ((spec_TermOk.f kj10 t367 y388).bind fun t393 => (if t393 = true then ((impl_AlwaysOk.f kj10 t367 y388).bind fun t394 => (if (t394 == t374) = true then ((impl_SameOk.f kj10 t367 t368 t368).bind fun t395 => (some t395)) else (some false))) else ((impl_SameOk.f kj10 t367 t368 t368).bind fun t396 => (some t396)))) else (some false))) else (if (t374 == false) = true then ((spec_TermOk.f kj10 t367 y388).bind fun t397 => (if t397 = true then ((impl_AlwaysOk.f kj10 t367 y388).bind fun t398 => (if (t398 == t374) = true then ((impl_SameOk.f kj10 t367 t368 t368).bind fun t399 => (some t399)) else (some false))) else ((impl_SameOk.f kj10 t367 t368 t368).bind fun t400 => (some t400)))) else (some false))) = some r := H
         have A25 := Aside0.mk A250
         clear A250
         by_cases c26 : t391 = true
         ·subst c26
          have H1 : ((impl_FollowsOk.f kj10 t367 t369 t368).bind fun t392 => (if (t374 == t392) = true then ((spec_TermOk.f kj10 t367 y388).bind fun t393 => (if t393 = true then ((impl_AlwaysOk.f kj10 t367 y388).bind fun t394 => (if (t394 == t374) = true then ((impl_SameOk.f kj10 t367 t368 t368).bind fun t395 => (some t395)) else (some false))) else ((impl_SameOk.f kj10 t367 t368 t368).bind fun t396 => (some t396)))) else (some false))) = some r := by rw [if_pos rfl] at H; exact H
          clear H
          have H := H1
          clear H1
          replace H := Option.bind_eq_some_iff.mp H
          obtain ⟨t392, A270, H⟩ := H
          replace H : (if (t374 == t392) = true then ((spec_TermOk.f kj10 t367 y388).bind fun t393 => (if t393 = true then ((impl_AlwaysOk.f kj10 t367 y388).bind fun t394 => (if (t394 == t374) = true then ((impl_SameOk.f kj10 t367 t368 t368).bind fun t395 => (some t395)) else (some false))) else ((impl_SameOk.f kj10 t367 t368 t368).bind fun t396 => (some t396)))) else (some false)) = some r := H
          have A27 := Aside0.mk A270
          clear A270
          by_cases c28 : (t374 == t392) = true
          ·rw [if_pos c28] at H
           have c28b0 : (t374 == t392) = true := c28
           (try (have c28b1 : decide (t374 = t392) = true := by simpa using c28))
           (try (have c28b2 : (t374 == t392) = true := by simpa using c28))
           clear c28
           replace H := Option.bind_eq_some_iff.mp H
           obtain ⟨t393, A290, H⟩ := H
           replace H : (if t393 = true then ((impl_AlwaysOk.f kj10 t367 y388).bind fun t394 => (if (t394 == t374) = true then ((impl_SameOk.f kj10 t367 t368 t368).bind fun t395 => (some t395)) else (some false))) else ((impl_SameOk.f kj10 t367 t368 t368).bind fun t396 => (some t396))) = some r := H
           have A29 := Aside0.mk A290
           clear A290
           by_cases c30 : t393 = true
           ·subst c30
            have H1 : ((impl_AlwaysOk.f kj10 t367 y388).bind fun t394 => (if (t394 == t374) = true then ((impl_SameOk.f kj10 t367 t368 t368).bind fun t395 => (some t395)) else (some false))) = some r := by rw [if_pos rfl] at H; exact H
            clear H
            have H := H1
            clear H1
            replace H := Option.bind_eq_some_iff.mp H
            obtain ⟨t394, A310, H⟩ := H
            replace H : (if (t394 == t374) = true then ((impl_SameOk.f kj10 t367 t368 t368).bind fun t395 => (some t395)) else (some false)) = some r := H
            have A31 := Aside0.mk A310
            clear A310
            by_cases c32 : (t394 == t374) = true
            ·rw [if_pos c32] at H
             have c32b0 : (t394 == t374) = true := c32
             (try (have c32b1 : decide (t394 = t374) = true := by simpa using c32))
             (try (have c32b2 : (t394 == t374) = true := by simpa using c32))
             clear c32
             replace H := Option.bind_eq_some_iff.mp H
             obtain ⟨t395, A330, H⟩ := H
             replace H : (some t395) = some r := H
             have A33 := Aside0.mk A330
             clear A330
             obtain rfl := Option.some.inj H
             go_wp2_with (first | ((with_reducible refine gate_dst (N := 42) rfl ?_); refine Kd.R_lit k41 _ 41 ?hg (N := 42) ?hd (xs := ([] : List (S41))) (inner := []) (ok := fun _ => True) (okp := fun _ => True) ?hr ?hp (fun _ hk => hk) trivial (Below.refl _ _) (Nat.le_refl _) (by simp) ?_; (case hd => rfl); (case hg => rfl); (case hr => first | (go_simp; done) | (go_simp; rfl)); (case hp => exact (Reps.none _ _)); intro v380 w34 ho35 hb hg_ hnew_; clear hg_ hnew_; (first | rw [← Ny379.out] at ho35 | (simp only [Int.reduceToNat] at ho35; rw [← Ny379.out] at ho35)); have n0_ := Aside0.mk (Kd.R_elder' pwc_ (Kd.R_base ho35) hb); have n1_ := Aside0.mk (Kd.R_elder' pwd_ (Kd.R_base ho35) hb); have n2_ := Aside0.mk (Kd.R_lower (Kd.R_new' (Kd.R_new' ho35 (Kd.R_lt pwc_)) (Kd.R_lt pwd_)) (below_size pwg_)); have n3_ := Aside0.mk (below_step pwg_ hb); clear HO_4; clear HO_5; clear HB; have HO_4 := n0_; have HO_5 := n1_; have HO381 := n2_; have HB := n3_; clear n0_ n1_ n2_ n3_; clear hb ho35) | ((with_reducible refine gate_builtin (b := .append) (xs := #[.tmp 42, .tmp 43]) rfl ?_); at_builtin; refine Kd.R_append_rows k41 (w0 := w) w.heap.size rfl (.tmp 42) (.tmp 43) 23 41 (.agg #[(.int .i64 0), (.int .i64 0)]) 16 rfl Try.underlying23 info41 rfl (by decide) (by omega) v380 y379 t368 _ _ _ (fun k_ => some k_ ≠ (.slice Ao13 t368.length co13 : Value).ownBlock ∧ some k_ ≠ (.slice Ao14 t369.length co14 : Value).ownBlock) (fun _ => False) rfl rfl ?aO ?aR (fun _ _ h => h) (fun _ h => h.elim) ?aF ?aB ?aS ?aL ?_; (case aR => repeat (first | exact (Kd.R_reads' HO_4.out).2.2 | (with_reducible refine Kd.C_alloc ?_ _) | (with_reducible refine Kd.C_drewN ?_ _) | (with_reducible refine Kd.C_drew ?_))); (case aB => exact pwg_); (case aF => exact (fun k_ hk => ⟨Kd.fresh' (Kd.R_lt pwc_) k_ hk, Kd.fresh' (Kd.R_lt pwd_) k_ hk⟩)); (case aO => exact (by (with_reducible repeat apply Kd.R_alloc); exact Kd.R_mono HO381.out (fun _ hk => ⟨hk.1.2, hk.2⟩))); (case aS => exact (below_size pwg_)); (case aL => have := LMc22.out; omega); intro v383 w36 ho hb hg hat; rw [← Ny382.out] at ho; have n0_ := Aside0.mk (Kd.R_after (ok := (fun k_ => some k_ ≠ (.slice Ao14 t369.length co14 : Value).ownBlock)) pwc_ hg hat); have n1_ := Aside0.mk (Kd.R_after (ok := (fun k_ => some k_ ≠ (.slice Ao13 t368.length co13 : Value).ownBlock)) pwd_ hg hat); have n2_ := Aside0.mk (hb); have n3_ := Aside0.mk (ho); clear HO_4; clear HO_5; clear HB; clear HO381; have HO_4 := n0_; have HO_5 := n1_; have HB := n2_; have HO384 := n3_; clear n0_ n1_ n2_ n3_; clear ho hb hg hat) | ((with_reducible refine gate_builtin (b := .append) (xs := #[.tmp 44, .tmp 45]) rfl ?_); at_builtin; refine Kd.R_append_rows k41 (w0 := w) w.heap.size rfl (.tmp 44) (.tmp 45) 23 41 (.agg #[(.int .i64 0), (.int .i64 0)]) 16 rfl Try.underlying23 info41 rfl (by decide) (by omega) v383 y382 t369 _ _ _ (fun k_ => some k_ ≠ (.slice Ao13 t368.length co13 : Value).ownBlock ∧ some k_ ≠ (.slice Ao14 t369.length co14 : Value).ownBlock) (fun _ => False) rfl rfl ?aO ?aR (fun _ _ h => h) (fun _ h => h.elim) ?aF ?aB ?aS ?aL ?_; (case aR => repeat (first | exact (Kd.R_reads' HO_5.out).2.2 | (with_reducible refine Kd.C_alloc ?_ _) | (with_reducible refine Kd.C_drewN ?_ _) | (with_reducible refine Kd.C_drew ?_))); (case aB => exact pwg_); (case aF => exact (fun k_ hk => ⟨Kd.fresh' (Kd.R_lt pwc_) k_ hk, Kd.fresh' (Kd.R_lt pwd_) k_ hk⟩)); (case aO => exact (by (with_reducible repeat apply Kd.R_alloc); exact HO384.out)); (case aS => exact (below_size pwg_)); (case aL => have := LMc23.out; omega); intro v386 w37 ho hb hg hat; rw [← Ny385.out] at ho; have n0_ := Aside0.mk (Kd.R_after (ok := (fun k_ => some k_ ≠ (.slice Ao14 t369.length co14 : Value).ownBlock)) pwc_ hg hat); have n1_ := Aside0.mk (Kd.R_after (ok := (fun k_ => some k_ ≠ (.slice Ao13 t368.length co13 : Value).ownBlock)) pwd_ hg hat); have n2_ := Aside0.mk (hb); have n3_ := Aside0.mk (ho); clear HO_4; clear HO_5; clear HB; clear HO384; have HO_4 := n0_; have HO_5 := n1_; have HB := n2_; have HO387 := n3_; clear n0_ n1_ n2_ n3_; clear ho hb hg hat) | ((with_reducible refine gate_builtin (b := .append) (xs := #[.tmp 46, .tmp 48]) rfl ?_); at_builtin; refine Kd.R_append k41 (w0 := w) w.heap.size rfl (.tmp 46) (.tmp 48) 23 41 (.agg #[(.int .i64 0), (.int .i64 0)]) 16 rfl Try.underlying23 info41 rfl (by decide) (by omega) v386 y385 (⟨5, 0⟩ : S41) [.int .i64 5, .int .i64 0] (fun k_ => some k_ ≠ (.slice Ao13 t368.length co13 : Value).ownBlock ∧ some k_ ≠ (.slice Ao14 t369.length co14 : Value).ownBlock) (fun _ => False) rfl rfl ?aP (fun _ hk => hk.elim) ?aF ?aO ?aB ?aS ?aL ?_; (case aP => exact k41_mkM _ _ _ (⟨5, 0⟩ : S41)); (case aB => exact pwg_); (case aF => exact (fun k_ hk => ⟨Kd.fresh' (Kd.R_lt pwc_) k_ hk, Kd.fresh' (Kd.R_lt pwd_) k_ hk⟩)); (case aO => exact (by (with_reducible repeat apply Kd.R_alloc); exact HO387.out)); (case aS => exact (below_size pwg_)); (case aL => have := LMc24.out; omega); intro v389 w38 ho hb hg hat; rw [← Ny388.out] at ho; have n0_ := Aside0.mk (Kd.R_after (ok := (fun k_ => some k_ ≠ (.slice Ao14 t369.length co14 : Value).ownBlock)) pwc_ hg hat); have n1_ := Aside0.mk (Kd.R_after (ok := (fun k_ => some k_ ≠ (.slice Ao13 t368.length co13 : Value).ownBlock)) pwd_ hg hat); have n2_ := Aside0.mk (hb); have n3_ := Aside0.mk (ho); clear HO_4; clear HO_5; clear HB; clear HO387; have HO_4 := n0_; have HO_5 := n1_; have HB := n2_; have HO390 := n3_; clear n0_ n1_ n2_ n3_; clear ho hb hg hat) | ((with_reducible refine gate_callee (f := 29) rfl ?_); refine goesL_ (some 54) rfl rfl Try.func29 (by kernel_rfl) rfl #[.int .i64 t367, .slice Ao13 t368.length co13, .slice Ao14 t369.length co14] rfl pwi_ ?_; (with_reducible refine (impl_FollowsOk.calls kj10 t367 _ _ t368 _ _ t369 true _ ?side1 ?side2 ?side3 ?side4 A25.out).mono ?_); (case side1 => repeat (first | exact (Kd.R_reads' HO_4.out).2.2 | (with_reducible refine Kd.C_alloc ?_ _) | (with_reducible refine Kd.C_drewN ?_ _) | (with_reducible refine Kd.C_drew ?_))); (case side2 => exact (Kd.R_reads' HO_4.out).2.1); (case side3 => repeat (first | exact (Kd.R_reads' HO_5.out).2.2 | (with_reducible refine Kd.C_alloc ?_ _) | (with_reducible refine Kd.C_drewN ?_ _) | (with_reducible refine Kd.C_drew ?_))); (case side4 => exact (Kd.R_reads' HO_5.out).2.1); rintro e w39 ⟨rfl, hb⟩; refine ⟨_, rfl, ?_⟩; have n0_ := Aside0.mk (Kd.R_below pwc_ hb); have n1_ := Aside0.mk (Kd.R_below pwd_ hb); have n2_ := Aside0.mk (Kd.R_below (by (with_reducible repeat apply Kd.R_alloc); exact HO390.out) hb); have n3_ := Aside0.mk (below_step pwg_ hb); clear HO_4; clear HO_5; clear HO390; clear HB; have HO_4 := n0_; have HO_5 := n1_; have HO390 := n2_; have HB := n3_; clear n0_ n1_ n2_ n3_; (try clear hb); (try clear hb2); (try clear hk); (try clear hi)) | (go_at_call 29; (with_reducible refine (impl_FollowsOk.calls kj10 t367 _ _ t369 _ _ t368 t392 _ ?side1 ?side2 ?side3 ?side4 A27.out).mono ?_); (case side1 => repeat (first | exact (Kd.R_reads' HO_5.out).2.2 | (with_reducible refine Kd.C_alloc ?_ _) | (with_reducible refine Kd.C_drewN ?_ _) | (with_reducible refine Kd.C_drew ?_))); (case side2 => exact (Kd.R_reads' HO_5.out).2.1); (case side3 => repeat (first | exact (Kd.R_reads' HO_4.out).2.2 | (with_reducible refine Kd.C_alloc ?_ _) | (with_reducible refine Kd.C_drewN ?_ _) | (with_reducible refine Kd.C_drew ?_))); (case side4 => exact (Kd.R_reads' HO_4.out).2.1); rintro e w40 ⟨rfl, hb⟩; have n0_ := Aside0.mk (Kd.R_below pwc_ hb); have n1_ := Aside0.mk (Kd.R_below pwd_ hb); have n2_ := Aside0.mk (Kd.R_below (by (with_reducible repeat apply Kd.R_alloc); exact HO390.out) hb); have n3_ := Aside0.mk (below_step pwg_ hb); clear HO_4; clear HO_5; clear HO390; clear HB; have HO_4 := n0_; have HO_5 := n1_; have HO390 := n2_; have HB := n3_; clear n0_ n1_ n2_ n3_; (try clear hb); (try clear hb2); (try clear hk); (try clear hi); obtain ⟨Ao41, co41, eo41⟩ := Kd.R_slice HO390.out; subst eo41) | (go_at_call 35; (with_reducible refine (spec_TermOk.calls kj10 t367 _ _ y388 true _ ?side1 ?side2 A29.out).mono ?_); (case side1 => repeat (first | exact (Kd.R_reads' HO390.out).2.2 | (with_reducible refine Kd.C_alloc ?_ _) | (with_reducible refine Kd.C_drewN ?_ _) | (with_reducible refine Kd.C_drew ?_))); (case side2 => exact (Kd.R_reads' HO390.out).2.1); rintro e w' ⟨rfl, ⟨nd, rfl⟩⟩) | (go_at_call 40; (with_reducible refine (impl_AlwaysOk.calls kj10 t367 _ _ y388 t394 _ ?side1 ?side2 A31.out).mono ?_); (case side1 => repeat (first | exact (Kd.R_reads' HO390.out).2.2 | (with_reducible refine Kd.C_alloc ?_ _) | (with_reducible refine Kd.C_drewN ?_ _) | (with_reducible refine Kd.C_drew ?_))); (case side2 => exact (Kd.R_reads' HO390.out).2.1); rintro e w42 ⟨rfl, hb⟩; have n0_ := Aside0.mk (Kd.R_below pwc_ hb); have n1_ := Aside0.mk (Kd.R_below pwd_ hb); have n2_ := Aside0.mk (Kd.R_below (by (with_reducible repeat apply Kd.R_alloc); exact HO390.out) hb); have n3_ := Aside0.mk (below_step pwg_ hb); clear HO_4; clear HO_5; clear HO390; clear HB; have HO_4 := n0_; have HO_5 := n1_; have HO390 := n2_; have HB := n3_; clear n0_ n1_ n2_ n3_; (try clear hb); (try clear hb2); (try clear hk); (try clear hi)) | (go_at_call 36; (with_reducible refine (impl_SameOk.calls kj10 t367 _ _ t368 _ _ t368 t395 _ ?side1 ?side2 ?side3 ?side4 A33.out).mono ?_); (case side1 => repeat (first | exact (Kd.R_reads' HO_4.out).2.2 | (with_reducible refine Kd.C_alloc ?_ _) | (with_reducible refine Kd.C_drewN ?_ _) | (with_reducible refine Kd.C_drew ?_))); (case side2 => exact (Kd.R_reads' HO_4.out).2.1); (case side3 => repeat (first | exact (Kd.R_reads' HO_4.out).2.2 | (with_reducible refine Kd.C_alloc ?_ _) | (with_reducible refine Kd.C_drewN ?_ _) | (with_reducible refine Kd.C_drew ?_))); (case side4 => exact (Kd.R_reads' HO_4.out).2.1); rintro e w43 ⟨rfl, hb⟩; have n0_ := Aside0.mk (Kd.R_below pwc_ hb); have n1_ := Aside0.mk (Kd.R_below pwd_ hb); have n2_ := Aside0.mk (Kd.R_below (by (with_reducible repeat apply Kd.R_alloc); exact HO390.out) hb); have n3_ := Aside0.mk (below_step pwg_ hb); clear HO_4; clear HO_5; clear HO390; clear HB; have HO_4 := n0_; have HO_5 := n1_; have HO390 := n2_; have HB := n3_; clear n0_ n1_ n2_ n3_; (try clear hb); (try clear hb2); (try clear hk); (try clear hi)))
             go_ret
             exact ⟨by first | rfl | (simp [errW_none, errW_some] <;> rfl) | (simp [*, errW_none, errW_some] <;> rfl), pwg_⟩
            ·rw [if_neg c32] at H
             have c32b0 : (t394 == t374) = false := by simpa using c32
             (try (have c32b1 : decide (t394 = t374) = false := by simpa using c32))
             (try (have c32b2 : (t394 == t374) = false := by simpa using c32))
             (try (have c32b3 : ¬ (t394 = t374) := by simpa using c32))
             clear c32
             obtain rfl := Option.some.inj H
             go_wp2_with (first | ((with_reducible refine gate_dst (N := 42) rfl ?_); refine Kd.R_lit k41 _ 41 ?hg (N := 42) ?hd (xs := ([] : List (S41))) (inner := []) (ok := fun _ => True) (okp := fun _ => True) ?hr ?hp (fun _ hk => hk) trivial (Below.refl _ _) (Nat.le_refl _) (by simp) ?_; (case hd => rfl); (case hg => rfl); (case hr => first | (go_simp; done) | (go_simp; rfl)); (case hp => exact (Reps.none _ _)); intro v380 w44 ho45 hb hg_ hnew_; clear hg_ hnew_; (first | rw [← Ny379.out] at ho45 | (simp only [Int.reduceToNat] at ho45; rw [← Ny379.out] at ho45)); have n0_ := Aside0.mk (Kd.R_elder' pwc_ (Kd.R_base ho45) hb); have n1_ := Aside0.mk (Kd.R_elder' pwd_ (Kd.R_base ho45) hb); have n2_ := Aside0.mk (Kd.R_lower (Kd.R_new' (Kd.R_new' ho45 (Kd.R_lt pwc_)) (Kd.R_lt pwd_)) (below_size pwg_)); have n3_ := Aside0.mk (below_step pwg_ hb); clear HO_4; clear HO_5; clear HB; have HO_4 := n0_; have HO_5 := n1_; have HO381 := n2_; have HB := n3_; clear n0_ n1_ n2_ n3_; clear hb ho45) | ((with_reducible refine gate_builtin (b := .append) (xs := #[.tmp 42, .tmp 43]) rfl ?_); at_builtin; refine Kd.R_append_rows k41 (w0 := w) w.heap.size rfl (.tmp 42) (.tmp 43) 23 41 (.agg #[(.int .i64 0), (.int .i64 0)]) 16 rfl Try.underlying23 info41 rfl (by decide) (by omega) v380 y379 t368 _ _ _ (fun k_ => some k_ ≠ (.slice Ao13 t368.length co13 : Value).ownBlock ∧ some k_ ≠ (.slice Ao14 t369.length co14 : Value).ownBlock) (fun _ => False) rfl rfl ?aO ?aR (fun _ _ h => h) (fun _ h => h.elim) ?aF ?aB ?aS ?aL ?_; (case aR => repeat (first | exact (Kd.R_reads' HO_4.out).2.2 | (with_reducible refine Kd.C_alloc ?_ _) | (with_reducible refine Kd.C_drewN ?_ _) | (with_reducible refine Kd.C_drew ?_))); (case aB => exact pwg_); (case aF => exact (fun k_ hk => ⟨Kd.fresh' (Kd.R_lt pwc_) k_ hk, Kd.fresh' (Kd.R_lt pwd_) k_ hk⟩)); (case aO => exact (by (with_reducible repeat apply Kd.R_alloc); exact Kd.R_mono HO381.out (fun _ hk => ⟨hk.1.2, hk.2⟩))); (case aS => exact (below_size pwg_)); (case aL => have := LMc22.out; omega); intro v383 w46 ho hb hg hat; rw [← Ny382.out] at ho; have n0_ := Aside0.mk (Kd.R_after (ok := (fun k_ => some k_ ≠ (.slice Ao14 t369.length co14 : Value).ownBlock)) pwc_ hg hat); have n1_ := Aside0.mk (Kd.R_after (ok := (fun k_ => some k_ ≠ (.slice Ao13 t368.length co13 : Value).ownBlock)) pwd_ hg hat); have n2_ := Aside0.mk (hb); have n3_ := Aside0.mk (ho); clear HO_4; clear HO_5; clear HB; clear HO381; have HO_4 := n0_; have HO_5 := n1_; have HB := n2_; have HO384 := n3_; clear n0_ n1_ n2_ n3_; clear ho hb hg hat) | ((with_reducible refine gate_builtin (b := .append) (xs := #[.tmp 44, .tmp 45]) rfl ?_); at_builtin; refine Kd.R_append_rows k41 (w0 := w) w.heap.size rfl (.tmp 44) (.tmp 45) 23 41 (.agg #[(.int .i64 0), (.int .i64 0)]) 16 rfl Try.underlying23 info41 rfl (by decide) (by omega) v383 y382 t369 _ _ _ (fun k_ => some k_ ≠ (.slice Ao13 t368.length co13 : Value).ownBlock ∧ some k_ ≠ (.slice Ao14 t369.length co14 : Value).ownBlock) (fun _ => False) rfl rfl ?aO ?aR (fun _ _ h => h) (fun _ h => h.elim) ?aF ?aB ?aS ?aL ?_; (case aR => repeat (first | exact (Kd.R_reads' HO_5.out).2.2 | (with_reducible refine Kd.C_alloc ?_ _) | (with_reducible refine Kd.C_drewN ?_ _) | (with_reducible refine Kd.C_drew ?_))); (case aB => exact pwg_); (case aF => exact (fun k_ hk => ⟨Kd.fresh' (Kd.R_lt pwc_) k_ hk, Kd.fresh' (Kd.R_lt pwd_) k_ hk⟩)); (case aO => exact (by (with_reducible repeat apply Kd.R_alloc); exact HO384.out)); (case aS => exact (below_size pwg_)); (case aL => have := LMc23.out; omega); intro v386 w47 ho hb hg hat; rw [← Ny385.out] at ho; have n0_ := Aside0.mk (Kd.R_after (ok := (fun k_ => some k_ ≠ (.slice Ao14 t369.length co14 : Value).ownBlock)) pwc_ hg hat); have n1_ := Aside0.mk (Kd.R_after (ok := (fun k_ => some k_ ≠ (.slice Ao13 t368.length co13 : Value).ownBlock)) pwd_ hg hat); have n2_ := Aside0.mk (hb); have n3_ := Aside0.mk (ho); clear HO_4; clear HO_5; clear HB; clear HO384; have HO_4 := n0_; have HO_5 := n1_; have HB := n2_; have HO387 := n3_; clear n0_ n1_ n2_ n3_; clear ho hb hg hat) | ((with_reducible refine gate_builtin (b := .append) (xs := #[.tmp 46, .tmp 48]) rfl ?_); at_builtin; refine Kd.R_append k41 (w0 := w) w.heap.size rfl (.tmp 46) (.tmp 48) 23 41 (.agg #[(.int .i64 0), (.int .i64 0)]) 16 rfl Try.underlying23 info41 rfl (by decide) (by omega) v386 y385 (⟨5, 0⟩ : S41) [.int .i64 5, .int .i64 0] (fun k_ => some k_ ≠ (.slice Ao13 t368.length co13 : Value).ownBlock ∧ some k_ ≠ (.slice Ao14 t369.length co14 : Value).ownBlock) (fun _ => False) rfl rfl ?aP (fun _ hk => hk.elim) ?aF ?aO ?aB ?aS ?aL ?_; (case aP => exact k41_mkM _ _ _ (⟨5, 0⟩ : S41)); (case aB => exact pwg_); (case aF => exact (fun k_ hk => ⟨Kd.fresh' (Kd.R_lt pwc_) k_ hk, Kd.fresh' (Kd.R_lt pwd_) k_ hk⟩)); (case aO => exact (by (with_reducible repeat apply Kd.R_alloc); exact HO387.out)); (case aS => exact (below_size pwg_)); (case aL => have := LMc24.out; omega); intro v389 w48 ho hb hg hat; rw [← Ny388.out] at ho; have n0_ := Aside0.mk (Kd.R_after (ok := (fun k_ => some k_ ≠ (.slice Ao14 t369.length co14 : Value).ownBlock)) pwc_ hg hat); have n1_ := Aside0.mk (Kd.R_after (ok := (fun k_ => some k_ ≠ (.slice Ao13 t368.length co13 : Value).ownBlock)) pwd_ hg hat); have n2_ := Aside0.mk (hb); have n3_ := Aside0.mk (ho); clear HO_4; clear HO_5; clear HB; clear HO387; have HO_4 := n0_; have HO_5 := n1_; have HB := n2_; have HO390 := n3_; clear n0_ n1_ n2_ n3_; clear ho hb hg hat) | ((with_reducible refine gate_callee (f := 29) rfl ?_); refine goesL_ (some 54) rfl rfl Try.func29 (by kernel_rfl) rfl #[.int .i64 t367, .slice Ao13 t368.length co13, .slice Ao14 t369.length co14] rfl pwi_ ?_; (with_reducible refine (impl_FollowsOk.calls kj10 t367 _ _ t368 _ _ t369 true _ ?side1 ?side2 ?side3 ?side4 A25.out).mono ?_); (case side1 => repeat (first | exact (Kd.R_reads' HO_4.out).2.2 | (with_reducible refine Kd.C_alloc ?_ _) | (with_reducible refine Kd.C_drewN ?_ _) | (with_reducible refine Kd.C_drew ?_))); (case side2 => exact (Kd.R_reads' HO_4.out).2.1); (case side3 => repeat (first | exact (Kd.R_reads' HO_5.out).2.2 | (with_reducible refine Kd.C_alloc ?_ _) | (with_reducible refine Kd.C_drewN ?_ _) | (with_reducible refine Kd.C_drew ?_))); (case side4 => exact (Kd.R_reads' HO_5.out).2.1); rintro e w49 ⟨rfl, hb⟩; refine ⟨_, rfl, ?_⟩; have n0_ := Aside0.mk (Kd.R_below pwc_ hb); have n1_ := Aside0.mk (Kd.R_below pwd_ hb); have n2_ := Aside0.mk (Kd.R_below (by (with_reducible repeat apply Kd.R_alloc); exact HO390.out) hb); have n3_ := Aside0.mk (below_step pwg_ hb); clear HO_4; clear HO_5; clear HO390; clear HB; have HO_4 := n0_; have HO_5 := n1_; have HO390 := n2_; have HB := n3_; clear n0_ n1_ n2_ n3_; (try clear hb); (try clear hb2); (try clear hk); (try clear hi)) | (go_at_call 29; (with_reducible refine (impl_FollowsOk.calls kj10 t367 _ _ t369 _ _ t368 t392 _ ?side1 ?side2 ?side3 ?side4 A27.out).mono ?_); (case side1 => repeat (first | exact (Kd.R_reads' HO_5.out).2.2 | (with_reducible refine Kd.C_alloc ?_ _) | (with_reducible refine Kd.C_drewN ?_ _) | (with_reducible refine Kd.C_drew ?_))); (case side2 => exact (Kd.R_reads' HO_5.out).2.1); (case side3 => repeat (first | exact (Kd.R_reads' HO_4.out).2.2 | (with_reducible refine Kd.C_alloc ?_ _) | (with_reducible refine Kd.C_drewN ?_ _) | (with_reducible refine Kd.C_drew ?_))); (case side4 => exact (Kd.R_reads' HO_4.out).2.1); rintro e w50 ⟨rfl, hb⟩; have n0_ := Aside0.mk (Kd.R_below pwc_ hb); have n1_ := Aside0.mk (Kd.R_below pwd_ hb); have n2_ := Aside0.mk (Kd.R_below (by (with_reducible repeat apply Kd.R_alloc); exact HO390.out) hb); have n3_ := Aside0.mk (below_step pwg_ hb); clear HO_4; clear HO_5; clear HO390; clear HB; have HO_4 := n0_; have HO_5 := n1_; have HO390 := n2_; have HB := n3_; clear n0_ n1_ n2_ n3_; (try clear hb); (try clear hb2); (try clear hk); (try clear hi); obtain ⟨Ao51, co51, eo51⟩ := Kd.R_slice HO390.out; subst eo51) | (go_at_call 35; (with_reducible refine (spec_TermOk.calls kj10 t367 _ _ y388 true _ ?side1 ?side2 A29.out).mono ?_); (case side1 => repeat (first | exact (Kd.R_reads' HO390.out).2.2 | (with_reducible refine Kd.C_alloc ?_ _) | (with_reducible refine Kd.C_drewN ?_ _) | (with_reducible refine Kd.C_drew ?_))); (case side2 => exact (Kd.R_reads' HO390.out).2.1); rintro e w' ⟨rfl, ⟨nd, rfl⟩⟩) | (go_at_call 40; (with_reducible refine (impl_AlwaysOk.calls kj10 t367 _ _ y388 t394 _ ?side1 ?side2 A31.out).mono ?_); (case side1 => repeat (first | exact (Kd.R_reads' HO390.out).2.2 | (with_reducible refine Kd.C_alloc ?_ _) | (with_reducible refine Kd.C_drewN ?_ _) | (with_reducible refine Kd.C_drew ?_))); (case side2 => exact (Kd.R_reads' HO390.out).2.1); rintro e w52 ⟨rfl, hb⟩; have n0_ := Aside0.mk (Kd.R_below pwc_ hb); have n1_ := Aside0.mk (Kd.R_below pwd_ hb); have n2_ := Aside0.mk (Kd.R_below (by (with_reducible repeat apply Kd.R_alloc); exact HO390.out) hb); have n3_ := Aside0.mk (below_step pwg_ hb); clear HO_4; clear HO_5; clear HO390; clear HB; have HO_4 := n0_; have HO_5 := n1_; have HO390 := n2_; have HB := n3_; clear n0_ n1_ n2_ n3_; (try clear hb); (try clear hb2); (try clear hk); (try clear hi)))
             go_ret
             exact ⟨by first | rfl | (simp [errW_none, errW_some] <;> rfl) | (simp [*, errW_none, errW_some] <;> rfl), pwg_⟩
           ·replace c30 := Bool.eq_false_iff.mpr c30
            subst c30
            have H1 : ((impl_SameOk.f kj10 t367 t368 t368).bind fun t396 => (some t396)) = some r := by rw [if_neg (show ¬ (false = true) by decide)] at H; exact H
            clear H
            have H := H1
            clear H1
            replace H := Option.bind_eq_some_iff.mp H
            obtain ⟨t396, A530, H⟩ := H
            replace H : (some t396) = some r := H
            have A53 := Aside0.mk A530
            clear A530
            obtain rfl := Option.some.inj H
            go_wp2_with (first | ((with_reducible refine gate_dst (N := 42) rfl ?_); refine Kd.R_lit k41 _ 41 ?hg (N := 42) ?hd (xs := ([] : List (S41))) (inner := []) (ok := fun _ => True) (okp := fun _ => True) ?hr ?hp (fun _ hk => hk) trivial (Below.refl _ _) (Nat.le_refl _) (by simp) ?_; (case hd => rfl); (case hg => rfl); (case hr => first | (go_simp; done) | (go_simp; rfl)); (case hp => exact (Reps.none _ _)); intro v380 w54 ho55 hb hg_ hnew_; clear hg_ hnew_; (first | rw [← Ny379.out] at ho55 | (simp only [Int.reduceToNat] at ho55; rw [← Ny379.out] at ho55)); have n0_ := Aside0.mk (Kd.R_elder' pwc_ (Kd.R_base ho55) hb); have n1_ := Aside0.mk (Kd.R_elder' pwd_ (Kd.R_base ho55) hb); have n2_ := Aside0.mk (Kd.R_lower (Kd.R_new' (Kd.R_new' ho55 (Kd.R_lt pwc_)) (Kd.R_lt pwd_)) (below_size pwg_)); have n3_ := Aside0.mk (below_step pwg_ hb); clear HO_4; clear HO_5; clear HB; have HO_4 := n0_; have HO_5 := n1_; have HO381 := n2_; have HB := n3_; clear n0_ n1_ n2_ n3_; clear hb ho55) | ((with_reducible refine gate_builtin (b := .append) (xs := #[.tmp 42, .tmp 43]) rfl ?_); at_builtin; refine Kd.R_append_rows k41 (w0 := w) w.heap.size rfl (.tmp 42) (.tmp 43) 23 41 (.agg #[(.int .i64 0), (.int .i64 0)]) 16 rfl Try.underlying23 info41 rfl (by decide) (by omega) v380 y379 t368 _ _ _ (fun k_ => some k_ ≠ (.slice Ao13 t368.length co13 : Value).ownBlock ∧ some k_ ≠ (.slice Ao14 t369.length co14 : Value).ownBlock) (fun _ => False) rfl rfl ?aO ?aR (fun _ _ h => h) (fun _ h => h.elim) ?aF ?aB ?aS ?aL ?_; (case aR => repeat (first | exact (Kd.R_reads' HO_4.out).2.2 | (with_reducible refine Kd.C_alloc ?_ _) | (with_reducible refine Kd.C_drewN ?_ _) | (with_reducible refine Kd.C_drew ?_))); (case aB => exact pwg_); (case aF => exact (fun k_ hk => ⟨Kd.fresh' (Kd.R_lt pwc_) k_ hk, Kd.fresh' (Kd.R_lt pwd_) k_ hk⟩)); (case aO => exact (by (with_reducible repeat apply Kd.R_alloc); exact Kd.R_mono HO381.out (fun _ hk => ⟨hk.1.2, hk.2⟩))); (case aS => exact (below_size pwg_)); (case aL => have := LMc22.out; omega); intro v383 w56 ho hb hg hat; rw [← Ny382.out] at ho; have n0_ := Aside0.mk (Kd.R_after (ok := (fun k_ => some k_ ≠ (.slice Ao14 t369.length co14 : Value).ownBlock)) pwc_ hg hat); have n1_ := Aside0.mk (Kd.R_after (ok := (fun k_ => some k_ ≠ (.slice Ao13 t368.length co13 : Value).ownBlock)) pwd_ hg hat); have n2_ := Aside0.mk (hb); have n3_ := Aside0.mk (ho); clear HO_4; clear HO_5; clear HB; clear HO381; have HO_4 := n0_; have HO_5 := n1_; have HB := n2_; have HO384 := n3_; clear n0_ n1_ n2_ n3_; clear ho hb hg hat) | ((with_reducible refine gate_builtin (b := .append) (xs := #[.tmp 44, .tmp 45]) rfl ?_); at_builtin; refine Kd.R_append_rows k41 (w0 := w) w.heap.size rfl (.tmp 44) (.tmp 45) 23 41 (.agg #[(.int .i64 0), (.int .i64 0)]) 16 rfl Try.underlying23 info41 rfl (by decide) (by omega) v383 y382 t369 _ _ _ (fun k_ => some k_ ≠ (.slice Ao13 t368.length co13 : Value).ownBlock ∧ some k_ ≠ (.slice Ao14 t369.length co14 : Value).ownBlock) (fun _ => False) rfl rfl ?aO ?aR (fun _ _ h => h) (fun _ h => h.elim) ?aF ?aB ?aS ?aL ?_; (case aR => repeat (first | exact (Kd.R_reads' HO_5.out).2.2 | (with_reducible refine Kd.C_alloc ?_ _) | (with_reducible refine Kd.C_drewN ?_ _) | (with_reducible refine Kd.C_drew ?_))); (case aB => exact pwg_); (case aF => exact (fun k_ hk => ⟨Kd.fresh' (Kd.R_lt pwc_) k_ hk, Kd.fresh' (Kd.R_lt pwd_) k_ hk⟩)); (case aO => exact (by (with_reducible repeat apply Kd.R_alloc); exact HO384.out)); (case aS => exact (below_size pwg_)); (case aL => have := LMc23.out; omega); intro v386 w57 ho hb hg hat; rw [← Ny385.out] at ho; have n0_ := Aside0.mk (Kd.R_after (ok := (fun k_ => some k_ ≠ (.slice Ao14 t369.length co14 : Value).ownBlock)) pwc_ hg hat); have n1_ := Aside0.mk (Kd.R_after (ok := (fun k_ => some k_ ≠ (.slice Ao13 t368.length co13 : Value).ownBlock)) pwd_ hg hat); have n2_ := Aside0.mk (hb); have n3_ := Aside0.mk (ho); clear HO_4; clear HO_5; clear HB; clear HO384; have HO_4 := n0_; have HO_5 := n1_; have HB := n2_; have HO387 := n3_; clear n0_ n1_ n2_ n3_; clear ho hb hg hat) | ((with_reducible refine gate_builtin (b := .append) (xs := #[.tmp 46, .tmp 48]) rfl ?_); at_builtin; refine Kd.R_append k41 (w0 := w) w.heap.size rfl (.tmp 46) (.tmp 48) 23 41 (.agg #[(.int .i64 0), (.int .i64 0)]) 16 rfl Try.underlying23 info41 rfl (by decide) (by omega) v386 y385 (⟨5, 0⟩ : S41) [.int .i64 5, .int .i64 0] (fun k_ => some k_ ≠ (.slice Ao13 t368.length co13 : Value).ownBlock ∧ some k_ ≠ (.slice Ao14 t369.length co14 : Value).ownBlock) (fun _ => False) rfl rfl ?aP (fun _ hk => hk.elim) ?aF ?aO ?aB ?aS ?aL ?_; (case aP => exact k41_mkM _ _ _ (⟨5, 0⟩ : S41)); (case aB => exact pwg_); (case aF => exact (fun k_ hk => ⟨Kd.fresh' (Kd.R_lt pwc_) k_ hk, Kd.fresh' (Kd.R_lt pwd_) k_ hk⟩)); (case aO => exact (by (with_reducible repeat apply Kd.R_alloc); exact HO387.out)); (case aS => exact (below_size pwg_)); (case aL => have := LMc24.out; omega); intro v389 w58 ho hb hg hat; rw [← Ny388.out] at ho; have n0_ := Aside0.mk (Kd.R_after (ok := (fun k_ => some k_ ≠ (.slice Ao14 t369.length co14 : Value).ownBlock)) pwc_ hg hat); have n1_ := Aside0.mk (Kd.R_after (ok := (fun k_ => some k_ ≠ (.slice Ao13 t368.length co13 : Value).ownBlock)) pwd_ hg hat); have n2_ := Aside0.mk (hb); have n3_ := Aside0.mk (ho); clear HO_4; clear HO_5; clear HB; clear HO387; have HO_4 := n0_; have HO_5 := n1_; have HB := n2_; have HO390 := n3_; clear n0_ n1_ n2_ n3_; clear ho hb hg hat) | ((with_reducible refine gate_callee (f := 29) rfl ?_); refine goesL_ (some 54) rfl rfl Try.func29 (by kernel_rfl) rfl #[.int .i64 t367, .slice Ao13 t368.length co13, .slice Ao14 t369.length co14] rfl pwi_ ?_; (with_reducible refine (impl_FollowsOk.calls kj10 t367 _ _ t368 _ _ t369 true _ ?side1 ?side2 ?side3 ?side4 A25.out).mono ?_); (case side1 => repeat (first | exact (Kd.R_reads' HO_4.out).2.2 | (with_reducible refine Kd.C_alloc ?_ _) | (with_reducible refine Kd.C_drewN ?_ _) | (with_reducible refine Kd.C_drew ?_))); (case side2 => exact (Kd.R_reads' HO_4.out).2.1); (case side3 => repeat (first | exact (Kd.R_reads' HO_5.out).2.2 | (with_reducible refine Kd.C_alloc ?_ _) | (with_reducible refine Kd.C_drewN ?_ _) | (with_reducible refine Kd.C_drew ?_))); (case side4 => exact (Kd.R_reads' HO_5.out).2.1); rintro e w59 ⟨rfl, hb⟩; refine ⟨_, rfl, ?_⟩; have n0_ := Aside0.mk (Kd.R_below pwc_ hb); have n1_ := Aside0.mk (Kd.R_below pwd_ hb); have n2_ := Aside0.mk (Kd.R_below (by (with_reducible repeat apply Kd.R_alloc); exact HO390.out) hb); have n3_ := Aside0.mk (below_step pwg_ hb); clear HO_4; clear HO_5; clear HO390; clear HB; have HO_4 := n0_; have HO_5 := n1_; have HO390 := n2_; have HB := n3_; clear n0_ n1_ n2_ n3_; (try clear hb); (try clear hb2); (try clear hk); (try clear hi)) | (go_at_call 29; (with_reducible refine (impl_FollowsOk.calls kj10 t367 _ _ t369 _ _ t368 t392 _ ?side1 ?side2 ?side3 ?side4 A27.out).mono ?_); (case side1 => repeat (first | exact (Kd.R_reads' HO_5.out).2.2 | (with_reducible refine Kd.C_alloc ?_ _) | (with_reducible refine Kd.C_drewN ?_ _) | (with_reducible refine Kd.C_drew ?_))); (case side2 => exact (Kd.R_reads' HO_5.out).2.1); (case side3 => repeat (first | exact (Kd.R_reads' HO_4.out).2.2 | (with_reducible refine Kd.C_alloc ?_ _) | (with_reducible refine Kd.C_drewN ?_ _) | (with_reducible refine Kd.C_drew ?_))); (case side4 => exact (Kd.R_reads' HO_4.out).2.1); rintro e w60 ⟨rfl, hb⟩; have n0_ := Aside0.mk (Kd.R_below pwc_ hb); have n1_ := Aside0.mk (Kd.R_below pwd_ hb); have n2_ := Aside0.mk (Kd.R_below (by (with_reducible repeat apply Kd.R_alloc); exact HO390.out) hb); have n3_ := Aside0.mk (below_step pwg_ hb); clear HO_4; clear HO_5; clear HO390; clear HB; have HO_4 := n0_; have HO_5 := n1_; have HO390 := n2_; have HB := n3_; clear n0_ n1_ n2_ n3_; (try clear hb); (try clear hb2); (try clear hk); (try clear hi); obtain ⟨Ao61, co61, eo61⟩ := Kd.R_slice HO390.out; subst eo61) | (go_at_call 35; (with_reducible refine (spec_TermOk.calls kj10 t367 _ _ y388 false _ ?side1 ?side2 A29.out).mono ?_); (case side1 => repeat (first | exact (Kd.R_reads' HO390.out).2.2 | (with_reducible refine Kd.C_alloc ?_ _) | (with_reducible refine Kd.C_drewN ?_ _) | (with_reducible refine Kd.C_drew ?_))); (case side2 => exact (Kd.R_reads' HO390.out).2.1); rintro e w' ⟨rfl, ⟨nd, rfl⟩⟩) | (go_at_call 36; (with_reducible refine (impl_SameOk.calls kj10 t367 _ _ t368 _ _ t368 t396 _ ?side1 ?side2 ?side3 ?side4 A53.out).mono ?_); (case side1 => repeat (first | exact (Kd.R_reads' HO_4.out).2.2 | (with_reducible refine Kd.C_alloc ?_ _) | (with_reducible refine Kd.C_drewN ?_ _) | (with_reducible refine Kd.C_drew ?_))); (case side2 => exact (Kd.R_reads' HO_4.out).2.1); (case side3 => repeat (first | exact (Kd.R_reads' HO_4.out).2.2 | (with_reducible refine Kd.C_alloc ?_ _) | (with_reducible refine Kd.C_drewN ?_ _) | (with_reducible refine Kd.C_drew ?_))); (case side4 => exact (Kd.R_reads' HO_4.out).2.1); rintro e w62 ⟨rfl, hb⟩; have n0_ := Aside0.mk (Kd.R_below pwc_ hb); have n1_ := Aside0.mk (Kd.R_below pwd_ hb); have n2_ := Aside0.mk (Kd.R_below (by (with_reducible repeat apply Kd.R_alloc); exact HO390.out) hb); have n3_ := Aside0.mk (below_step pwg_ hb); clear HO_4; clear HO_5; clear HO390; clear HB; have HO_4 := n0_; have HO_5 := n1_; have HO390 := n2_; have HB := n3_; clear n0_ n1_ n2_ n3_; (try clear hb); (try clear hb2); (try clear hk); (try clear hi)))
            go_ret
            exact ⟨by first | rfl | (simp [errW_none, errW_some] <;> rfl) | (simp [*, errW_none, errW_some] <;> rfl), pwg_⟩
          ·rw [if_neg c28] at H
           have c28b0 : (t374 == t392) = false := by simpa using c28
           (try (have c28b1 : decide (t374 = t392) = false := by simpa using c28))
           (try (have c28b2 : (t374 == t392) = false := by simpa using c28))
           (try (have c28b3 : ¬ (t374 = t392) := by simpa using c28))
           clear c28
           obtain rfl := Option.some.inj H
           go_wp2_with (first | ((with_reducible refine gate_dst (N := 42) rfl ?_); refine Kd.R_lit k41 _ 41 ?hg (N := 42) ?hd (xs := ([] : List (S41))) (inner := []) (ok := fun _ => True) (okp := fun _ => True) ?hr ?hp (fun _ hk => hk) trivial (Below.refl _ _) (Nat.le_refl _) (by simp) ?_; (case hd => rfl); (case hg => rfl); (case hr => first | (go_simp; done) | (go_simp; rfl)); (case hp => exact (Reps.none _ _)); intro v380 w63 ho64 hb hg_ hnew_; clear hg_ hnew_; (first | rw [← Ny379.out] at ho64 | (simp only [Int.reduceToNat] at ho64; rw [← Ny379.out] at ho64)); have n0_ := Aside0.mk (Kd.R_elder' pwc_ (Kd.R_base ho64) hb); have n1_ := Aside0.mk (Kd.R_elder' pwd_ (Kd.R_base ho64) hb); have n2_ := Aside0.mk (Kd.R_lower (Kd.R_new' (Kd.R_new' ho64 (Kd.R_lt pwc_)) (Kd.R_lt pwd_)) (below_size pwg_)); have n3_ := Aside0.mk (below_step pwg_ hb); clear HO_4; clear HO_5; clear HB; have HO_4 := n0_; have HO_5 := n1_; have HO381 := n2_; have HB := n3_; clear n0_ n1_ n2_ n3_; clear hb ho64) | ((with_reducible refine gate_builtin (b := .append) (xs := #[.tmp 42, .tmp 43]) rfl ?_); at_builtin; refine Kd.R_append_rows k41 (w0 := w) w.heap.size rfl (.tmp 42) (.tmp 43) 23 41 (.agg #[(.int .i64 0), (.int .i64 0)]) 16 rfl Try.underlying23 info41 rfl (by decide) (by omega) v380 y379 t368 _ _ _ (fun k_ => some k_ ≠ (.slice Ao13 t368.length co13 : Value).ownBlock ∧ some k_ ≠ (.slice Ao14 t369.length co14 : Value).ownBlock) (fun _ => False) rfl rfl ?aO ?aR (fun _ _ h => h) (fun _ h => h.elim) ?aF ?aB ?aS ?aL ?_; (case aR => repeat (first | exact (Kd.R_reads' HO_4.out).2.2 | (with_reducible refine Kd.C_alloc ?_ _) | (with_reducible refine Kd.C_drewN ?_ _) | (with_reducible refine Kd.C_drew ?_))); (case aB => exact pwg_); (case aF => exact (fun k_ hk => ⟨Kd.fresh' (Kd.R_lt pwc_) k_ hk, Kd.fresh' (Kd.R_lt pwd_) k_ hk⟩)); (case aO => exact (by (with_reducible repeat apply Kd.R_alloc); exact Kd.R_mono HO381.out (fun _ hk => ⟨hk.1.2, hk.2⟩))); (case aS => exact (below_size pwg_)); (case aL => have := LMc22.out; omega); intro v383 w65 ho hb hg hat; rw [← Ny382.out] at ho; have n0_ := Aside0.mk (Kd.R_after (ok := (fun k_ => some k_ ≠ (.slice Ao14 t369.length co14 : Value).ownBlock)) pwc_ hg hat); have n1_ := Aside0.mk (Kd.R_after (ok := (fun k_ => some k_ ≠ (.slice Ao13 t368.length co13 : Value).ownBlock)) pwd_ hg hat); have n2_ := Aside0.mk (hb); have n3_ := Aside0.mk (ho); clear HO_4; clear HO_5; clear HB; clear HO381; have HO_4 := n0_; have HO_5 := n1_; have HB := n2_; have HO384 := n3_; clear n0_ n1_ n2_ n3_; clear ho hb hg hat) | ((with_reducible refine gate_builtin (b := .append) (xs := #[.tmp 44, .tmp 45]) rfl ?_); at_builtin; refine Kd.R_append_rows k41 (w0 := w) w.heap.size rfl (.tmp 44) (.tmp 45) 23 41 (.agg #[(.int .i64 0), (.int .i64 0)]) 16 rfl Try.underlying23 info41 rfl (by decide) (by omega) v383 y382 t369 _ _ _ (fun k_ => some k_ ≠ (.slice Ao13 t368.length co13 : Value).ownBlock ∧ some k_ ≠ (.slice Ao14 t369.length co14 : Value).ownBlock) (fun _ => False) rfl rfl ?aO ?aR (fun _ _ h => h) (fun _ h => h.elim) ?aF ?aB ?aS ?aL ?_; (case aR => repeat (first | exact (Kd.R_reads' HO_5.out).2.2 | (with_reducible refine Kd.C_alloc ?_ _) | (with_reducible refine Kd.C_drewN ?_ _) | (with_reducible refine Kd.C_drew ?_))); (case aB => exact pwg_); (case aF => exact (fun k_ hk => ⟨Kd.fresh' (Kd.R_lt pwc_) k_ hk, Kd.fresh' (Kd.R_lt pwd_) k_ hk⟩)); (case aO => exact (by (with_reducible repeat apply Kd.R_alloc); exact HO384.out)); (case aS => exact (below_size pwg_)); (case aL => have := LMc23.out; omega); intro v386 w66 ho hb hg hat; rw [← Ny385.out] at ho; have n0_ := Aside0.mk (Kd.R_after (ok := (fun k_ => some k_ ≠ (.slice Ao14 t369.length co14 : Value).ownBlock)) pwc_ hg hat); have n1_ := Aside0.mk (Kd.R_after (ok := (fun k_ => some k_ ≠ (.slice Ao13 t368.length co13 : Value).ownBlock)) pwd_ hg hat); have n2_ := Aside0.mk (hb); have n3_ := Aside0.mk (ho); clear HO_4; clear HO_5; clear HB; clear HO384; have HO_4 := n0_; have HO_5 := n1_; have HB := n2_; have HO387 := n3_; clear n0_ n1_ n2_ n3_; clear ho hb hg hat) | ((with_reducible refine gate_builtin (b := .append) (xs := #[.tmp 46, .tmp 48]) rfl ?_); at_builtin; refine Kd.R_append k41 (w0 := w) w.heap.size rfl (.tmp 46) (.tmp 48) 23 41 (.agg #[(.int .i64 0), (.int .i64 0)]) 16 rfl Try.underlying23 info41 rfl (by decide) (by omega) v386 y385 (⟨5, 0⟩ : S41) [.int .i64 5, .int .i64 0] (fun k_ => some k_ ≠ (.slice Ao13 t368.length co13 : Value).ownBlock ∧ some k_ ≠ (.slice Ao14 t369.length co14 : Value).ownBlock) (fun _ => False) rfl rfl ?aP (fun _ hk => hk.elim) ?aF ?aO ?aB ?aS ?aL ?_; (case aP => exact k41_mkM _ _ _ (⟨5, 0⟩ : S41)); (case aB => exact pwg_); (case aF => exact (fun k_ hk => ⟨Kd.fresh' (Kd.R_lt pwc_) k_ hk, Kd.fresh' (Kd.R_lt pwd_) k_ hk⟩)); (case aO => exact (by (with_reducible repeat apply Kd.R_alloc); exact HO387.out)); (case aS => exact (below_size pwg_)); (case aL => have := LMc24.out; omega); intro v389 w67 ho hb hg hat; rw [← Ny388.out] at ho; have n0_ := Aside0.mk (Kd.R_after (ok := (fun k_ => some k_ ≠ (.slice Ao14 t369.length co14 : Value).ownBlock)) pwc_ hg hat); have n1_ := Aside0.mk (Kd.R_after (ok := (fun k_ => some k_ ≠ (.slice Ao13 t368.length co13 : Value).ownBlock)) pwd_ hg hat); have n2_ := Aside0.mk (hb); have n3_ := Aside0.mk (ho); clear HO_4; clear HO_5; clear HB; clear HO387; have HO_4 := n0_; have HO_5 := n1_; have HB := n2_; have HO390 := n3_; clear n0_ n1_ n2_ n3_; clear ho hb hg hat) | ((with_reducible refine gate_callee (f := 29) rfl ?_); refine goesL_ (some 54) rfl rfl Try.func29 (by kernel_rfl) rfl #[.int .i64 t367, .slice Ao13 t368.length co13, .slice Ao14 t369.length co14] rfl pwi_ ?_; (with_reducible refine (impl_FollowsOk.calls kj10 t367 _ _ t368 _ _ t369 true _ ?side1 ?side2 ?side3 ?side4 A25.out).mono ?_); (case side1 => repeat (first | exact (Kd.R_reads' HO_4.out).2.2 | (with_reducible refine Kd.C_alloc ?_ _) | (with_reducible refine Kd.C_drewN ?_ _) | (with_reducible refine Kd.C_drew ?_))); (case side2 => exact (Kd.R_reads' HO_4.out).2.1); (case side3 => repeat (first | exact (Kd.R_reads' HO_5.out).2.2 | (with_reducible refine Kd.C_alloc ?_ _) | (with_reducible refine Kd.C_drewN ?_ _) | (with_reducible refine Kd.C_drew ?_))); (case side4 => exact (Kd.R_reads' HO_5.out).2.1); rintro e w68 ⟨rfl, hb⟩; refine ⟨_, rfl, ?_⟩; have n0_ := Aside0.mk (Kd.R_below pwc_ hb); have n1_ := Aside0.mk (Kd.R_below pwd_ hb); have n2_ := Aside0.mk (Kd.R_below (by (with_reducible repeat apply Kd.R_alloc); exact HO390.out) hb); have n3_ := Aside0.mk (below_step pwg_ hb); clear HO_4; clear HO_5; clear HO390; clear HB; have HO_4 := n0_; have HO_5 := n1_; have HO390 := n2_; have HB := n3_; clear n0_ n1_ n2_ n3_; (try clear hb); (try clear hb2); (try clear hk); (try clear hi)) | (go_at_call 29; (with_reducible refine (impl_FollowsOk.calls kj10 t367 _ _ t369 _ _ t368 t392 _ ?side1 ?side2 ?side3 ?side4 A27.out).mono ?_); (case side1 => repeat (first | exact (Kd.R_reads' HO_5.out).2.2 | (with_reducible refine Kd.C_alloc ?_ _) | (with_reducible refine Kd.C_drewN ?_ _) | (with_reducible refine Kd.C_drew ?_))); (case side2 => exact (Kd.R_reads' HO_5.out).2.1); (case side3 => repeat (first | exact (Kd.R_reads' HO_4.out).2.2 | (with_reducible refine Kd.C_alloc ?_ _) | (with_reducible refine Kd.C_drewN ?_ _) | (with_reducible refine Kd.C_drew ?_))); (case side4 => exact (Kd.R_reads' HO_4.out).2.1); rintro e w69 ⟨rfl, hb⟩; have n0_ := Aside0.mk (Kd.R_below pwc_ hb); have n1_ := Aside0.mk (Kd.R_below pwd_ hb); have n2_ := Aside0.mk (Kd.R_below (by (with_reducible repeat apply Kd.R_alloc); exact HO390.out) hb); have n3_ := Aside0.mk (below_step pwg_ hb); clear HO_4; clear HO_5; clear HO390; clear HB; have HO_4 := n0_; have HO_5 := n1_; have HO390 := n2_; have HB := n3_; clear n0_ n1_ n2_ n3_; (try clear hb); (try clear hb2); (try clear hk); (try clear hi)))
           go_ret
           exact ⟨by first | rfl | (simp [errW_none, errW_some] <;> rfl) | (simp [*, errW_none, errW_some] <;> rfl), pwg_⟩
         ·replace c26 := Bool.eq_false_iff.mpr c26
          subst c26
          have H1 : (if (t374 == false) = true then ((spec_TermOk.f kj10 t367 y388).bind fun t397 => (if t397 = true then ((impl_AlwaysOk.f kj10 t367 y388).bind fun t398 => (if (t398 == t374) = true then ((impl_SameOk.f kj10 t367 t368 t368).bind fun t399 => (some t399)) else (some false))) else ((impl_SameOk.f kj10 t367 t368 t368).bind fun t400 => (some t400)))) else (some false)) = some r := by rw [if_neg (show ¬ (false = true) by decide)] at H; exact H
          clear H
          have H := H1
          clear H1
          by_cases c70 : (t374 == false) = true
          ·rw [if_pos c70] at H
           have c70b0 : (t374 == false) = true := c70
           (try (have c70b1 : decide (t374 = false) = true := by simpa using c70))
           (try (have c70b2 : (t374 == false) = true := by simpa using c70))
           clear c70
           replace H := Option.bind_eq_some_iff.mp H
           obtain ⟨t397, A710, H⟩ := H
           replace H : (if t397 = true then ((impl_AlwaysOk.f kj10 t367 y388).bind fun t398 => (if (t398 == t374) = true then ((impl_SameOk.f kj10 t367 t368 t368).bind fun t399 => (some t399)) else (some false))) else ((impl_SameOk.f kj10 t367 t368 t368).bind fun t400 => (some t400))) = some r := H
           have A71 := Aside0.mk A710
           clear A710
           by_cases c72 : t397 = true
           ·subst c72
            have H1 : ((impl_AlwaysOk.f kj10 t367 y388).bind fun t398 => (if (t398 == t374) = true then ((impl_SameOk.f kj10 t367 t368 t368).bind fun t399 => (some t399)) else (some false))) = some r := by rw [if_pos rfl] at H; exact H
            clear H
            have H := H1
            clear H1
            replace H := Option.bind_eq_some_iff.mp H
            obtain ⟨t398, A730, H⟩ := H
            replace H : (if (t398 == t374) = true then ((impl_SameOk.f kj10 t367 t368 t368).bind fun t399 => (some t399)) else (some false)) = some r := H
            have A73 := Aside0.mk A730
            clear A730
            by_cases c74 : (t398 == t374) = true
            ·rw [if_pos c74] at H
             have c74b0 : (t398 == t374) = true := c74
             (try (have c74b1 : decide (t398 = t374) = true := by simpa using c74))
             (try (have c74b2 : (t398 == t374) = true := by simpa using c74))
             clear c74
             replace H := Option.bind_eq_some_iff.mp H
             obtain ⟨t399, A750, H⟩ := H
             replace H : (some t399) = some r := H
             have A75 := Aside0.mk A750
             clear A750
             obtain rfl := Option.some.inj H
             go_wp2_with (first | ((with_reducible refine gate_dst (N := 42) rfl ?_); refine Kd.R_lit k41 _ 41 ?hg (N := 42) ?hd (xs := ([] : List (S41))) (inner := []) (ok := fun _ => True) (okp := fun _ => True) ?hr ?hp (fun _ hk => hk) trivial (Below.refl _ _) (Nat.le_refl _) (by simp) ?_; (case hd => rfl); (case hg => rfl); (case hr => first | (go_simp; done) | (go_simp; rfl)); (case hp => exact (Reps.none _ _)); intro v380 w76 ho77 hb hg_ hnew_; clear hg_ hnew_; (first | rw [← Ny379.out] at ho77 | (simp only [Int.reduceToNat] at ho77; rw [← Ny379.out] at ho77)); have n0_ := Aside0.mk (Kd.R_elder' pwc_ (Kd.R_base ho77) hb); have n1_ := Aside0.mk (Kd.R_elder' pwd_ (Kd.R_base ho77) hb); have n2_ := Aside0.mk (Kd.R_lower (Kd.R_new' (Kd.R_new' ho77 (Kd.R_lt pwc_)) (Kd.R_lt pwd_)) (below_size pwg_)); have n3_ := Aside0.mk (below_step pwg_ hb); clear HO_4; clear HO_5; clear HB; have HO_4 := n0_; have HO_5 := n1_; have HO381 := n2_; have HB := n3_; clear n0_ n1_ n2_ n3_; clear hb ho77) | ((with_reducible refine gate_builtin (b := .append) (xs := #[.tmp 42, .tmp 43]) rfl ?_); at_builtin; refine Kd.R_append_rows k41 (w0 := w) w.heap.size rfl (.tmp 42) (.tmp 43) 23 41 (.agg #[(.int .i64 0), (.int .i64 0)]) 16 rfl Try.underlying23 info41 rfl (by decide) (by omega) v380 y379 t368 _ _ _ (fun k_ => some k_ ≠ (.slice Ao13 t368.length co13 : Value).ownBlock ∧ some k_ ≠ (.slice Ao14 t369.length co14 : Value).ownBlock) (fun _ => False) rfl rfl ?aO ?aR (fun _ _ h => h) (fun _ h => h.elim) ?aF ?aB ?aS ?aL ?_; (case aR => repeat (first | exact (Kd.R_reads' HO_4.out).2.2 | (with_reducible refine Kd.C_alloc ?_ _) | (with_reducible refine Kd.C_drewN ?_ _) | (with_reducible refine Kd.C_drew ?_))); (case aB => exact pwg_); (case aF => exact (fun k_ hk => ⟨Kd.fresh' (Kd.R_lt pwc_) k_ hk, Kd.fresh' (Kd.R_lt pwd_) k_ hk⟩)); (case aO => exact (by (with_reducible repeat apply Kd.R_alloc); exact Kd.R_mono HO381.out (fun _ hk => ⟨hk.1.2, hk.2⟩))); (case aS => exact (below_size pwg_)); (case aL => have := LMc22.out; omega); intro v383 w78 ho hb hg hat; rw [← Ny382.out] at ho; have n0_ := Aside0.mk (Kd.R_after (ok := (fun k_ => some k_ ≠ (.slice Ao14 t369.length co14 : Value).ownBlock)) pwc_ hg hat); have n1_ := Aside0.mk (Kd.R_after (ok := (fun k_ => some k_ ≠ (.slice Ao13 t368.length co13 : Value).ownBlock)) pwd_ hg hat); have n2_ := Aside0.mk (hb); have n3_ := Aside0.mk (ho); clear HO_4; clear HO_5; clear HB; clear HO381; have HO_4 := n0_; have HO_5 := n1_; have HB := n2_; have HO384 := n3_; clear n0_ n1_ n2_ n3_; clear ho hb hg hat) | ((with_reducible refine gate_builtin (b := .append) (xs := #[.tmp 44, .tmp 45]) rfl ?_); at_builtin; refine Kd.R_append_rows k41 (w0 := w) w.heap.size rfl (.tmp 44) (.tmp 45) 23 41 (.agg #[(.int .i64 0), (.int .i64 0)]) 16 rfl Try.underlying23 info41 rfl (by decide) (by omega) v383 y382 t369 _ _ _ (fun k_ => some k_ ≠ (.slice Ao13 t368.length co13 : Value).ownBlock ∧ some k_ ≠ (.slice Ao14 t369.length co14 : Value).ownBlock) (fun _ => False) rfl rfl ?aO ?aR (fun _ _ h => h) (fun _ h => h.elim) ?aF ?aB ?aS ?aL ?_; (case aR => repeat (first | exact (Kd.R_reads' HO_5.out).2.2 | (with_reducible refine Kd.C_alloc ?_ _) | (with_reducible refine Kd.C_drewN ?_ _) | (with_reducible refine Kd.C_drew ?_))); (case aB => exact pwg_); (case aF => exact (fun k_ hk => ⟨Kd.fresh' (Kd.R_lt pwc_) k_ hk, Kd.fresh' (Kd.R_lt pwd_) k_ hk⟩)); (case aO => exact (by (with_reducible repeat apply Kd.R_alloc); exact HO384.out)); (case aS => exact (below_size pwg_)); (case aL => have := LMc23.out; omega); intro v386 w79 ho hb hg hat; rw [← Ny385.out] at ho; have n0_ := Aside0.mk (Kd.R_after (ok := (fun k_ => some k_ ≠ (.slice Ao14 t369.length co14 : Value).ownBlock)) pwc_ hg hat); have n1_ := Aside0.mk (Kd.R_after (ok := (fun k_ => some k_ ≠ (.slice Ao13 t368.length co13 : Value).ownBlock)) pwd_ hg hat); have n2_ := Aside0.mk (hb); have n3_ := Aside0.mk (ho); clear HO_4; clear HO_5; clear HB; clear HO384; have HO_4 := n0_; have HO_5 := n1_; have HB := n2_; have HO387 := n3_; clear n0_ n1_ n2_ n3_; clear ho hb hg hat) | ((with_reducible refine gate_builtin (b := .append) (xs := #[.tmp 46, .tmp 48]) rfl ?_); at_builtin; refine Kd.R_append k41 (w0 := w) w.heap.size rfl (.tmp 46) (.tmp 48) 23 41 (.agg #[(.int .i64 0), (.int .i64 0)]) 16 rfl Try.underlying23 info41 rfl (by decide) (by omega) v386 y385 (⟨5, 0⟩ : S41) [.int .i64 5, .int .i64 0] (fun k_ => some k_ ≠ (.slice Ao13 t368.length co13 : Value).ownBlock ∧ some k_ ≠ (.slice Ao14 t369.length co14 : Value).ownBlock) (fun _ => False) rfl rfl ?aP (fun _ hk => hk.elim) ?aF ?aO ?aB ?aS ?aL ?_; (case aP => exact k41_mkM _ _ _ (⟨5, 0⟩ : S41)); (case aB => exact pwg_); (case aF => exact (fun k_ hk => ⟨Kd.fresh' (Kd.R_lt pwc_) k_ hk, Kd.fresh' (Kd.R_lt pwd_) k_ hk⟩)); (case aO => exact (by (with_reducible repeat apply Kd.R_alloc); exact HO387.out)); (case aS => exact (below_size pwg_)); (case aL => have := LMc24.out; omega); intro v389 w80 ho hb hg hat; rw [← Ny388.out] at ho; have n0_ := Aside0.mk (Kd.R_after (ok := (fun k_ => some k_ ≠ (.slice Ao14 t369.length co14 : Value).ownBlock)) pwc_ hg hat); have n1_ := Aside0.mk (Kd.R_after (ok := (fun k_ => some k_ ≠ (.slice Ao13 t368.length co13 : Value).ownBlock)) pwd_ hg hat); have n2_ := Aside0.mk (hb); have n3_ := Aside0.mk (ho); clear HO_4; clear HO_5; clear HB; clear HO387; have HO_4 := n0_; have HO_5 := n1_; have HB := n2_; have HO390 := n3_; clear n0_ n1_ n2_ n3_; clear ho hb hg hat) | ((with_reducible refine gate_callee (f := 29) rfl ?_); refine goesL_ (some 54) rfl rfl Try.func29 (by kernel_rfl) rfl #[.int .i64 t367, .slice Ao13 t368.length co13, .slice Ao14 t369.length co14] rfl pwi_ ?_; (with_reducible refine (impl_FollowsOk.calls kj10 t367 _ _ t368 _ _ t369 false _ ?side1 ?side2 ?side3 ?side4 A25.out).mono ?_); (case side1 => repeat (first | exact (Kd.R_reads' HO_4.out).2.2 | (with_reducible refine Kd.C_alloc ?_ _) | (with_reducible refine Kd.C_drewN ?_ _) | (with_reducible refine Kd.C_drew ?_))); (case side2 => exact (Kd.R_reads' HO_4.out).2.1); (case side3 => repeat (first | exact (Kd.R_reads' HO_5.out).2.2 | (with_reducible refine Kd.C_alloc ?_ _) | (with_reducible refine Kd.C_drewN ?_ _) | (with_reducible refine Kd.C_drew ?_))); (case side4 => exact (Kd.R_reads' HO_5.out).2.1); rintro e w81 ⟨rfl, hb⟩; refine ⟨_, rfl, ?_⟩; have n0_ := Aside0.mk (Kd.R_below pwc_ hb); have n1_ := Aside0.mk (Kd.R_below pwd_ hb); have n2_ := Aside0.mk (Kd.R_below (by (with_reducible repeat apply Kd.R_alloc); exact HO390.out) hb); have n3_ := Aside0.mk (below_step pwg_ hb); clear HO_4; clear HO_5; clear HO390; clear HB; have HO_4 := n0_; have HO_5 := n1_; have HO390 := n2_; have HB := n3_; clear n0_ n1_ n2_ n3_; (try clear hb); (try clear hb2); (try clear hk); (try clear hi); obtain ⟨Ao82, co82, eo82⟩ := Kd.R_slice HO390.out; subst eo82) | (go_at_call 35; (with_reducible refine (spec_TermOk.calls kj10 t367 _ _ y388 true _ ?side1 ?side2 A71.out).mono ?_); (case side1 => repeat (first | exact (Kd.R_reads' HO390.out).2.2 | (with_reducible refine Kd.C_alloc ?_ _) | (with_reducible refine Kd.C_drewN ?_ _) | (with_reducible refine Kd.C_drew ?_))); (case side2 => exact (Kd.R_reads' HO390.out).2.1); rintro e w' ⟨rfl, ⟨nd, rfl⟩⟩) | (go_at_call 40; (with_reducible refine (impl_AlwaysOk.calls kj10 t367 _ _ y388 t398 _ ?side1 ?side2 A73.out).mono ?_); (case side1 => repeat (first | exact (Kd.R_reads' HO390.out).2.2 | (with_reducible refine Kd.C_alloc ?_ _) | (with_reducible refine Kd.C_drewN ?_ _) | (with_reducible refine Kd.C_drew ?_))); (case side2 => exact (Kd.R_reads' HO390.out).2.1); rintro e w83 ⟨rfl, hb⟩; have n0_ := Aside0.mk (Kd.R_below pwc_ hb); have n1_ := Aside0.mk (Kd.R_below pwd_ hb); have n2_ := Aside0.mk (Kd.R_below (by (with_reducible repeat apply Kd.R_alloc); exact HO390.out) hb); have n3_ := Aside0.mk (below_step pwg_ hb); clear HO_4; clear HO_5; clear HO390; clear HB; have HO_4 := n0_; have HO_5 := n1_; have HO390 := n2_; have HB := n3_; clear n0_ n1_ n2_ n3_; (try clear hb); (try clear hb2); (try clear hk); (try clear hi)) | (go_at_call 36; (with_reducible refine (impl_SameOk.calls kj10 t367 _ _ t368 _ _ t368 t399 _ ?side1 ?side2 ?side3 ?side4 A75.out).mono ?_); (case side1 => repeat (first | exact (Kd.R_reads' HO_4.out).2.2 | (with_reducible refine Kd.C_alloc ?_ _) | (with_reducible refine Kd.C_drewN ?_ _) | (with_reducible refine Kd.C_drew ?_))); (case side2 => exact (Kd.R_reads' HO_4.out).2.1); (case side3 => repeat (first | exact (Kd.R_reads' HO_4.out).2.2 | (with_reducible refine Kd.C_alloc ?_ _) | (with_reducible refine Kd.C_drewN ?_ _) | (with_reducible refine Kd.C_drew ?_))); (case side4 => exact (Kd.R_reads' HO_4.out).2.1); rintro e w84 ⟨rfl, hb⟩; have n0_ := Aside0.mk (Kd.R_below pwc_ hb); have n1_ := Aside0.mk (Kd.R_below pwd_ hb); have n2_ := Aside0.mk (Kd.R_below (by (with_reducible repeat apply Kd.R_alloc); exact HO390.out) hb); have n3_ := Aside0.mk (below_step pwg_ hb); clear HO_4; clear HO_5; clear HO390; clear HB; have HO_4 := n0_; have HO_5 := n1_; have HO390 := n2_; have HB := n3_; clear n0_ n1_ n2_ n3_; (try clear hb); (try clear hb2); (try clear hk); (try clear hi)))
             go_ret
             exact ⟨by first | rfl | (simp [errW_none, errW_some] <;> rfl) | (simp [*, errW_none, errW_some] <;> rfl), pwg_⟩
            ·rw [if_neg c74] at H
             have c74b0 : (t398 == t374) = false := by simpa using c74
             (try (have c74b1 : decide (t398 = t374) = false := by simpa using c74))
             (try (have c74b2 : (t398 == t374) = false := by simpa using c74))
             (try (have c74b3 : ¬ (t398 = t374) := by simpa using c74))
             clear c74
             obtain rfl := Option.some.inj H
             go_wp2_with (first | ((with_reducible refine gate_dst (N := 42) rfl ?_); refine Kd.R_lit k41 _ 41 ?hg (N := 42) ?hd (xs := ([] : List (S41))) (inner := []) (ok := fun _ => True) (okp := fun _ => True) ?hr ?hp (fun _ hk => hk) trivial (Below.refl _ _) (Nat.le_refl _) (by simp) ?_; (case hd => rfl); (case hg => rfl); (case hr => first | (go_simp; done) | (go_simp; rfl)); (case hp => exact (Reps.none _ _)); intro v380 w85 ho86 hb hg_ hnew_; clear hg_ hnew_; (first | rw [← Ny379.out] at ho86 | (simp only [Int.reduceToNat] at ho86; rw [← Ny379.out] at ho86)); have n0_ := Aside0.mk (Kd.R_elder' pwc_ (Kd.R_base ho86) hb); have n1_ := Aside0.mk (Kd.R_elder' pwd_ (Kd.R_base ho86) hb); have n2_ := Aside0.mk (Kd.R_lower (Kd.R_new' (Kd.R_new' ho86 (Kd.R_lt pwc_)) (Kd.R_lt pwd_)) (below_size pwg_)); have n3_ := Aside0.mk (below_step pwg_ hb); clear HO_4; clear HO_5; clear HB; have HO_4 := n0_; have HO_5 := n1_; have HO381 := n2_; have HB := n3_; clear n0_ n1_ n2_ n3_; clear hb ho86) | ((with_reducible refine gate_builtin (b := .append) (xs := #[.tmp 42, .tmp 43]) rfl ?_); at_builtin; refine Kd.R_append_rows k41 (w0 := w) w.heap.size rfl (.tmp 42) (.tmp 43) 23 41 (.agg #[(.int .i64 0), (.int .i64 0)]) 16 rfl Try.underlying23 info41 rfl (by decide) (by omega) v380 y379 t368 _ _ _ (fun k_ => some k_ ≠ (.slice Ao13 t368.length co13 : Value).ownBlock ∧ some k_ ≠ (.slice Ao14 t369.length co14 : Value).ownBlock) (fun _ => False) rfl rfl ?aO ?aR (fun _ _ h => h) (fun _ h => h.elim) ?aF ?aB ?aS ?aL ?_; (case aR => repeat (first | exact (Kd.R_reads' HO_4.out).2.2 | (with_reducible refine Kd.C_alloc ?_ _) | (with_reducible refine Kd.C_drewN ?_ _) | (with_reducible refine Kd.C_drew ?_))); (case aB => exact pwg_); (case aF => exact (fun k_ hk => ⟨Kd.fresh' (Kd.R_lt pwc_) k_ hk, Kd.fresh' (Kd.R_lt pwd_) k_ hk⟩)); (case aO => exact (by (with_reducible repeat apply Kd.R_alloc); exact Kd.R_mono HO381.out (fun _ hk => ⟨hk.1.2, hk.2⟩))); (case aS => exact (below_size pwg_)); (case aL => have := LMc22.out; omega); intro v383 w87 ho hb hg hat; rw [← Ny382.out] at ho; have n0_ := Aside0.mk (Kd.R_after (ok := (fun k_ => some k_ ≠ (.slice Ao14 t369.length co14 : Value).ownBlock)) pwc_ hg hat); have n1_ := Aside0.mk (Kd.R_after (ok := (fun k_ => some k_ ≠ (.slice Ao13 t368.length co13 : Value).ownBlock)) pwd_ hg hat); have n2_ := Aside0.mk (hb); have n3_ := Aside0.mk (ho); clear HO_4; clear HO_5; clear HB; clear HO381; have HO_4 := n0_; have HO_5 := n1_; have HB := n2_; have HO384 := n3_; clear n0_ n1_ n2_ n3_; clear ho hb hg hat) | ((with_reducible refine gate_builtin (b := .append) (xs := #[.tmp 44, .tmp 45]) rfl ?_); at_builtin; refine Kd.R_append_rows k41 (w0 := w) w.heap.size rfl (.tmp 44) (.tmp 45) 23 41 (.agg #[(.int .i64 0), (.int .i64 0)]) 16 rfl Try.underlying23 info41 rfl (by decide) (by omega) v383 y382 t369 _ _ _ (fun k_ => some k_ ≠ (.slice Ao13 t368.length co13 : Value).ownBlock ∧ some k_ ≠ (.slice Ao14 t369.length co14 : Value).ownBlock) (fun _ => False) rfl rfl ?aO ?aR (fun _ _ h => h) (fun _ h => h.elim) ?aF ?aB ?aS ?aL ?_; (case aR => repeat (first | exact (Kd.R_reads' HO_5.out).2.2 | (with_reducible refine Kd.C_alloc ?_ _) | (with_reducible refine Kd.C_drewN ?_ _) | (with_reducible refine Kd.C_drew ?_))); (case aB => exact pwg_); (case aF => exact (fun k_ hk => ⟨Kd.fresh' (Kd.R_lt pwc_) k_ hk, Kd.fresh' (Kd.R_lt pwd_) k_ hk⟩)); (case aO => exact (by (with_reducible repeat apply Kd.R_alloc); exact HO384.out)); (case aS => exact (below_size pwg_)); (case aL => have := LMc23.out; omega); intro v386 w88 ho hb hg hat; rw [← Ny385.out] at ho; have n0_ := Aside0.mk (Kd.R_after (ok := (fun k_ => some k_ ≠ (.slice Ao14 t369.length co14 : Value).ownBlock)) pwc_ hg hat); have n1_ := Aside0.mk (Kd.R_after (ok := (fun k_ => some k_ ≠ (.slice Ao13 t368.length co13 : Value).ownBlock)) pwd_ hg hat); have n2_ := Aside0.mk (hb); have n3_ := Aside0.mk (ho); clear HO_4; clear HO_5; clear HB; clear HO384; have HO_4 := n0_; have HO_5 := n1_; have HB := n2_; have HO387 := n3_; clear n0_ n1_ n2_ n3_; clear ho hb hg hat) | ((with_reducible refine gate_builtin (b := .append) (xs := #[.tmp 46, .tmp 48]) rfl ?_); at_builtin; refine Kd.R_append k41 (w0 := w) w.heap.size rfl (.tmp 46) (.tmp 48) 23 41 (.agg #[(.int .i64 0), (.int .i64 0)]) 16 rfl Try.underlying23 info41 rfl (by decide) (by omega) v386 y385 (⟨5, 0⟩ : S41) [.int .i64 5, .int .i64 0] (fun k_ => some k_ ≠ (.slice Ao13 t368.length co13 : Value).ownBlock ∧ some k_ ≠ (.slice Ao14 t369.length co14 : Value).ownBlock) (fun _ => False) rfl rfl ?aP (fun _ hk => hk.elim) ?aF ?aO ?aB ?aS ?aL ?_; (case aP => exact k41_mkM _ _ _ (⟨5, 0⟩ : S41)); (case aB => exact pwg_); (case aF => exact (fun k_ hk => ⟨Kd.fresh' (Kd.R_lt pwc_) k_ hk, Kd.fresh' (Kd.R_lt pwd_) k_ hk⟩)); (case aO => exact (by (with_reducible repeat apply Kd.R_alloc); exact HO387.out)); (case aS => exact (below_size pwg_)); (case aL => have := LMc24.out; omega); intro v389 w89 ho hb hg hat; rw [← Ny388.out] at ho; have n0_ := Aside0.mk (Kd.R_after (ok := (fun k_ => some k_ ≠ (.slice Ao14 t369.length co14 : Value).ownBlock)) pwc_ hg hat); have n1_ := Aside0.mk (Kd.R_after (ok := (fun k_ => some k_ ≠ (.slice Ao13 t368.length co13 : Value).ownBlock)) pwd_ hg hat); have n2_ := Aside0.mk (hb); have n3_ := Aside0.mk (ho); clear HO_4; clear HO_5; clear HB; clear HO387; have HO_4 := n0_; have HO_5 := n1_; have HB := n2_; have HO390 := n3_; clear n0_ n1_ n2_ n3_; clear ho hb hg hat) | ((with_reducible refine gate_callee (f := 29) rfl ?_); refine goesL_ (some 54) rfl rfl Try.func29 (by kernel_rfl) rfl #[.int .i64 t367, .slice Ao13 t368.length co13, .slice Ao14 t369.length co14] rfl pwi_ ?_; (with_reducible refine (impl_FollowsOk.calls kj10 t367 _ _ t368 _ _ t369 false _ ?side1 ?side2 ?side3 ?side4 A25.out).mono ?_); (case side1 => repeat (first | exact (Kd.R_reads' HO_4.out).2.2 | (with_reducible refine Kd.C_alloc ?_ _) | (with_reducible refine Kd.C_drewN ?_ _) | (with_reducible refine Kd.C_drew ?_))); (case side2 => exact (Kd.R_reads' HO_4.out).2.1); (case side3 => repeat (first | exact (Kd.R_reads' HO_5.out).2.2 | (with_reducible refine Kd.C_alloc ?_ _) | (with_reducible refine Kd.C_drewN ?_ _) | (with_reducible refine Kd.C_drew ?_))); (case side4 => exact (Kd.R_reads' HO_5.out).2.1); rintro e w90 ⟨rfl, hb⟩; refine ⟨_, rfl, ?_⟩; have n0_ := Aside0.mk (Kd.R_below pwc_ hb); have n1_ := Aside0.mk (Kd.R_below pwd_ hb); have n2_ := Aside0.mk (Kd.R_below (by (with_reducible repeat apply Kd.R_alloc); exact HO390.out) hb); have n3_ := Aside0.mk (below_step pwg_ hb); clear HO_4; clear HO_5; clear HO390; clear HB; have HO_4 := n0_; have HO_5 := n1_; have HO390 := n2_; have HB := n3_; clear n0_ n1_ n2_ n3_; (try clear hb); (try clear hb2); (try clear hk); (try clear hi); obtain ⟨Ao91, co91, eo91⟩ := Kd.R_slice HO390.out; subst eo91) | (go_at_call 35; (with_reducible refine (spec_TermOk.calls kj10 t367 _ _ y388 true _ ?side1 ?side2 A71.out).mono ?_); (case side1 => repeat (first | exact (Kd.R_reads' HO390.out).2.2 | (with_reducible refine Kd.C_alloc ?_ _) | (with_reducible refine Kd.C_drewN ?_ _) | (with_reducible refine Kd.C_drew ?_))); (case side2 => exact (Kd.R_reads' HO390.out).2.1); rintro e w' ⟨rfl, ⟨nd, rfl⟩⟩) | (go_at_call 40; (with_reducible refine (impl_AlwaysOk.calls kj10 t367 _ _ y388 t398 _ ?side1 ?side2 A73.out).mono ?_); (case side1 => repeat (first | exact (Kd.R_reads' HO390.out).2.2 | (with_reducible refine Kd.C_alloc ?_ _) | (with_reducible refine Kd.C_drewN ?_ _) | (with_reducible refine Kd.C_drew ?_))); (case side2 => exact (Kd.R_reads' HO390.out).2.1); rintro e w92 ⟨rfl, hb⟩; have n0_ := Aside0.mk (Kd.R_below pwc_ hb); have n1_ := Aside0.mk (Kd.R_below pwd_ hb); have n2_ := Aside0.mk (Kd.R_below (by (with_reducible repeat apply Kd.R_alloc); exact HO390.out) hb); have n3_ := Aside0.mk (below_step pwg_ hb); clear HO_4; clear HO_5; clear HO390; clear HB; have HO_4 := n0_; have HO_5 := n1_; have HO390 := n2_; have HB := n3_; clear n0_ n1_ n2_ n3_; (try clear hb); (try clear hb2); (try clear hk); (try clear hi)))
             go_ret
             exact ⟨by first | rfl | (simp [errW_none, errW_some] <;> rfl) | (simp [*, errW_none, errW_some] <;> rfl), pwg_⟩
           ·replace c72 := Bool.eq_false_iff.mpr c72
            subst c72
            have H1 : ((impl_SameOk.f kj10 t367 t368 t368).bind fun t400 => (some t400)) = some r := by rw [if_neg (show ¬ (false = true) by decide)] at H; exact H
            clear H
            have H := H1
            clear H1
            replace H := Option.bind_eq_some_iff.mp H
            obtain ⟨t400, A930, H⟩ := H
            replace H : (some t400) = some r := H
            have A93 := Aside0.mk A930
            clear A930
            obtain rfl := Option.some.inj H
            go_wp2_with (first | ((with_reducible refine gate_dst (N := 42) rfl ?_); refine Kd.R_lit k41 _ 41 ?hg (N := 42) ?hd (xs := ([] : List (S41))) (inner := []) (ok := fun _ => True) (okp := fun _ => True) ?hr ?hp (fun _ hk => hk) trivial (Below.refl _ _) (Nat.le_refl _) (by simp) ?_; (case hd => rfl); (case hg => rfl); (case hr => first | (go_simp; done) | (go_simp; rfl)); (case hp => exact (Reps.none _ _)); intro v380 w94 ho95 hb hg_ hnew_; clear hg_ hnew_; (first | rw [← Ny379.out] at ho95 | (simp only [Int.reduceToNat] at ho95; rw [← Ny379.out] at ho95)); have n0_ := Aside0.mk (Kd.R_elder' pwc_ (Kd.R_base ho95) hb); have n1_ := Aside0.mk (Kd.R_elder' pwd_ (Kd.R_base ho95) hb); have n2_ := Aside0.mk (Kd.R_lower (Kd.R_new' (Kd.R_new' ho95 (Kd.R_lt pwc_)) (Kd.R_lt pwd_)) (below_size pwg_)); have n3_ := Aside0.mk (below_step pwg_ hb); clear HO_4; clear HO_5; clear HB; have HO_4 := n0_; have HO_5 := n1_; have HO381 := n2_; have HB := n3_; clear n0_ n1_ n2_ n3_; clear hb ho95) | ((with_reducible refine gate_builtin (b := .append) (xs := #[.tmp 42, .tmp 43]) rfl ?_); at_builtin; refine Kd.R_append_rows k41 (w0 := w) w.heap.size rfl (.tmp 42) (.tmp 43) 23 41 (.agg #[(.int .i64 0), (.int .i64 0)]) 16 rfl Try.underlying23 info41 rfl (by decide) (by omega) v380 y379 t368 _ _ _ (fun k_ => some k_ ≠ (.slice Ao13 t368.length co13 : Value).ownBlock ∧ some k_ ≠ (.slice Ao14 t369.length co14 : Value).ownBlock) (fun _ => False) rfl rfl ?aO ?aR (fun _ _ h => h) (fun _ h => h.elim) ?aF ?aB ?aS ?aL ?_; (case aR => repeat (first | exact (Kd.R_reads' HO_4.out).2.2 | (with_reducible refine Kd.C_alloc ?_ _) | (with_reducible refine Kd.C_drewN ?_ _) | (with_reducible refine Kd.C_drew ?_))); (case aB => exact pwg_); (case aF => exact (fun k_ hk => ⟨Kd.fresh' (Kd.R_lt pwc_) k_ hk, Kd.fresh' (Kd.R_lt pwd_) k_ hk⟩)); (case aO => exact (by (with_reducible repeat apply Kd.R_alloc); exact Kd.R_mono HO381.out (fun _ hk => ⟨hk.1.2, hk.2⟩))); (case aS => exact (below_size pwg_)); (case aL => have := LMc22.out; omega); intro v383 w96 ho hb hg hat; rw [← Ny382.out] at ho; have n0_ := Aside0.mk (Kd.R_after (ok := (fun k_ => some k_ ≠ (.slice Ao14 t369.length co14 : Value).ownBlock)) pwc_ hg hat); have n1_ := Aside0.mk (Kd.R_after (ok := (fun k_ => some k_ ≠ (.slice Ao13 t368.length co13 : Value).ownBlock)) pwd_ hg hat); have n2_ := Aside0.mk (hb); have n3_ := Aside0.mk (ho); clear HO_4; clear HO_5; clear HB; clear HO381; have HO_4 := n0_; have HO_5 := n1_; have HB := n2_; have HO384 := n3_; clear n0_ n1_ n2_ n3_; clear ho hb hg hat) | ((with_reducible refine gate_builtin (b := .append) (xs := #[.tmp 44, .tmp 45]) rfl ?_); at_builtin; refine Kd.R_append_rows k41 (w0 := w) w.heap.size rfl (.tmp 44) (.tmp 45) 23 41 (.agg #[(.int .i64 0), (.int .i64 0)]) 16 rfl Try.underlying23 info41 rfl (by decide) (by omega) v383 y382 t369 _ _ _ (fun k_ => some k_ ≠ (.slice Ao13 t368.length co13 : Value).ownBlock ∧ some k_ ≠ (.slice Ao14 t369.length co14 : Value).ownBlock) (fun _ => False) rfl rfl ?aO ?aR (fun _ _ h => h) (fun _ h => h.elim) ?aF ?aB ?aS ?aL ?_; (case aR => repeat (first | exact (Kd.R_reads' HO_5.out).2.2 | (with_reducible refine Kd.C_alloc ?_ _) | (with_reducible refine Kd.C_drewN ?_ _) | (with_reducible refine Kd.C_drew ?_))); (case aB => exact pwg_); (case aF => exact (fun k_ hk => ⟨Kd.fresh' (Kd.R_lt pwc_) k_ hk, Kd.fresh' (Kd.R_lt pwd_) k_ hk⟩)); (case aO => exact (by (with_reducible repeat apply Kd.R_alloc); exact HO384.out)); (case aS => exact (below_size pwg_)); (case aL => have := LMc23.out; omega); intro v386 w97 ho hb hg hat; rw [← Ny385.out] at ho; have n0_ := Aside0.mk (Kd.R_after (ok := (fun k_ => some k_ ≠ (.slice Ao14 t369.length co14 : Value).ownBlock)) pwc_ hg hat); have n1_ := Aside0.mk (Kd.R_after (ok := (fun k_ => some k_ ≠ (.slice Ao13 t368.length co13 : Value).ownBlock)) pwd_ hg hat); have n2_ := Aside0.mk (hb); have n3_ := Aside0.mk (ho); clear HO_4; clear HO_5; clear HB; clear HO384; have HO_4 := n0_; have HO_5 := n1_; have HB := n2_; have HO387 := n3_; clear n0_ n1_ n2_ n3_; clear ho hb hg hat) | ((with_reducible refine gate_builtin (b := .append) (xs := #[.tmp 46, .tmp 48]) rfl ?_); at_builtin; refine Kd.R_append k41 (w0 := w) w.heap.size rfl (.tmp 46) (.tmp 48) 23 41 (.agg #[(.int .i64 0), (.int .i64 0)]) 16 rfl Try.underlying23 info41 rfl (by decide) (by omega) v386 y385 (⟨5, 0⟩ : S41) [.int .i64 5, .int .i64 0] (fun k_ => some k_ ≠ (.slice Ao13 t368.length co13 : Value).ownBlock ∧ some k_ ≠ (.slice Ao14 t369.length co14 : Value).ownBlock) (fun _ => False) rfl rfl ?aP (fun _ hk => hk.elim) ?aF ?aO ?aB ?aS ?aL ?_; (case aP => exact k41_mkM _ _ _ (⟨5, 0⟩ : S41)); (case aB => exact pwg_); (case aF => exact (fun k_ hk => ⟨Kd.fresh' (Kd.R_lt pwc_) k_ hk, Kd.fresh' (Kd.R_lt pwd_) k_ hk⟩)); (case aO => exact (by (with_reducible repeat apply Kd.R_alloc); exact HO387.out)); (case aS => exact (below_size pwg_)); (case aL => have := LMc24.out; omega); intro v389 w98 ho hb hg hat; rw [← Ny388.out] at ho; have n0_ := Aside0.mk (Kd.R_after (ok := (fun k_ => some k_ ≠ (.slice Ao14 t369.length co14 : Value).ownBlock)) pwc_ hg hat); have n1_ := Aside0.mk (Kd.R_after (ok := (fun k_ => some k_ ≠ (.slice Ao13 t368.length co13 : Value).ownBlock)) pwd_ hg hat); have n2_ := Aside0.mk (hb); have n3_ := Aside0.mk (ho); clear HO_4; clear HO_5; clear HB; clear HO387; have HO_4 := n0_; have HO_5 := n1_; have HB := n2_; have HO390 := n3_; clear n0_ n1_ n2_ n3_; clear ho hb hg hat) | ((with_reducible refine gate_callee (f := 29) rfl ?_); refine goesL_ (some 54) rfl rfl Try.func29 (by kernel_rfl) rfl #[.int .i64 t367, .slice Ao13 t368.length co13, .slice Ao14 t369.length co14] rfl pwi_ ?_; (with_reducible refine (impl_FollowsOk.calls kj10 t367 _ _ t368 _ _ t369 false _ ?side1 ?side2 ?side3 ?side4 A25.out).mono ?_); (case side1 => repeat (first | exact (Kd.R_reads' HO_4.out).2.2 | (with_reducible refine Kd.C_alloc ?_ _) | (with_reducible refine Kd.C_drewN ?_ _) | (with_reducible refine Kd.C_drew ?_))); (case side2 => exact (Kd.R_reads' HO_4.out).2.1); (case side3 => repeat (first | exact (Kd.R_reads' HO_5.out).2.2 | (with_reducible refine Kd.C_alloc ?_ _) | (with_reducible refine Kd.C_drewN ?_ _) | (with_reducible refine Kd.C_drew ?_))); (case side4 => exact (Kd.R_reads' HO_5.out).2.1); rintro e w99 ⟨rfl, hb⟩; refine ⟨_, rfl, ?_⟩; have n0_ := Aside0.mk (Kd.R_below pwc_ hb); have n1_ := Aside0.mk (Kd.R_below pwd_ hb); have n2_ := Aside0.mk (Kd.R_below (by (with_reducible repeat apply Kd.R_alloc); exact HO390.out) hb); have n3_ := Aside0.mk (below_step pwg_ hb); clear HO_4; clear HO_5; clear HO390; clear HB; have HO_4 := n0_; have HO_5 := n1_; have HO390 := n2_; have HB := n3_; clear n0_ n1_ n2_ n3_; (try clear hb); (try clear hb2); (try clear hk); (try clear hi); obtain ⟨Ao100, co100, eo100⟩ := Kd.R_slice HO390.out; subst eo100) | (go_at_call 35; (with_reducible refine (spec_TermOk.calls kj10 t367 _ _ y388 false _ ?side1 ?side2 A71.out).mono ?_); (case side1 => repeat (first | exact (Kd.R_reads' HO390.out).2.2 | (with_reducible refine Kd.C_alloc ?_ _) | (with_reducible refine Kd.C_drewN ?_ _) | (with_reducible refine Kd.C_drew ?_))); (case side2 => exact (Kd.R_reads' HO390.out).2.1); rintro e w' ⟨rfl, ⟨nd, rfl⟩⟩) | (go_at_call 36; (with_reducible refine (impl_SameOk.calls kj10 t367 _ _ t368 _ _ t368 t400 _ ?side1 ?side2 ?side3 ?side4 A93.out).mono ?_); (case side1 => repeat (first | exact (Kd.R_reads' HO_4.out).2.2 | (with_reducible refine Kd.C_alloc ?_ _) | (with_reducible refine Kd.C_drewN ?_ _) | (with_reducible refine Kd.C_drew ?_))); (case side2 => exact (Kd.R_reads' HO_4.out).2.1); (case side3 => repeat (first | exact (Kd.R_reads' HO_4.out).2.2 | (with_reducible refine Kd.C_alloc ?_ _) | (with_reducible refine Kd.C_drewN ?_ _) | (with_reducible refine Kd.C_drew ?_))); (case side4 => exact (Kd.R_reads' HO_4.out).2.1); rintro e w101 ⟨rfl, hb⟩; have n0_ := Aside0.mk (Kd.R_below pwc_ hb); have n1_ := Aside0.mk (Kd.R_below pwd_ hb); have n2_ := Aside0.mk (Kd.R_below (by (with_reducible repeat apply Kd.R_alloc); exact HO390.out) hb); have n3_ := Aside0.mk (below_step pwg_ hb); clear HO_4; clear HO_5; clear HO390; clear HB; have HO_4 := n0_; have HO_5 := n1_; have HO390 := n2_; have HB := n3_; clear n0_ n1_ n2_ n3_; (try clear hb); (try clear hb2); (try clear hk); (try clear hi)))
            go_ret
            exact ⟨by first | rfl | (simp [errW_none, errW_some] <;> rfl) | (simp [*, errW_none, errW_some] <;> rfl), pwg_⟩
          ·rw [if_neg c70] at H
           have c70b0 : (t374 == false) = false := by simpa using c70
           (try (have c70b1 : decide (t374 = false) = false := by simpa using c70))
           (try (have c70b2 : (t374 == false) = false := by simpa using c70))
           (try (have c70b3 : ¬ (t374 = false) := by simpa using c70))
           clear c70
           obtain rfl := Option.some.inj H
           go_wp2_with (first | ((with_reducible refine gate_dst (N := 42) rfl ?_); refine Kd.R_lit k41 _ 41 ?hg (N := 42) ?hd (xs := ([] : List (S41))) (inner := []) (ok := fun _ => True) (okp := fun _ => True) ?hr ?hp (fun _ hk => hk) trivial (Below.refl _ _) (Nat.le_refl _) (by simp) ?_; (case hd => rfl); (case hg => rfl); (case hr => first | (go_simp; done) | (go_simp; rfl)); (case hp => exact (Reps.none _ _)); intro v380 w102 ho103 hb hg_ hnew_; clear hg_ hnew_; (first | rw [← Ny379.out] at ho103 | (simp only [Int.reduceToNat] at ho103; rw [← Ny379.out] at ho103)); have n0_ := Aside0.mk (Kd.R_elder' pwc_ (Kd.R_base ho103) hb); have n1_ := Aside0.mk (Kd.R_elder' pwd_ (Kd.R_base ho103) hb); have n2_ := Aside0.mk (Kd.R_lower (Kd.R_new' (Kd.R_new' ho103 (Kd.R_lt pwc_)) (Kd.R_lt pwd_)) (below_size pwg_)); have n3_ := Aside0.mk (below_step pwg_ hb); clear HO_4; clear HO_5; clear HB; have HO_4 := n0_; have HO_5 := n1_; have HO381 := n2_; have HB := n3_; clear n0_ n1_ n2_ n3_; clear hb ho103) | ((with_reducible refine gate_builtin (b := .append) (xs := #[.tmp 42, .tmp 43]) rfl ?_); at_builtin; refine Kd.R_append_rows k41 (w0 := w) w.heap.size rfl (.tmp 42) (.tmp 43) 23 41 (.agg #[(.int .i64 0), (.int .i64 0)]) 16 rfl Try.underlying23 info41 rfl (by decide) (by omega) v380 y379 t368 _ _ _ (fun k_ => some k_ ≠ (.slice Ao13 t368.length co13 : Value).ownBlock ∧ some k_ ≠ (.slice Ao14 t369.length co14 : Value).ownBlock) (fun _ => False) rfl rfl ?aO ?aR (fun _ _ h => h) (fun _ h => h.elim) ?aF ?aB ?aS ?aL ?_; (case aR => repeat (first | exact (Kd.R_reads' HO_4.out).2.2 | (with_reducible refine Kd.C_alloc ?_ _) | (with_reducible refine Kd.C_drewN ?_ _) | (with_reducible refine Kd.C_drew ?_))); (case aB => exact pwg_); (case aF => exact (fun k_ hk => ⟨Kd.fresh' (Kd.R_lt pwc_) k_ hk, Kd.fresh' (Kd.R_lt pwd_) k_ hk⟩)); (case aO => exact (by (with_reducible repeat apply Kd.R_alloc); exact Kd.R_mono HO381.out (fun _ hk => ⟨hk.1.2, hk.2⟩))); (case aS => exact (below_size pwg_)); (case aL => have := LMc22.out; omega); intro v383 w104 ho hb hg hat; rw [← Ny382.out] at ho; have n0_ := Aside0.mk (Kd.R_after (ok := (fun k_ => some k_ ≠ (.slice Ao14 t369.length co14 : Value).ownBlock)) pwc_ hg hat); have n1_ := Aside0.mk (Kd.R_after (ok := (fun k_ => some k_ ≠ (.slice Ao13 t368.length co13 : Value).ownBlock)) pwd_ hg hat); have n2_ := Aside0.mk (hb); have n3_ := Aside0.mk (ho); clear HO_4; clear HO_5; clear HB; clear HO381; have HO_4 := n0_; have HO_5 := n1_; have HB := n2_; have HO384 := n3_; clear n0_ n1_ n2_ n3_; clear ho hb hg hat) | ((with_reducible refine gate_builtin (b := .append) (xs := #[.tmp 44, .tmp 45]) rfl ?_); at_builtin; refine Kd.R_append_rows k41 (w0 := w) w.heap.size rfl (.tmp 44) (.tmp 45) 23 41 (.agg #[(.int .i64 0), (.int .i64 0)]) 16 rfl Try.underlying23 info41 rfl (by decide) (by omega) v383 y382 t369 _ _ _ (fun k_ => some k_ ≠ (.slice Ao13 t368.length co13 : Value).ownBlock ∧ some k_ ≠ (.slice Ao14 t369.length co14 : Value).ownBlock) (fun _ => False) rfl rfl ?aO ?aR (fun _ _ h => h) (fun _ h => h.elim) ?aF ?aB ?aS ?aL ?_; (case aR => repeat (first | exact (Kd.R_reads' HO_5.out).2.2 | (with_reducible refine Kd.C_alloc ?_ _) | (with_reducible refine Kd.C_drewN ?_ _) | (with_reducible refine Kd.C_drew ?_))); (case aB => exact pwg_); (case aF => exact (fun k_ hk => ⟨Kd.fresh' (Kd.R_lt pwc_) k_ hk, Kd.fresh' (Kd.R_lt pwd_) k_ hk⟩)); (case aO => exact (by (with_reducible repeat apply Kd.R_alloc); exact HO384.out)); (case aS => exact (below_size pwg_)); (case aL => have := LMc23.out; omega); intro v386 w105 ho hb hg hat; rw [← Ny385.out] at ho; have n0_ := Aside0.mk (Kd.R_after (ok := (fun k_ => some k_ ≠ (.slice Ao14 t369.length co14 : Value).ownBlock)) pwc_ hg hat); have n1_ := Aside0.mk (Kd.R_after (ok := (fun k_ => some k_ ≠ (.slice Ao13 t368.length co13 : Value).ownBlock)) pwd_ hg hat); have n2_ := Aside0.mk (hb); have n3_ := Aside0.mk (ho); clear HO_4; clear HO_5; clear HB; clear HO384; have HO_4 := n0_; have HO_5 := n1_; have HB := n2_; have HO387 := n3_; clear n0_ n1_ n2_ n3_; clear ho hb hg hat) | ((with_reducible refine gate_builtin (b := .append) (xs := #[.tmp 46, .tmp 48]) rfl ?_); at_builtin; refine Kd.R_append k41 (w0 := w) w.heap.size rfl (.tmp 46) (.tmp 48) 23 41 (.agg #[(.int .i64 0), (.int .i64 0)]) 16 rfl Try.underlying23 info41 rfl (by decide) (by omega) v386 y385 (⟨5, 0⟩ : S41) [.int .i64 5, .int .i64 0] (fun k_ => some k_ ≠ (.slice Ao13 t368.length co13 : Value).ownBlock ∧ some k_ ≠ (.slice Ao14 t369.length co14 : Value).ownBlock) (fun _ => False) rfl rfl ?aP (fun _ hk => hk.elim) ?aF ?aO ?aB ?aS ?aL ?_; (case aP => exact k41_mkM _ _ _ (⟨5, 0⟩ : S41)); (case aB => exact pwg_); (case aF => exact (fun k_ hk => ⟨Kd.fresh' (Kd.R_lt pwc_) k_ hk, Kd.fresh' (Kd.R_lt pwd_) k_ hk⟩)); (case aO => exact (by (with_reducible repeat apply Kd.R_alloc); exact HO387.out)); (case aS => exact (below_size pwg_)); (case aL => have := LMc24.out; omega); intro v389 w106 ho hb hg hat; rw [← Ny388.out] at ho; have n0_ := Aside0.mk (Kd.R_after (ok := (fun k_ => some k_ ≠ (.slice Ao14 t369.length co14 : Value).ownBlock)) pwc_ hg hat); have n1_ := Aside0.mk (Kd.R_after (ok := (fun k_ => some k_ ≠ (.slice Ao13 t368.length co13 : Value).ownBlock)) pwd_ hg hat); have n2_ := Aside0.mk (hb); have n3_ := Aside0.mk (ho); clear HO_4; clear HO_5; clear HB; clear HO387; have HO_4 := n0_; have HO_5 := n1_; have HB := n2_; have HO390 := n3_; clear n0_ n1_ n2_ n3_; clear ho hb hg hat) | ((with_reducible refine gate_callee (f := 29) rfl ?_); refine goesL_ (some 54) rfl rfl Try.func29 (by kernel_rfl) rfl #[.int .i64 t367, .slice Ao13 t368.length co13, .slice Ao14 t369.length co14] rfl pwi_ ?_; (with_reducible refine (impl_FollowsOk.calls kj10 t367 _ _ t368 _ _ t369 false _ ?side1 ?side2 ?side3 ?side4 A25.out).mono ?_); (case side1 => repeat (first | exact (Kd.R_reads' HO_4.out).2.2 | (with_reducible refine Kd.C_alloc ?_ _) | (with_reducible refine Kd.C_drewN ?_ _) | (with_reducible refine Kd.C_drew ?_))); (case side2 => exact (Kd.R_reads' HO_4.out).2.1); (case side3 => repeat (first | exact (Kd.R_reads' HO_5.out).2.2 | (with_reducible refine Kd.C_alloc ?_ _) | (with_reducible refine Kd.C_drewN ?_ _) | (with_reducible refine Kd.C_drew ?_))); (case side4 => exact (Kd.R_reads' HO_5.out).2.1); rintro e w107 ⟨rfl, hb⟩; refine ⟨_, rfl, ?_⟩; have n0_ := Aside0.mk (Kd.R_below pwc_ hb); have n1_ := Aside0.mk (Kd.R_below pwd_ hb); have n2_ := Aside0.mk (Kd.R_below (by (with_reducible repeat apply Kd.R_alloc); exact HO390.out) hb); have n3_ := Aside0.mk (below_step pwg_ hb); clear HO_4; clear HO_5; clear HO390; clear HB; have HO_4 := n0_; have HO_5 := n1_; have HO390 := n2_; have HB := n3_; clear n0_ n1_ n2_ n3_; (try clear hb); (try clear hb2); (try clear hk); (try clear hi)))
           go_ret
           exact ⟨by first | rfl | (simp [errW_none, errW_some] <;> rfl) | (simp [*, errW_none, errW_some] <;> rfl), pwg_⟩
        ·rw [if_neg c24] at H
         exact absurd H (by simp)
       ·rw [if_neg c23] at H
        exact absurd H (by simp)
      ·rw [if_neg c22] at H
       exact absurd H (by simp)

/-- THE ONE PURE STATEMENT of laws_FnSameOk: yours. -/
def laws_FnSameOk.Pure : Prop := ∀ (l0 : List Int), l0.length ≤ maxLen → l0.length * 1 ≤ 140737488351232 → (∀ x ∈ l0, (Lit.int .u8 x).wf = true) → ∃ k, laws_FnSameOk.f k l0 = some true
theorem laws_FnSameOk.walk (P : laws_FnSameOk.Pure) (a0 : Option Addr) (len0 cap0 : Nat) (z0 : List Int) (w : World) (w0 : (a0 = none ∧ len0 = 0 ∧ cap0 = 0 ∧ z0 = []) ∨ ∃ x, a0 = some x ∧ len0 ≤ cap0 ∧ cap0 ≤ maxLen ∧ z0.length = cap0 ∧ (∀ i, i < z0.length → w.cell? (x.add i) = some (.int .u8 (z0.getD i 0))) ∧ ∀ n ∈ z0, (Lit.int .u8 n).wf = true) (y0 : len0 * 1 ≤ 140737488351232) :
  Calls Try.prog 14 #[.slice a0 len0 cap0] w fun e w' => e = .returned (.bool true) ∧ Below w.heap.size w w' := by
 obtain ⟨l0, rfl, hr0, hm0, hw0, hc0⟩ := ReadsInt.ofRowC w0
 obtain ⟨k, h⟩ := P l0 hm0 y0 hw0
 refine (laws_FnSameOk.calls k _ _ l0 true w (Kd.C_of_reads (d := (0 : Int)) (h1 := fun _ => rfl) hr0) hc0 h).mono ?_
 rintro e w' ⟨rfl, hd⟩
 exact ⟨rfl, hd⟩

end Go.Proofs.Ytigkmppgbaoafaa.PFnSameOk
