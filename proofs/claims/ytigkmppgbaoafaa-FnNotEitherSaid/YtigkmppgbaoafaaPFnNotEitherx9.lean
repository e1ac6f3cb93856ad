-- Made by a program of this session (wip/tools/patchprint.py), not by the kit itself.
import Derived.Test.YtigkmppgbaoafaaPFnNotEitherx0
import Derived.Test.YtigkmppgbaoafaaPFnNotEitherx2
import Derived.Test.YtigkmppgbaoafaaPFnNotEitherx4
import Derived.Test.YtigkmppgbaoafaaPFnNotEitherx5
import Derived.Test.YtigkmppgbaoafaaPFnNotEitherx8
namespace Go.Proofs.Ytigkmppgbaoafaa.PFnNotEither
open Go.RowKit Go.Proofs.YtigkmppgbaoafaaW.PrintWords Go.Proofs.YtigkmppgbaoafaaW.PrintLast Go.Proofs.YtigkmppgbaoafaaW.PrintMore
attribute [local go_sem] max2_int min2_int max_two min_two max_three min_three max_four min_four   -- for this text's walks alone
set_option linter.unusedVariables false
set_option linter.unusedSimpArgs false

attribute [local go_sem] setCell_isSome
/-! ### laws_FnNotEither: function 6 -/
def laws_FnNotEither.j0 : Nat → Int → List (S41) → List (S41) → Bool → Option (Bool)
 | 0, _, _, _, _ => none
 | k + 1, x3, x7, x8, x62 => if x62 = true then ((laws_alive.f).bind fun t381 => (some t381)) else ((laws_alive.f).bind fun t382 => (if t382 = true then ((impl_SameOk.f k x3 x7 x8).bind fun t383 => (some t383)) else (some false)))
def laws_FnNotEither.f (k : Nat) (l0 : List Int) : Option (Bool) := if (l0.length : Int) > 1048576 then (some true) else ((spec_DrawSameOk.f k l0).bind fun bt333 => ((some (([] : List (S41)) : List (S41))).bind fun y341 => (if y341.length + bt333.2.1.length < 8796093022208 then ((some (y341 ++ bt333.2.1 : List (S41))).bind fun y344 => (if y344.length + bt333.2.2.length < 8796093022208 then ((some (y344 ++ bt333.2.2 : List (S41))).bind fun y347 => ((some (([(⟨4, 0⟩ : S41), (⟨2, 0⟩ : S41)] : List (S41)) : List (S41))).bind fun y350 => (if y347.length + y350.length < 8796093022208 then ((some (y347 ++ y350 : List (S41))).bind fun y353 => ((some (([] : List (S41)) : List (S41))).bind fun y356 => (if y356.length + bt333.2.1.length < 8796093022208 then ((some (y356 ++ bt333.2.1 : List (S41))).bind fun y359 => ((some (([(⟨2, 0⟩ : S41)] : List (S41)) : List (S41))).bind fun y362 => (if y359.length + y362.length < 8796093022208 then ((some (y359 ++ y362 : List (S41))).bind fun y365 => (if y365.length + bt333.2.2.length < 8796093022208 then ((some (y365 ++ bt333.2.2 : List (S41))).bind fun y368 => ((some (([(⟨2, 0⟩ : S41), (⟨3, 0⟩ : S41)] : List (S41)) : List (S41))).bind fun y371 => (if y368.length + y371.length < 8796093022208 then ((some (y368 ++ y371 : List (S41))).bind fun y374 => ((spec_TermOk.f k bt333.1 bt333.2.1).bind fun t377 => (if t377 = true then ((spec_TermOk.f k bt333.1 bt333.2.2).bind fun t378 => (if t378 = true then ((spec_TermOk.f k bt333.1 y353).bind fun t379 => (if t379 = true then ((spec_TermOk.f k bt333.1 y374).bind fun t380 => (laws_FnNotEither.j0 k bt333.1 y353 y374 (!t380))) else (laws_FnNotEither.j0 k bt333.1 y353 y374 true))) else (laws_FnNotEither.j0 k bt333.1 y353 y374 true))) else (laws_FnNotEither.j0 k bt333.1 y353 y374 true)))) else (none)))) else (none))) else (none)))) else (none)))) else (none)))) else (none))) else (none))))
theorem laws_FnNotEither.mono_l : ∀ k, (∀ y0 y1 y2 y3, LeO (laws_FnNotEither.j0 k y0 y1 y2 y3) (laws_FnNotEither.j0 (k + 1) y0 y1 y2 y3))
 | 0 => fun _ _ _ _ r h => by simp [laws_FnNotEither.j0] at h
 | k + 1 => by
  have ih0 := laws_FnNotEither.mono_l k
  ·intro y0 y1 y2 y3
   unfold laws_FnNotEither.j0
   repeat' first
   | (with_reducible exact ih0 _ _ _ _)
   | (with_reducible exact impl_SameOk.mono _ _ _ _)
   | (with_reducible exact spec_DrawSameOk.mono _ _)
   | (with_reducible exact spec_TermOk.mono _ _ _)
   | (with_reducible exact LeO.refl _)
   | (with_reducible exact LeO.none _)
   | (with_reducible refine LeO.ite ?_ ?_)
   | (with_reducible refine LeO.bind ?_ (fun _ => ?_))
   | exact ih0 _ _ _ _
   | exact impl_SameOk.mono _ _ _ _
   | exact spec_DrawSameOk.mono _ _
   | exact spec_TermOk.mono _ _ _
   | exact LeO.none _
   | refine LeO.ite ?_ ?_
   | refine LeO.bind ?_ (fun _ => ?_)
theorem laws_FnNotEither.mono : ∀ a0 k, LeO (laws_FnNotEither.f k a0) (laws_FnNotEither.f (k + 1) a0) := by
 intro a0 k
 have ih0 := laws_FnNotEither.mono_l k
 unfold laws_FnNotEither.f
 repeat' first
   | (with_reducible exact ih0 _ _ _ _)
   | (with_reducible exact impl_SameOk.mono _ _ _ _)
   | (with_reducible exact spec_DrawSameOk.mono _ _)
   | (with_reducible exact spec_TermOk.mono _ _ _)
   | (with_reducible exact LeO.refl _)
   | (with_reducible exact LeO.none _)
   | (with_reducible refine LeO.ite ?_ ?_)
   | (with_reducible refine LeO.bind ?_ (fun _ => ?_))
   | exact ih0 _ _ _ _
   | exact impl_SameOk.mono _ _ _ _
   | exact spec_DrawSameOk.mono _ _
   | exact spec_TermOk.mono _ _ _
   | exact LeO.none _
   | refine LeO.ite ?_ ?_
   | refine LeO.bind ?_ (fun _ => ?_)
def laws_FnNotEither.T5 : Bool × List (List Nat × List Nat) := (true, [([], []), ([], []), ([0, 1], [0, 1]), ([], []), ([2, 3, 2], [2, 3]), ([], []), ([], []), ([5, 6], [5, 6]), ([4, 7, 4], [4, 7]), ([8, 8, 0, 1, 2, 3, 4, 5, 6, 7, 8], [8])])
def laws_FnNotEither.B5 : List Nat := [0, 0, 3, 0, 15, 0, 0, 96, 255, 511]
theorem laws_FnNotEither.tab5 : rtab .any (opsOf Try.f6 5) = laws_FnNotEither.T5 := by kernel_rfl
theorem laws_FnNotEither.bits5 : waitsOk laws_FnNotEither.T5.2 laws_FnNotEither.B5 = true := by kernel_rfl
def laws_FnNotEither.T7 : Bool × List (List Nat × List Nat) := (true, [([], []), ([], []), ([0, 1], [0, 1]), ([], []), ([], []), ([3, 4], [3, 4]), ([2, 5, 2], [2, 5]), ([6, 6, 0, 1, 2, 3, 4, 5, 6], [0, 6])])
def laws_FnNotEither.B7 : List Nat := [0, 0, 3, 0, 0, 24, 63, 127]
theorem laws_FnNotEither.tab7 : rtab .any (opsOf Try.f6 7) = laws_FnNotEither.T7 := by kernel_rfl
theorem laws_FnNotEither.bits7 : waitsOk laws_FnNotEither.T7.2 laws_FnNotEither.B7 = true := by kernel_rfl
set_option maxHeartbeats 8000000 in
set_option maxRecDepth 100000 in
theorem laws_FnNotEither.calls (k : Nat) (A0 : Option Addr) (c0 : Nat) (l0 : List Int) (r : Bool) (w : World) (hr0 : Kd.C (Kd.int .u8) w A0 l0.length l0) (hc0 : l0.length ≤ c0) (h : laws_FnNotEither.f k l0 = some r) :
  Calls Try.prog 6 #[.slice A0 l0.length c0] w fun e w' => e = .returned (.bool r) ∧ Below w.heap.size w w' := by
 have hu41 := Try.underlying41
 have HR0 := Aside0.mk hr0
 have HC0 := Aside0.mk hc0
 clear hr0 hc0
 have HB := Aside0.mk (Below.refl w.heap.size w)
 have H : (if (l0.length : Int) > 1048576 then (some true) else ((spec_DrawSameOk.f k l0).bind fun bt333 => ((some (([] : List (S41)) : List (S41))).bind fun y341 => (if y341.length + bt333.2.1.length < 8796093022208 then ((some (y341 ++ bt333.2.1 : List (S41))).bind fun y344 => (if y344.length + bt333.2.2.length < 8796093022208 then ((some (y344 ++ bt333.2.2 : List (S41))).bind fun y347 => ((some (([(⟨4, 0⟩ : S41), (⟨2, 0⟩ : S41)] : List (S41)) : List (S41))).bind fun y350 => (if y347.length + y350.length < 8796093022208 then ((some (y347 ++ y350 : List (S41))).bind fun y353 => ((some (([] : List (S41)) : List (S41))).bind fun y356 => (if y356.length + bt333.2.1.length < 8796093022208 then ((some (y356 ++ bt333.2.1 : List (S41))).bind fun y359 => ((some (([(⟨2, 0⟩ : S41)] : List (S41)) : List (S41))).bind fun y362 => (if y359.length + y362.length < 8796093022208 then ((some (y359 ++ y362 : List (S41))).bind fun y365 => (if y365.length + bt333.2.2.length < 8796093022208 then ((some (y365 ++ bt333.2.2 : List (S41))).bind fun y368 => ((some (([(⟨2, 0⟩ : S41), (⟨3, 0⟩ : S41)] : List (S41)) : List (S41))).bind fun y371 => (if y368.length + y371.length < 8796093022208 then ((some (y368 ++ y371 : List (S41))).bind fun y374 => ((spec_TermOk.f k bt333.1 bt333.2.1).bind fun t377 => (if t377 = true then ((spec_TermOk.f k bt333.1 bt333.2.2).bind fun t378 => (if t378 = true then ((spec_TermOk.f k bt333.1 y353).bind fun t379 => (if t379 = true then ((spec_TermOk.f k bt333.1 y374).bind fun t380 => (laws_FnNotEither.j0 k bt333.1 y353 y374 (!t380))) else (laws_FnNotEither.j0 k bt333.1 y353 y374 true))) else (laws_FnNotEither.j0 k bt333.1 y353 y374 true))) else (laws_FnNotEither.j0 k bt333.1 y353 y374 true)))) else (none)))) else (none))) else (none)))) else (none)))) else (none)))) else (none))) else (none))))) = some r := h
 clear h
 by_cases c2 : (l0.length : Int) > 1048576
 ·rw [if_pos c2] at H
  have c2b0 : decide (1048576 < (l0.length : Int)) = true := decide_eq_true c2
  have c2b1 : decide (1048576 < l0.length) = true := decide_eq_true (by omega)
  clear c2
  obtain rfl := Option.some.inj H
  go_enter Try.func6, Try.ntmps6
  go_wp2
  go_ret
  exact ⟨by first | rfl | (simp [errW_none, errW_some] <;> rfl) | (simp [*, errW_none, errW_some] <;> rfl), by repeat (first | (with_reducible first | exact HB.out | apply below_alloc | apply pw_below_drewN | apply below_drew1) | exact HB.out)⟩
 ·rw [if_neg c2] at H
  have c2b0 : decide (1048576 < (l0.length : Int)) = false := decide_eq_false c2
  have c2b1 : decide (1048576 < l0.length) = false := decide_eq_false (by omega)
  clear c2
  replace H := Option.bind_eq_some_iff.mp H
  obtain ⟨⟨t333, t334, t335⟩, A30, H⟩ := H
  replace H : ((some (([] : List (S41)) : List (S41))).bind fun y341 => (if y341.length + t334.length < 8796093022208 then ((some (y341 ++ t334 : List (S41))).bind fun y344 => (if y344.length + t335.length < 8796093022208 then ((some (y344 ++ t335 : List (S41))).bind fun y347 => ((some (([(⟨4, 0⟩ : S41), (⟨2, 0⟩ : S41)] : List (S41)) : List (S41))).bind fun y350 => (if y347.length + y350.length < 8796093022208 then ((some (y347 ++ y350 : List (S41))).bind fun y353 => ((some (([] : List (S41)) : List (S41))).bind fun y356 => (if y356.length + t334.length < 8796093022208 then ((some (y356 ++ t334 : List (S41))).bind fun y359 => ((some (([(⟨2, 0⟩ : S41)] : List (S41)) : List (S41))).bind fun y362 => (if y359.length + y362.length < 8796093022208 then ((some (y359 ++ y362 : List (S41))).bind fun y365 => (if y365.length + t335.length < 8796093022208 then ((some (y365 ++ t335 : List (S41))).bind fun y368 => ((some (([(⟨2, 0⟩ : S41), (⟨3, 0⟩ : S41)] : List (S41)) : List (S41))).bind fun y371 => (if y368.length + y371.length < 8796093022208 then ((some (y368 ++ y371 : List (S41))).bind fun y374 => ((spec_TermOk.f k t333 t334).bind fun t377 => (if t377 = true then ((spec_TermOk.f k t333 t335).bind fun t378 => (if t378 = true then ((spec_TermOk.f k t333 y353).bind fun t379 => (if t379 = true then ((spec_TermOk.f k t333 y374).bind fun t380 => (laws_FnNotEither.j0 k t333 y353 y374 (!t380))) else (laws_FnNotEither.j0 k t333 y353 y374 true))) else (laws_FnNotEither.j0 k t333 y353 y374 true))) else (laws_FnNotEither.j0 k t333 y353 y374 true)))) else (none)))) else (none))) else (none)))) else (none)))) else (none)))) else (none))) else (none))) = some r := H
  have A3 := Aside0.mk A30
  clear A30
  obtain ⟨y341, hy341⟩ : ∃ y_ : List (S41), y_ = (([] : List (S41))) := ⟨_, rfl⟩
  replace H : (if y341.length + t334.length < 8796093022208 then ((some (y341 ++ t334 : List (S41))).bind fun y344 => (if y344.length + t335.length < 8796093022208 then ((some (y344 ++ t335 : List (S41))).bind fun y347 => ((some (([(⟨4, 0⟩ : S41), (⟨2, 0⟩ : S41)] : List (S41)) : List (S41))).bind fun y350 => (if y347.length + y350.length < 8796093022208 then ((some (y347 ++ y350 : List (S41))).bind fun y353 => ((some (([] : List (S41)) : List (S41))).bind fun y356 => (if y356.length + t334.length < 8796093022208 then ((some (y356 ++ t334 : List (S41))).bind fun y359 => ((some (([(⟨2, 0⟩ : S41)] : List (S41)) : List (S41))).bind fun y362 => (if y359.length + y362.length < 8796093022208 then ((some (y359 ++ y362 : List (S41))).bind fun y365 => (if y365.length + t335.length < 8796093022208 then ((some (y365 ++ t335 : List (S41))).bind fun y368 => ((some (([(⟨2, 0⟩ : S41), (⟨3, 0⟩ : S41)] : List (S41)) : List (S41))).bind fun y371 => (if y368.length + y371.length < 8796093022208 then ((some (y368 ++ y371 : List (S41))).bind fun y374 => ((spec_TermOk.f k t333 t334).bind fun t377 => (if t377 = true then ((spec_TermOk.f k t333 t335).bind fun t378 => (if t378 = true then ((spec_TermOk.f k t333 y353).bind fun t379 => (if t379 = true then ((spec_TermOk.f k t333 y374).bind fun t380 => (laws_FnNotEither.j0 k t333 y353 y374 (!t380))) else (laws_FnNotEither.j0 k t333 y353 y374 true))) else (laws_FnNotEither.j0 k t333 y353 y374 true))) else (laws_FnNotEither.j0 k t333 y353 y374 true)))) else (none)))) else (none))) else (none)))) else (none)))) else (none)))) else (none))) else (none)) = some r := by first | (rw [hy341]; with_reducible exact H) | (have H2_ := (Option.bind_some _ _).symm.trans H; rw [hy341]; with_reducible exact H2_) | (have H2_ := (Option.bind_some _ _).symm.trans H; with_reducible exact H2_) | with_reducible exact H | (rw [hy341]; exact H) | exact H
  have Ny341 := Aside0.mk hy341
  clear hy341
  by_cases c4 : y341.length + t334.length < 8796093022208
  ·rw [if_pos c4] at H
   have LMc4 := Aside0.mk c4
   clear c4
   obtain ⟨y344, hy344⟩ : ∃ y_ : List (S41), y_ = (y341 ++ t334) := ⟨_, rfl⟩
   replace H : (if y344.length + t335.length < 8796093022208 then ((some (y344 ++ t335 : List (S41))).bind fun y347 => ((some (([(⟨4, 0⟩ : S41), (⟨2, 0⟩ : S41)] : List (S41)) : List (S41))).bind fun y350 => (if y347.length + y350.length < 8796093022208 then ((some (y347 ++ y350 : List (S41))).bind fun y353 => ((some (([] : List (S41)) : List (S41))).bind fun y356 => (if y356.length + t334.length < 8796093022208 then ((some (y356 ++ t334 : List (S41))).bind fun y359 => ((some (([(⟨2, 0⟩ : S41)] : List (S41)) : List (S41))).bind fun y362 => (if y359.length + y362.length < 8796093022208 then ((some (y359 ++ y362 : List (S41))).bind fun y365 => (if y365.length + t335.length < 8796093022208 then ((some (y365 ++ t335 : List (S41))).bind fun y368 => ((some (([(⟨2, 0⟩ : S41), (⟨3, 0⟩ : S41)] : List (S41)) : List (S41))).bind fun y371 => (if y368.length + y371.length < 8796093022208 then ((some (y368 ++ y371 : List (S41))).bind fun y374 => ((spec_TermOk.f k t333 t334).bind fun t377 => (if t377 = true then ((spec_TermOk.f k t333 t335).bind fun t378 => (if t378 = true then ((spec_TermOk.f k t333 y353).bind fun t379 => (if t379 = true then ((spec_TermOk.f k t333 y374).bind fun t380 => (laws_FnNotEither.j0 k t333 y353 y374 (!t380))) else (laws_FnNotEither.j0 k t333 y353 y374 true))) else (laws_FnNotEither.j0 k t333 y353 y374 true))) else (laws_FnNotEither.j0 k t333 y353 y374 true)))) else (none)))) else (none))) else (none)))) else (none)))) else (none)))) else (none)) = some r := by first | (rw [hy344]; with_reducible exact H) | (have H2_ := (Option.bind_some _ _).symm.trans H; rw [hy344]; with_reducible exact H2_) | (have H2_ := (Option.bind_some _ _).symm.trans H; with_reducible exact H2_) | with_reducible exact H | (rw [hy344]; exact H) | exact H
   have Ny344 := Aside0.mk hy344
   clear hy344
   by_cases c5 : y344.length + t335.length < 8796093022208
   ·rw [if_pos c5] at H
    have LMc5 := Aside0.mk c5
    clear c5
    obtain ⟨y347, hy347⟩ : ∃ y_ : List (S41), y_ = (y344 ++ t335) := ⟨_, rfl⟩
    replace H : ((some (([(⟨4, 0⟩ : S41), (⟨2, 0⟩ : S41)] : List (S41)) : List (S41))).bind fun y350 => (if y347.length + y350.length < 8796093022208 then ((some (y347 ++ y350 : List (S41))).bind fun y353 => ((some (([] : List (S41)) : List (S41))).bind fun y356 => (if y356.length + t334.length < 8796093022208 then ((some (y356 ++ t334 : List (S41))).bind fun y359 => ((some (([(⟨2, 0⟩ : S41)] : List (S41)) : List (S41))).bind fun y362 => (if y359.length + y362.length < 8796093022208 then ((some (y359 ++ y362 : List (S41))).bind fun y365 => (if y365.length + t335.length < 8796093022208 then ((some (y365 ++ t335 : List (S41))).bind fun y368 => ((some (([(⟨2, 0⟩ : S41), (⟨3, 0⟩ : S41)] : List (S41)) : List (S41))).bind fun y371 => (if y368.length + y371.length < 8796093022208 then ((some (y368 ++ y371 : List (S41))).bind fun y374 => ((spec_TermOk.f k t333 t334).bind fun t377 => (if t377 = true then ((spec_TermOk.f k t333 t335).bind fun t378 => (if t378 = true then ((spec_TermOk.f k t333 y353).bind fun t379 => (if t379 = true then ((spec_TermOk.f k t333 y374).bind fun t380 => (laws_FnNotEither.j0 k t333 y353 y374 (!t380))) else (laws_FnNotEither.j0 k t333 y353 y374 true))) else (laws_FnNotEither.j0 k t333 y353 y374 true))) else (laws_FnNotEither.j0 k t333 y353 y374 true)))) else (none)))) else (none))) else (none)))) else (none)))) else (none))) = some r := by first | (rw [hy347]; with_reducible exact H) | (have H2_ := (Option.bind_some _ _).symm.trans H; rw [hy347]; with_reducible exact H2_) | (have H2_ := (Option.bind_some _ _).symm.trans H; with_reducible exact H2_) | with_reducible exact H | (rw [hy347]; exact H) | exact H
    have Ny347 := Aside0.mk hy347
    clear hy347
    obtain ⟨y350, hy350⟩ : ∃ y_ : List (S41), y_ = (([(⟨4, 0⟩ : S41), (⟨2, 0⟩ : S41)] : List (S41))) := ⟨_, rfl⟩
    replace H : (if y347.length + y350.length < 8796093022208 then ((some (y347 ++ y350 : List (S41))).bind fun y353 => ((some (([] : List (S41)) : List (S41))).bind fun y356 => (if y356.length + t334.length < 8796093022208 then ((some (y356 ++ t334 : List (S41))).bind fun y359 => ((some (([(⟨2, 0⟩ : S41)] : List (S41)) : List (S41))).bind fun y362 => (if y359.length + y362.length < 8796093022208 then ((some (y359 ++ y362 : List (S41))).bind fun y365 => (if y365.length + t335.length < 8796093022208 then ((some (y365 ++ t335 : List (S41))).bind fun y368 => ((some (([(⟨2, 0⟩ : S41), (⟨3, 0⟩ : S41)] : List (S41)) : List (S41))).bind fun y371 => (if y368.length + y371.length < 8796093022208 then ((some (y368 ++ y371 : List (S41))).bind fun y374 => ((spec_TermOk.f k t333 t334).bind fun t377 => (if t377 = true then ((spec_TermOk.f k t333 t335).bind fun t378 => (if t378 = true then ((spec_TermOk.f k t333 y353).bind fun t379 => (if t379 = true then ((spec_TermOk.f k t333 y374).bind fun t380 => (laws_FnNotEither.j0 k t333 y353 y374 (!t380))) else (laws_FnNotEither.j0 k t333 y353 y374 true))) else (laws_FnNotEither.j0 k t333 y353 y374 true))) else (laws_FnNotEither.j0 k t333 y353 y374 true)))) else (none)))) else (none))) else (none)))) else (none)))) else (none)) = some r := by first | (rw [hy350]; with_reducible exact H) | (have H2_ := (Option.bind_some _ _).symm.trans H; rw [hy350]; with_reducible exact H2_) | (have H2_ := (Option.bind_some _ _).symm.trans H; with_reducible exact H2_) | with_reducible exact H | (rw [hy350]; exact H) | exact H
    have Ny350 := Aside0.mk hy350
    clear hy350
    by_cases c6 : y347.length + y350.length < 8796093022208
    ·rw [if_pos c6] at H
     have LMc6 := Aside0.mk c6
     clear c6
     obtain ⟨y353, hy353⟩ : ∃ y_ : List (S41), y_ = (y347 ++ y350) := ⟨_, rfl⟩
     replace H : ((some (([] : List (S41)) : List (S41))).bind fun y356 => (if y356.length + t334.length < 8796093022208 then ((some (y356 ++ t334 : List (S41))).bind fun y359 => ((some (([(⟨2, 0⟩ : S41)] : List (S41)) : List (S41))).bind fun y362 => (if y359.length + y362.length < 8796093022208 then ((some (y359 ++ y362 : List (S41))).bind fun y365 => (if y365.length + t335.length < 8796093022208 then ((some (y365 ++ t335 : List (S41))).bind fun y368 => ((some (([(⟨2, 0⟩ : S41), (⟨3, 0⟩ : S41)] : List (S41)) : List (S41))).bind fun y371 => (if y368.length + y371.length < 8796093022208 then ((some (y368 ++ y371 : List (S41))).bind fun y374 => ((spec_TermOk.f k t333 t334).bind fun t377 => (if t377 = true then ((spec_TermOk.f k t333 t335).bind fun t378 => (if t378 = true then ((spec_TermOk.f k t333 y353).bind fun t379 => (if t379 = true then ((spec_TermOk.f k t333 y374).bind fun t380 => (laws_FnNotEither.j0 k t333 y353 y374 (!t380))) else (laws_FnNotEither.j0 k t333 y353 y374 true))) else (laws_FnNotEither.j0 k t333 y353 y374 true))) else (laws_FnNotEither.j0 k t333 y353 y374 true)))) else (none)))) else (none))) else (none)))) else (none))) = some r := by first | (rw [hy353]; with_reducible exact H) | (have H2_ := (Option.bind_some _ _).symm.trans H; rw [hy353]; with_reducible exact H2_) | (have H2_ := (Option.bind_some _ _).symm.trans H; with_reducible exact H2_) | with_reducible exact H | (rw [hy353]; exact H) | exact H
     have Ny353 := Aside0.mk hy353
     clear hy353
     obtain ⟨y356, hy356⟩ : ∃ y_ : List (S41), y_ = (([] : List (S41))) := ⟨_, rfl⟩
     replace H : (if y356.length + t334.length < 8796093022208 then ((some (y356 ++ t334 : List (S41))).bind fun y359 => ((some (([(⟨2, 0⟩ : S41)] : List (S41)) : List (S41))).bind fun y362 => (if y359.length + y362.length < 8796093022208 then ((some (y359 ++ y362 : List (S41))).bind fun y365 => (if y365.length + t335.length < 8796093022208 then ((some (y365 ++ t335 : List (S41))).bind fun y368 => ((some (([(⟨2, 0⟩ : S41), (⟨3, 0⟩ : S41)] : List (S41)) : List (S41))).bind fun y371 => (if y368.length + y371.length < 8796093022208 then ((some (y368 ++ y371 : List (S41))).bind fun y374 => ((spec_TermOk.f k t333 t334).bind fun t377 => (if t377 = true then ((spec_TermOk.f k t333 t335).bind fun t378 => (if t378 = true then ((spec_TermOk.f k t333 y353).bind fun t379 => (if t379 = true then ((spec_TermOk.f k t333 y374).bind fun t380 => (laws_FnNotEither.j0 k t333 y353 y374 (!t380))) else (laws_FnNotEither.j0 k t333 y353 y374 true))) else (laws_FnNotEither.j0 k t333 y353 y374 true))) else (laws_FnNotEither.j0 k t333 y353 y374 true)))) else (none)))) else (none))) else (none)))) else (none)) = some r := by first | (rw [hy356]; with_reducible exact H) | (have H2_ := (Option.bind_some _ _).symm.trans H; rw [hy356]; with_reducible exact H2_) | (have H2_ := (Option.bind_some _ _).symm.trans H; with_reducible exact H2_) | with_reducible exact H | (rw [hy356]; exact H) | exact H
     have Ny356 := Aside0.mk hy356
     clear hy356
     by_cases c7 : y356.length + t334.length < 8796093022208
     ·rw [if_pos c7] at H
      have LMc7 := Aside0.mk c7
      clear c7
      obtain ⟨y359, hy359⟩ : ∃ y_ : List (S41), y_ = (y356 ++ t334) := ⟨_, rfl⟩
      replace H : ((some (([(⟨2, 0⟩ : S41)] : List (S41)) : List (S41))).bind fun y362 => (if y359.length + y362.length < 8796093022208 then ((some (y359 ++ y362 : List (S41))).bind fun y365 => (if y365.length + t335.length < 8796093022208 then ((some (y365 ++ t335 : List (S41))).bind fun y368 => ((some (([(⟨2, 0⟩ : S41), (⟨3, 0⟩ : S41)] : List (S41)) : List (S41))).bind fun y371 => (if y368.length + y371.length < 8796093022208 then ((some (y368 ++ y371 : List (S41))).bind fun y374 => ((spec_TermOk.f k t333 t334).bind fun t377 => (if t377 = true then ((spec_TermOk.f k t333 t335).bind fun t378 => (if t378 = true then ((spec_TermOk.f k t333 y353).bind fun t379 => (if t379 = true then ((spec_TermOk.f k t333 y374).bind fun t380 => (laws_FnNotEither.j0 k t333 y353 y374 (!t380))) else (laws_FnNotEither.j0 k t333 y353 y374 true))) else (laws_FnNotEither.j0 k t333 y353 y374 true))) else (laws_FnNotEither.j0 k t333 y353 y374 true)))) else (none)))) else (none))) else (none))) = some r := by first | (rw [hy359]; with_reducible exact H) | (have H2_ := (Option.bind_some _ _).symm.trans H; rw [hy359]; with_reducible exact H2_) | (have H2_ := (Option.bind_some _ _).symm.trans H; with_reducible exact H2_) | with_reducible exact H | (rw [hy359]; exact H) | exact H
      have Ny359 := Aside0.mk hy359
      clear hy359
      obtain ⟨y362, hy362⟩ : ∃ y_ : List (S41), y_ = (([(⟨2, 0⟩ : S41)] : List (S41))) := ⟨_, rfl⟩
      replace H : (if y359.length + y362.length < 8796093022208 then ((some (y359 ++ y362 : List (S41))).bind fun y365 => (if y365.length + t335.length < 8796093022208 then ((some (y365 ++ t335 : List (S41))).bind fun y368 => ((some (([(⟨2, 0⟩ : S41), (⟨3, 0⟩ : S41)] : List (S41)) : List (S41))).bind fun y371 => (if y368.length + y371.length < 8796093022208 then ((some (y368 ++ y371 : List (S41))).bind fun y374 => ((spec_TermOk.f k t333 t334).bind fun t377 => (if t377 = true then ((spec_TermOk.f k t333 t335).bind fun t378 => (if t378 = true then ((spec_TermOk.f k t333 y353).bind fun t379 => (if t379 = true then ((spec_TermOk.f k t333 y374).bind fun t380 => (laws_FnNotEither.j0 k t333 y353 y374 (!t380))) else (laws_FnNotEither.j0 k t333 y353 y374 true))) else (laws_FnNotEither.j0 k t333 y353 y374 true))) else (laws_FnNotEither.j0 k t333 y353 y374 true)))) else (none)))) else (none))) else (none)) = some r := by first | (rw [hy362]; with_reducible exact H) | (have H2_ := (Option.bind_some _ _).symm.trans H; rw [hy362]; with_reducible exact H2_) | (have H2_ := (Option.bind_some _ _).symm.trans H; with_reducible exact H2_) | with_reducible exact H | (rw [hy362]; exact H) | exact H
      have Ny362 := Aside0.mk hy362
      clear hy362
      by_cases c8 : y359.length + y362.length < 8796093022208
      ·rw [if_pos c8] at H
       have LMc8 := Aside0.mk c8
       clear c8
       obtain ⟨y365, hy365⟩ : ∃ y_ : List (S41), y_ = (y359 ++ y362) := ⟨_, rfl⟩
       replace H : (if y365.length + t335.length < 8796093022208 then ((some (y365 ++ t335 : List (S41))).bind fun y368 => ((some (([(⟨2, 0⟩ : S41), (⟨3, 0⟩ : S41)] : List (S41)) : List (S41))).bind fun y371 => (if y368.length + y371.length < 8796093022208 then ((some (y368 ++ y371 : List (S41))).bind fun y374 => ((spec_TermOk.f k t333 t334).bind fun t377 => (if t377 = true then ((spec_TermOk.f k t333 t335).bind fun t378 => (if t378 = true then ((spec_TermOk.f k t333 y353).bind fun t379 => (if t379 = true then ((spec_TermOk.f k t333 y374).bind fun t380 => (laws_FnNotEither.j0 k t333 y353 y374 (!t380))) else (laws_FnNotEither.j0 k t333 y353 y374 true))) else (laws_FnNotEither.j0 k t333 y353 y374 true))) else (laws_FnNotEither.j0 k t333 y353 y374 true)))) else (none)))) else (none)) = some r := by first | (rw [hy365]; with_reducible exact H) | (have H2_ := (Option.bind_some _ _).symm.trans H; rw [hy365]; with_reducible exact H2_) | (have H2_ := (Option.bind_some _ _).symm.trans H; with_reducible exact H2_) | with_reducible exact H | (rw [hy365]; exact H) | exact H
       have Ny365 := Aside0.mk hy365
       clear hy365
       by_cases c9 : y365.length + t335.length < 8796093022208
       ·rw [if_pos c9] at H
        have LMc9 := Aside0.mk c9
        clear c9
        obtain ⟨y368, hy368⟩ : ∃ y_ : List (S41), y_ = (y365 ++ t335) := ⟨_, rfl⟩
        replace H : ((some (([(⟨2, 0⟩ : S41), (⟨3, 0⟩ : S41)] : List (S41)) : List (S41))).bind fun y371 => (if y368.length + y371.length < 8796093022208 then ((some (y368 ++ y371 : List (S41))).bind fun y374 => ((spec_TermOk.f k t333 t334).bind fun t377 => (if t377 = true then ((spec_TermOk.f k t333 t335).bind fun t378 => (if t378 = true then ((spec_TermOk.f k t333 y353).bind fun t379 => (if t379 = true then ((spec_TermOk.f k t333 y374).bind fun t380 => (laws_FnNotEither.j0 k t333 y353 y374 (!t380))) else (laws_FnNotEither.j0 k t333 y353 y374 true))) else (laws_FnNotEither.j0 k t333 y353 y374 true))) else (laws_FnNotEither.j0 k t333 y353 y374 true)))) else (none))) = some r := by first | (rw [hy368]; with_reducible exact H) | (have H2_ := (Option.bind_some _ _).symm.trans H; rw [hy368]; with_reducible exact H2_) | (have H2_ := (Option.bind_some _ _).symm.trans H; with_reducible exact H2_) | with_reducible exact H | (rw [hy368]; exact H) | exact H
        have Ny368 := Aside0.mk hy368
        clear hy368
        obtain ⟨y371, hy371⟩ : ∃ y_ : List (S41), y_ = (([(⟨2, 0⟩ : S41), (⟨3, 0⟩ : S41)] : List (S41))) := ⟨_, rfl⟩
        replace H : (if y368.length + y371.length < 8796093022208 then ((some (y368 ++ y371 : List (S41))).bind fun y374 => ((spec_TermOk.f k t333 t334).bind fun t377 => (if t377 = true then ((spec_TermOk.f k t333 t335).bind fun t378 => (if t378 = true then ((spec_TermOk.f k t333 y353).bind fun t379 => (if t379 = true then ((spec_TermOk.f k t333 y374).bind fun t380 => (laws_FnNotEither.j0 k t333 y353 y374 (!t380))) else (laws_FnNotEither.j0 k t333 y353 y374 true))) else (laws_FnNotEither.j0 k t333 y353 y374 true))) else (laws_FnNotEither.j0 k t333 y353 y374 true)))) else (none)) = some r := by first | (rw [hy371]; with_reducible exact H) | (have H2_ := (Option.bind_some _ _).symm.trans H; rw [hy371]; with_reducible exact H2_) | (have H2_ := (Option.bind_some _ _).symm.trans H; with_reducible exact H2_) | with_reducible exact H | (rw [hy371]; exact H) | exact H
        have Ny371 := Aside0.mk hy371
        clear hy371
        by_cases c10 : y368.length + y371.length < 8796093022208
        ·rw [if_pos c10] at H
         have LMc10 := Aside0.mk c10
         clear c10
         obtain ⟨y374, hy374⟩ : ∃ y_ : List (S41), y_ = (y368 ++ y371) := ⟨_, rfl⟩
         replace H : ((spec_TermOk.f k t333 t334).bind fun t377 => (if t377 = true then ((spec_TermOk.f k t333 t335).bind fun t378 => (if t378 = true then ((spec_TermOk.f k t333 y353).bind fun t379 => (if t379 = true then ((spec_TermOk.f k t333 y374).bind fun t380 => (laws_FnNotEither.j0 k t333 y353 y374 (!t380))) else (laws_FnNotEither.j0 k t333 y353 y374 true))) else (laws_FnNotEither.j0 k t333 y353 y374 true))) else (laws_FnNotEither.j0 k t333 y353 y374 true))) = some r := by first | (rw [hy374]; with_reducible exact H) | (have H2_ := (Option.bind_some _ _).symm.trans H; rw [hy374]; with_reducible exact H2_) | (have H2_ := (Option.bind_some _ _).symm.trans H; with_reducible exact H2_) | with_reducible exact H | (rw [hy374]; exact H) | exact H
         have Ny374 := Aside0.mk hy374
         clear hy374
         have HC11 := Aside0.mk H
         clear H
         go_enter Try.func6, Try.ntmps6
         try go_wp2_with (first | ((with_reducible refine gate_callee (f := 34) rfl ?_); refine goesL_ (some 14) rfl rfl Try.func34 (by kernel_rfl) rfl #[.slice A0 l0.length c0] rfl (by (try simp only [List.map_toArray, List.map_cons, List.map_nil]); first | done | rfl | (simp only [List.length_drop, List.length_take]; rfl)) ?_; (with_reducible refine (spec_DrawSameOk.calls k _ _ l0 t333 t334 t335 _ ?side1 ?side2 A3.out).mono ?_); (case side1 => repeat (first | exact HR0.out | (with_reducible refine Kd.C_alloc ?_ _) | (with_reducible refine Kd.C_drewN ?_ _) | (with_reducible refine Kd.C_drew ?_))); (case side2 => exact HC0.out); rintro e w12 ⟨v336, v338, rfl, ho0, ho1, hb⟩; refine ⟨_, rfl, ?_⟩; have n0_ := Aside0.mk (Kd.R_lower ho0 (below_size (by repeat (first | (with_reducible first | exact HB.out | apply below_alloc | apply pw_below_drewN | apply below_drew1) | exact HB.out)))); have n1_ := Aside0.mk (Kd.R_lower ho1 (below_size (by repeat (first | (with_reducible first | exact HB.out | apply below_alloc | apply pw_below_drewN | apply below_drew1) | exact HB.out)))); have n2_ := Aside0.mk (below_step (by repeat (first | (with_reducible first | exact HB.out | apply below_alloc | apply pw_below_drewN | apply below_drew1) | exact HB.out)) hb); clear HB; have HO337 := n0_; have HO339 := n1_; have HB := n2_; clear n0_ n1_ n2_; (try clear hb); (try clear hb2); (try clear hk); (try clear hi); (try clear ho0); (try clear ho1)) | ((with_reducible refine gate_dst (N := 6) rfl ?_); refine box_event ?hg (N := 6) ?hd (cs := #[.int .i64 0, .int .i64 0]) (t := 41) ?hr ?_; (case hd => rfl); (case hg => rfl); (case hr => first | (go_simp; done) | (go_simp; rfl)); intro gb340 hg w13 hbox hb; have n0_ := Aside0.mk (Kd.R_below (Kd.R_elderB (by (with_reducible repeat apply Kd.R_alloc); exact HO337.out) gb340 (Nat.le_of_eq hg.symm)) hb); have n1_ := Aside0.mk (Kd.R_below (Kd.R_elderB (by (with_reducible repeat apply Kd.R_alloc); exact HO339.out) gb340 (Nat.le_of_eq hg.symm)) hb); have n2_ := Aside0.mk (below_step (by repeat (first | (with_reducible first | exact HB.out | apply below_alloc | apply pw_below_drewN | apply below_drew1) | exact HB.out)) hb); have n3_ := Aside0.mk (hbox); have n4_ := Aside0.mk ((by rw [hg]; exact (below_size (by repeat (first | (with_reducible first | exact HB.out | apply below_alloc | apply pw_below_drewN | apply below_drew1) | exact HB.out))) : w.heap.size ≤ gb340)); have n5_ := Aside0.mk ((by rw [hg]; exact (below_size (by repeat (first | (with_reducible first | exact HB.out | apply below_alloc | apply pw_below_drewN | apply below_drew1) | exact HB.out))) : w.heap.size ≤ gb340)); clear HO337; clear HO339; clear HB; have HO337 := n0_; have HO339 := n1_; have HB := n2_; have BK340 := n3_; have GW340 := n4_; have GE340 := n5_; clear n0_ n1_ n2_ n3_ n4_ n5_; clear hb hbox hg; have hcz14_0 : w13.cell? ⟨gb340, 0, none⟩ = some (.int .i64 0) := (blk_cell BK340.out 0).trans rfl; have hcz14_1 : w13.cell? ⟨gb340, 1, none⟩ = some (.int .i64 0) := (blk_cell BK340.out 1).trans rfl; have hfz14_0 := blk_frozen BK340.out 0; have hfz14_1 := blk_frozen BK340.out 1; obtain ⟨Ao15, co15, eo15⟩ := Kd.R_slice HO337.out; subst eo15; obtain ⟨Ao16, co16, eo16⟩ := Kd.R_slice HO339.out; subst eo16))
         have n0_ : Aside0 (Kd.R k41 41 ((w13.setCell ⟨gb340, 0, none⟩ (.int .i64 2)).setCell ⟨gb340, 1, none⟩ (.int .i64 0)) w.heap.size (fun k_ => some k_ ≠ (.slice Ao16 t335.length co16 : Value).ownBlock ∧ k_ ≠ gb340) (.slice Ao15 t334.length co15) t334) := ⟨by (with_reducible repeat apply Kd.R_alloc); exact Kd.R_mono (Kd.R_far (p := ⟨gb340, 1, none⟩) (Kd.R_far (p := ⟨gb340, 0, none⟩) (Kd.R_mono HO337.out (fun k_ hk => (⟨hk, hk.2⟩ : _ ∧ k_ ≠ gb340))) (fun _ hk => hk.2) (.int .i64 2)) (fun _ hk => hk.2) (.int .i64 0)) (fun _ hk => ⟨hk.1.1, hk.1.2⟩)⟩
         have n1_ : Aside0 (Kd.R k41 41 ((w13.setCell ⟨gb340, 0, none⟩ (.int .i64 2)).setCell ⟨gb340, 1, none⟩ (.int .i64 0)) w.heap.size (fun k_ => some k_ ≠ (.slice Ao15 t334.length co15 : Value).ownBlock ∧ k_ ≠ gb340) (.slice Ao16 t335.length co16) t335) := ⟨by (with_reducible repeat apply Kd.R_alloc); exact Kd.R_mono (Kd.R_far (p := ⟨gb340, 1, none⟩) (Kd.R_far (p := ⟨gb340, 0, none⟩) (Kd.R_mono HO339.out (fun k_ hk => (⟨hk, hk.2⟩ : _ ∧ k_ ≠ gb340))) (fun _ hk => hk.2) (.int .i64 2)) (fun _ hk => hk.2) (.int .i64 0)) (fun _ hk => ⟨hk.1.1, hk.1.2⟩)⟩
         have n2_ : Aside0 (((w13.setCell ⟨gb340, 0, none⟩ (.int .i64 2)).setCell ⟨gb340, 1, none⟩ (.int .i64 0)).heap[gb340]? = some (.cells #[.int .i64 2, .int .i64 0] 41 (0, 0))) := ⟨by (with_reducible repeat (first | refine blk_drewN ?_ _ | refine blk_drew ?_ | refine blk_alloc ?_ _)); refine blk_put (cs := #[.int .i64 2, .int .i64 0]) ?_ 1 _ rfl; (with_reducible repeat (first | refine blk_drewN ?_ _ | refine blk_drew ?_ | refine blk_alloc ?_ _)); refine blk_put (cs := #[.int .i64 0, .int .i64 0]) ?_ 0 _ rfl; (with_reducible repeat (first | refine blk_drewN ?_ _ | refine blk_drew ?_ | refine blk_alloc ?_ _)); exact BK340.out⟩
         have n3_ : Aside0 (Below w.heap.size w ((w13.setCell ⟨gb340, 0, none⟩ (.int .i64 2)).setCell ⟨gb340, 1, none⟩ (.int .i64 0))) := ⟨by repeat (first | (with_reducible first | exact HB.out | apply below_alloc | apply pw_below_drewN | apply below_drew1 | refine below_set ?_ GE340.out) | exact HB.out)⟩
         (try clear HO337)
         (try clear HO339)
         (try clear BK340)
         (try clear HB)
         generalize ((w13.setCell ⟨gb340, 0, none⟩ (.int .i64 2)).setCell ⟨gb340, 1, none⟩ (.int .i64 0)) = w17 at n0_ n1_ n2_ n3_ ⊢
         have HO337 := n0_
         have HO339 := n1_
         have BK340 := n2_
         have HB := n3_
         clear n0_ n1_ n2_ n3_
         have n0_ := Aside0.mk (Kd.R_drew HO337.out)
         have n1_ := Aside0.mk (Kd.R_drew HO339.out)
         have n2_ := Aside0.mk (blk_drew BK340.out)
         have n3_ := Aside0.mk (below_drew1 HB.out)
         clear HO337
         clear HO339
         clear BK340
         clear HB
         have HO337 := n0_
         have HO339 := n1_
         have BK340 := n2_
         have HB := n3_
         clear n0_ n1_ n2_ n3_
         refine start_ (n := 10) (S := fun w' => w'.cell? ⟨gb340, 0, none⟩ = some (.int .i64 2) ∧ w'.cell? ⟨gb340, 1, none⟩ = some (.int .i64 0)) (ds := []) #[false, false, false, false, false, false, false, false, false, false] (by kernel_rfl) rfl rfl ⟨(blk_cell BK340.out 0).trans rfl, (blk_cell BK340.out 1).trans rfl⟩ (fun hHeld => ?_); refine with_tabW laws_FnNotEither.tab5 laws_FnNotEither.bits5 (fun HT_ HW_ => ?_)
         generalize w17.drew = w18 at HO337 HO339 BK340 HB hHeld ⊢
         refine pure_ (i := 1) (N := some 20) (v := ?_) (a' := ?_) #[false, true, false, false, false, false, false, false, false, false] rfl rfl (any_of HT_.out (by kernel_rfl)) (fun _ _ _ h => h) (Or.inl ⟨by rfl, ?_⟩) ?_ ?_
         rotate_left
         ·intro w'
          go_simp
          with_reducible rfl
         rotate_left
         ·simp only [Act.put, List.setIfInBounds_toArray, List.set_cons_zero, List.set_cons_succ, i64_w, i32_w]
          rfl
         refine pure_ (i := 3) (N := some 22) (v := ?_) (a' := ?_) #[false, true, false, true, false, false, false, false, false, false] rfl rfl (any_of HT_.out (by kernel_rfl)) (fun _ _ _ h => h) (Or.inl ⟨by rfl, ?_⟩) ?_ ?_
         rotate_left
         ·intro w'
          go_simp
          with_reducible rfl
         rotate_left
         ·simp only [Act.put, List.setIfInBounds_toArray, List.set_cons_zero, List.set_cons_succ, i64_w, i32_w]
          rfl
         refine pure_ (i := 5) (N := some 24) (v := ?_) (a' := ?_) #[false, true, false, true, false, true, false, false, false, false] rfl rfl (any_of HT_.out (by kernel_rfl)) (fun _ _ _ h => h) (Or.inl ⟨by rfl, ?_⟩) ?_ ?_
         rotate_left
         ·intro w'
          go_simp
          with_reducible rfl
         rotate_left
         ·simp only [Act.put, List.setIfInBounds_toArray, List.set_cons_zero, List.set_cons_succ, i64_w, i32_w]
          rfl
         refine take_ (i := 6) (N := some 25) (v := ?_) (a' := ?_) #[false, true, false, true, false, true, true, false, false, false] rfl rfl (take_ofW HT_.out HW_.out (by kernel_rfl)) (fun _ _ _ h => h) (Or.inl ⟨by rfl, ?_⟩) hHeld ?_ ?_
         rotate_left
         ·rintro w' ⟨s0, s1⟩
          go_simp
          with_reducible rfl
         rotate_left
         ·simp only [Act.put, List.setIfInBounds_toArray, List.set_cons_zero, List.set_cons_succ, i64_w, i32_w]
          rfl
         refine join_ (σ := Value × Value × Value × Value) 2 #[true, true, true, true, true, true, true, true, false, false] (fun s_ => [(19, s_.1), (21, s_.2.1), (23, s_.2.2.1), (26, s_.2.2.2)]) (fun s_ w' => (w'.cell? ⟨gb340, 0, none⟩ = some (.int .i64 2) ∧ w'.cell? ⟨gb340, 1, none⟩ = some (.int .i64 0)) ∧ (Kd.R k41 41 w' w.heap.size (fun k_ => some k_ ≠ (.slice Ao16 t335.length co16 : Value).ownBlock ∧ some k_ ≠ (s_.2.2.1 : Value).ownBlock ∧ some k_ ≠ (s_.2.2.2 : Value).ownBlock ∧ k_ ≠ gb340) (.slice Ao15 t334.length co15) t334) ∧ (Kd.R k41 41 w' w.heap.size (fun k_ => some k_ ≠ (.slice Ao15 t334.length co15 : Value).ownBlock ∧ some k_ ≠ (s_.2.2.1 : Value).ownBlock ∧ some k_ ≠ (s_.2.2.2 : Value).ownBlock ∧ k_ ≠ gb340) (.slice Ao16 t335.length co16) t335) ∧ (Kd.R k41 41 w' w.heap.size (fun k_ => some k_ ≠ (.slice Ao15 t334.length co15 : Value).ownBlock ∧ some k_ ≠ (.slice Ao16 t335.length co16 : Value).ownBlock ∧ some k_ ≠ (s_.2.2.2 : Value).ownBlock ∧ k_ ≠ gb340) s_.2.2.1 y347) ∧ (Kd.R k41 41 w' w.heap.size (fun k_ => some k_ ≠ (.slice Ao15 t334.length co15 : Value).ownBlock ∧ some k_ ≠ (.slice Ao16 t335.length co16 : Value).ownBlock ∧ some k_ ≠ (s_.2.2.1 : Value).ownBlock ∧ k_ ≠ gb340) s_.2.2.2 y350) ∧ (w'.heap[gb340]? = some (.cells #[.int .i64 2, .int .i64 0] 41 (0, 0))) ∧ (Below w.heap.size w w')) ?_ ?_
         rotate_left
         ·intro hCont
          refine two_ (i := 0) (j := 7) (Ni := some 19) (Nj := some 26) #[true, true, false, true, false, true, true, false, false, false] #[false, true, false, true, false, true, true, true, false, false] rfl rfl rfl rfl (two_of HT_.out (by kernel_rfl)) (by decide) (by decide) (fun K hK => ?_) (fun K hK => ?_)
          ·skip
           refine Kd.R_lit_step k41 _ 41 ?hg (N := 19) ?hd (xs := ([] : List (S41))) (inner := []) (ok := fun _ => True) (okp := fun _ => True) ?hr ?hp (fun _ hk => hk) trivial (Below.refl _ _) (Nat.le_refl _) (by simp) ?_; (case hd => rfl); (case hg => rfl); (case hr => first | (go_simp; done) | (go_simp; rfl)); (case hp => exact (Reps.none _ _))
           intro v342 w19 ho20 hb hg_ hnew_
           clear hg_ hnew_
           (first | rw [← Ny341.out] at ho20 | (simp only [Int.reduceToNat] at ho20; rw [← Ny341.out] at ho20))
           have n0_ := Aside0.mk (Kd.R_elder' (by (with_reducible repeat apply Kd.R_alloc); exact HO337.out) (Kd.R_base ho20) hb)
           have n1_ := Aside0.mk (Kd.R_elder' (by (with_reducible repeat apply Kd.R_alloc); exact HO339.out) (Kd.R_base ho20) hb)
           have n2_ := Aside0.mk (Kd.R_lower (Kd.R_newB (Kd.R_new' (Kd.R_new' ho20 (Kd.R_lt (by (with_reducible repeat apply Kd.R_alloc); exact HO337.out))) (Kd.R_lt (by (with_reducible repeat apply Kd.R_alloc); exact HO339.out))) (g := gb340) (o := .cells #[.int .i64 2, .int .i64 0] 41 (0, 0)) (by (with_reducible repeat (first | refine blk_drewN ?_ _ | refine blk_drew ?_ | refine blk_alloc ?_ _)); exact BK340.out)) (below_size (by repeat (first | (with_reducible first | exact HB.out | apply below_alloc | apply pw_below_drewN | apply below_drew1 | refine below_set ?_ GE340.out) | exact HB.out))))
           have n3_ := Aside0.mk (blk_below (g := gb340) (o := .cells #[.int .i64 2, .int .i64 0] 41 (0, 0)) (by (with_reducible repeat (first | refine blk_drewN ?_ _ | refine blk_drew ?_ | refine blk_alloc ?_ _)); exact BK340.out) hb)
           have n4_ := Aside0.mk (below_step (by repeat (first | (with_reducible first | exact HB.out | apply below_alloc | apply pw_below_drewN | apply below_drew1 | refine below_set ?_ GE340.out) | exact HB.out)) hb)
           clear HO337
           clear HO339
           clear BK340
           clear HB
           have HO337 := n0_
           have HO339 := n1_
           have HO343 := n2_
           have BK340 := n3_
           have HB := n4_
           clear n0_ n1_ n2_ n3_ n4_
           clear hb ho20
           refine hK.out _ _ ⟨(blk_cell BK340.out 0).trans rfl, (blk_cell BK340.out 1).trans rfl⟩ (fun hHeld => ?_)
           clear hK K
           refine norm_ (a' := ?_) ?_ ?_
           rotate_left
           ·show Act.put _ (some 19) _ = _
            simp only [Act.put, List.setIfInBounds_toArray, List.set_cons_zero, List.set_cons_succ, i64_w, i32_w]
            rfl
           refine two_ (i := 2) (j := 7) (Ni := some 21) (Nj := some 26) #[true, true, true, true, false, true, true, false, false, false] #[true, true, false, true, false, true, true, true, false, false] rfl rfl rfl rfl (two_of HT_.out (by kernel_rfl)) (by decide) (by decide) (fun K hK => ?_) (fun K hK => ?_)
           ·skip
            refine Kd.R_append_rows_step k41 (w0 := w) w.heap.size (by rfl) (.tmp 19) (.tmp 20) 23 41 (.agg #[(.int .i64 0), (.int .i64 0)]) 16 rfl Try.underlying23 info41 rfl (by decide) (by omega) v342 y341 t334 _ _ _ (fun k_ => some k_ ≠ (.slice Ao15 t334.length co15 : Value).ownBlock ∧ some k_ ≠ (.slice Ao16 t335.length co16 : Value).ownBlock ∧ k_ ≠ gb340) (fun _ => False) rfl rfl ?aO ?aR (fun _ _ h => h) (fun _ h => h.elim) ?aF ?aB ?aS ?aL ?_
            (case aR => repeat (first | exact (Kd.R_reads' HO337.out).2.2 | (with_reducible refine Kd.C_alloc ?_ _) | (with_reducible refine Kd.C_drewN ?_ _) | (with_reducible refine Kd.C_drew ?_)))
            (case aB => exact (by repeat (first | (with_reducible first | exact HB.out | apply below_alloc | apply pw_below_drewN | apply below_drew1 | refine below_set ?_ GE340.out) | exact HB.out)))
            (case aF => exact (fun k_ hk => ⟨Kd.fresh' (Kd.R_lt (by (with_reducible repeat apply Kd.R_alloc); exact HO337.out)) k_ hk, Kd.fresh' (Kd.R_lt (by (with_reducible repeat apply Kd.R_alloc); exact HO339.out)) k_ hk, Kd.freshB (g := gb340) (o := .cells #[.int .i64 2, .int .i64 0] 41 (0, 0)) (by (with_reducible repeat (first | refine blk_drewN ?_ _ | refine blk_drew ?_ | refine blk_alloc ?_ _)); exact BK340.out) k_ hk⟩))
            (case aO => exact (by (with_reducible repeat apply Kd.R_alloc); exact Kd.R_mono HO343.out (fun _ hk => ⟨hk.1.1.2, ⟨hk.1.2, hk.2⟩⟩)))
            (case aS => exact (below_size (by repeat (first | (with_reducible first | exact HB.out | apply below_alloc | apply pw_below_drewN | apply below_drew1 | refine below_set ?_ GE340.out) | exact HB.out))))
            (case aL => have := LMc4.out; omega)
            intro v345 w21 ho hb hg hat
            rw [← Ny344.out] at ho
            have n0_ := Aside0.mk (Kd.R_after (ok := (fun k_ => some k_ ≠ (.slice Ao16 t335.length co16 : Value).ownBlock ∧ k_ ≠ gb340)) (by (with_reducible repeat apply Kd.R_alloc); exact HO337.out) hg hat)
            have n1_ := Aside0.mk (Kd.R_after (ok := (fun k_ => some k_ ≠ (.slice Ao15 t334.length co15 : Value).ownBlock ∧ k_ ≠ gb340)) (by (with_reducible repeat apply Kd.R_alloc); exact HO339.out) hg hat)
            have n2_ := Aside0.mk (blk_grown (g := gb340) (o := .cells #[.int .i64 2, .int .i64 0] 41 (0, 0)) (by (with_reducible repeat (first | refine blk_drewN ?_ _ | refine blk_drew ?_ | refine blk_alloc ?_ _)); exact BK340.out) hg (Kd.R_away HO343.out (fun _ hk => hk.2)))
            have n3_ := Aside0.mk (hb)
            have n4_ := Aside0.mk (ho)
            clear HO337
            clear HO339
            clear BK340
            clear HB
            clear HO343
            have HO337 := n0_
            have HO339 := n1_
            have BK340 := n2_
            have HB := n3_
            have HO346 := n4_
            clear n0_ n1_ n2_ n3_ n4_
            clear ho hb hg hat
            refine hK.out _ _ ⟨(blk_cell BK340.out 0).trans rfl, (blk_cell BK340.out 1).trans rfl⟩ (fun hHeld => ?_)
            clear hK K
            refine norm_ (a' := ?_) ?_ ?_
            rotate_left
            ·show Act.put _ (some 21) _ = _
             simp only [Act.put, List.setIfInBounds_toArray, List.set_cons_zero, List.set_cons_succ, i64_w, i32_w]
             rfl
            refine two_ (i := 4) (j := 7) (Ni := some 23) (Nj := some 26) #[true, true, true, true, true, true, true, false, false, false] #[true, true, true, true, false, true, true, true, false, false] rfl rfl rfl rfl (two_of HT_.out (by kernel_rfl)) (by decide) (by decide) (fun K hK => ?_) (fun K hK => ?_)
            ·skip
             refine Kd.R_append_rows_step k41 (w0 := w) w.heap.size (by rfl) (.tmp 21) (.tmp 22) 23 41 (.agg #[(.int .i64 0), (.int .i64 0)]) 16 rfl Try.underlying23 info41 rfl (by decide) (by omega) v345 y344 t335 _ _ _ (fun k_ => some k_ ≠ (.slice Ao15 t334.length co15 : Value).ownBlock ∧ some k_ ≠ (.slice Ao16 t335.length co16 : Value).ownBlock ∧ k_ ≠ gb340) (fun _ => False) rfl rfl ?aO ?aR (fun _ _ h => h) (fun _ h => h.elim) ?aF ?aB ?aS ?aL ?_
             (case aR => repeat (first | exact (Kd.R_reads' HO339.out).2.2 | (with_reducible refine Kd.C_alloc ?_ _) | (with_reducible refine Kd.C_drewN ?_ _) | (with_reducible refine Kd.C_drew ?_)))
             (case aB => exact (by repeat (first | (with_reducible first | exact HB.out | apply below_alloc | apply pw_below_drewN | apply below_drew1 | refine below_set ?_ GE340.out) | exact HB.out)))
             (case aF => exact (fun k_ hk => ⟨Kd.fresh' (Kd.R_lt (by (with_reducible repeat apply Kd.R_alloc); exact HO337.out)) k_ hk, Kd.fresh' (Kd.R_lt (by (with_reducible repeat apply Kd.R_alloc); exact HO339.out)) k_ hk, Kd.freshB (g := gb340) (o := .cells #[.int .i64 2, .int .i64 0] 41 (0, 0)) (by (with_reducible repeat (first | refine blk_drewN ?_ _ | refine blk_drew ?_ | refine blk_alloc ?_ _)); exact BK340.out) k_ hk⟩))
             (case aO => exact (by (with_reducible repeat apply Kd.R_alloc); exact HO346.out))
             (case aS => exact (below_size (by repeat (first | (with_reducible first | exact HB.out | apply below_alloc | apply pw_below_drewN | apply below_drew1 | refine below_set ?_ GE340.out) | exact HB.out))))
             (case aL => have := LMc5.out; omega)
             intro v348 w22 ho hb hg hat
             rw [← Ny347.out] at ho
             have n0_ := Aside0.mk (Kd.R_after (ok := (fun k_ => some k_ ≠ (.slice Ao16 t335.length co16 : Value).ownBlock ∧ k_ ≠ gb340)) (by (with_reducible repeat apply Kd.R_alloc); exact HO337.out) hg hat)
             have n1_ := Aside0.mk (Kd.R_after (ok := (fun k_ => some k_ ≠ (.slice Ao15 t334.length co15 : Value).ownBlock ∧ k_ ≠ gb340)) (by (with_reducible repeat apply Kd.R_alloc); exact HO339.out) hg hat)
             have n2_ := Aside0.mk (blk_grown (g := gb340) (o := .cells #[.int .i64 2, .int .i64 0] 41 (0, 0)) (by (with_reducible repeat (first | refine blk_drewN ?_ _ | refine blk_drew ?_ | refine blk_alloc ?_ _)); exact BK340.out) hg (Kd.R_away HO346.out (fun _ hk => hk.2.2)))
             have n3_ := Aside0.mk (hb)
             have n4_ := Aside0.mk (ho)
             clear HO337
             clear HO339
             clear BK340
             clear HB
             clear HO346
             have HO337 := n0_
             have HO339 := n1_
             have BK340 := n2_
             have HB := n3_
             have HO349 := n4_
             clear n0_ n1_ n2_ n3_ n4_
             clear ho hb hg hat
             refine hK.out _ _ ⟨(blk_cell BK340.out 0).trans rfl, (blk_cell BK340.out 1).trans rfl⟩ (fun hHeld => ?_)
             clear hK K
             refine norm_ (a' := ?_) ?_ ?_
             rotate_left
             ·show Act.put _ (some 23) _ = _
              simp only [Act.put, List.setIfInBounds_toArray, List.set_cons_zero, List.set_cons_succ, i64_w, i32_w]
              rfl
             refine one_ (i := 7) (N := some 26) #[true, true, true, true, true, true, true, true, false, false] rfl rfl (one_of HT_.out (by kernel_rfl)) (by decide) (fun K hK => ?_)
             refine Kd.R_lit_step k41 _ 41 ?hg (N := 26) ?hd (xs := ([(⟨4, 0⟩ : S41), (⟨2, 0⟩ : S41)] : List (S41))) (inner := [.int .i64 4, .int .i64 0, .int .i64 2, .int .i64 0]) (ok := fun _ => True) (okp := fun _ => True) ?hr ?hp (fun _ hk => hk) trivial (Below.refl _ _) (Nat.le_refl _) (by simp) ?_; (case hd => rfl); (case hg => rfl); (case hr => first | (go_simp; done) | (go_simp; rfl)); (case hp => exact (Reps.c2 (show Kd.M k41 _ _ _ (⟨4, 0⟩ : S41) [.int .i64 4, .int .i64 0] from (k41_mkM _ _ _ (⟨4, 0⟩ : S41) )) (Reps.c2 (show Kd.M k41 _ _ _ (⟨2, 0⟩ : S41) [.int .i64 2, .int .i64 0] from (k41_mkM _ _ _ (⟨2, 0⟩ : S41) )) (Reps.none _ _))))
             intro v351 w23 ho24 hb hg_ hnew_
             clear hg_ hnew_
             (first | rw [← Ny350.out] at ho24 | (simp only [Int.reduceToNat] at ho24; rw [← Ny350.out] at ho24))
             have n0_ := Aside0.mk (Kd.R_elder' (by (with_reducible repeat apply Kd.R_alloc); exact HO337.out) (Kd.R_base ho24) hb)
             have n1_ := Aside0.mk (Kd.R_elder' (by (with_reducible repeat apply Kd.R_alloc); exact HO339.out) (Kd.R_base ho24) hb)
             have n2_ := Aside0.mk (Kd.R_elder' (by (with_reducible repeat apply Kd.R_alloc); exact HO349.out) (Kd.R_base ho24) hb)
             have n3_ := Aside0.mk (Kd.R_lower (Kd.R_newB (Kd.R_new' (Kd.R_new' (Kd.R_new' ho24 (Kd.R_lt (by (with_reducible repeat apply Kd.R_alloc); exact HO337.out))) (Kd.R_lt (by (with_reducible repeat apply Kd.R_alloc); exact HO339.out))) (Kd.R_lt (by (with_reducible repeat apply Kd.R_alloc); exact HO349.out))) (g := gb340) (o := .cells #[.int .i64 2, .int .i64 0] 41 (0, 0)) (by (with_reducible repeat (first | refine blk_drewN ?_ _ | refine blk_drew ?_ | refine blk_alloc ?_ _)); exact BK340.out)) (below_size (by repeat (first | (with_reducible first | exact HB.out | apply below_alloc | apply pw_below_drewN | apply below_drew1 | refine below_set ?_ GE340.out) | exact HB.out))))
             have n4_ := Aside0.mk (blk_below (g := gb340) (o := .cells #[.int .i64 2, .int .i64 0] 41 (0, 0)) (by (with_reducible repeat (first | refine blk_drewN ?_ _ | refine blk_drew ?_ | refine blk_alloc ?_ _)); exact BK340.out) hb)
             have n5_ := Aside0.mk (below_step (by repeat (first | (with_reducible first | exact HB.out | apply below_alloc | apply pw_below_drewN | apply below_drew1 | refine below_set ?_ GE340.out) | exact HB.out)) hb)
             clear HO337
             clear HO339
             clear HO349
             clear BK340
             clear HB
             have HO337 := n0_
             have HO339 := n1_
             have HO349 := n2_
             have HO352 := n3_
             have BK340 := n4_
             have HB := n5_
             clear n0_ n1_ n2_ n3_ n4_ n5_
             clear hb ho24
             refine hK.out _ _ ⟨(blk_cell BK340.out 0).trans rfl, (blk_cell BK340.out 1).trans rfl⟩ (fun hHeld => ?_)
             clear hK K
             refine norm_ (a' := ?_) ?_ ?_
             rotate_left
             ·show Act.put _ (some 26) _ = _
              simp only [Act.put, List.setIfInBounds_toArray, List.set_cons_zero, List.set_cons_succ, i64_w, i32_w]
              rfl
             exact norm_ (by simp only [putAll, Act.put, List.setIfInBounds_toArray, List.set_cons_zero, List.set_cons_succ]) (hCont (v342, v345, v348, v351) _ ⟨hHeld, (by (with_reducible repeat apply Kd.R_alloc); exact Kd.R_mono HO337.out (fun _ hk => ⟨hk.1.1.1, ⟨hk.1.2, ⟨hk.2, hk.1.1.2⟩⟩⟩)), (by (with_reducible repeat apply Kd.R_alloc); exact Kd.R_mono HO339.out (fun _ hk => ⟨hk.1.1.1, ⟨hk.1.2, ⟨hk.2, hk.1.1.2⟩⟩⟩)), (by (with_reducible repeat apply Kd.R_alloc); exact Kd.R_mono HO349.out (fun _ hk => ⟨hk.1.1, ⟨hk.1.2.1, ⟨hk.2, hk.1.2.2⟩⟩⟩)), (by (with_reducible repeat apply Kd.R_alloc); exact Kd.R_mono HO352.out (fun _ hk => ⟨hk.1.1.1.2, ⟨hk.1.1.2, ⟨hk.1.2, hk.2⟩⟩⟩)), (by (with_reducible repeat (first | refine blk_drewN ?_ _ | refine blk_drew ?_ | refine blk_alloc ?_ _)); exact BK340.out), (by repeat (first | (with_reducible first | exact HB.out | apply below_alloc | apply pw_below_drewN | apply below_drew1 | refine below_set ?_ GE340.out) | exact HB.out))⟩)
            ·skip
             refine Kd.R_lit_step k41 _ 41 ?hg (N := 26) ?hd (xs := ([(⟨4, 0⟩ : S41), (⟨2, 0⟩ : S41)] : List (S41))) (inner := [.int .i64 4, .int .i64 0, .int .i64 2, .int .i64 0]) (ok := fun _ => True) (okp := fun _ => True) ?hr ?hp (fun _ hk => hk) trivial (Below.refl _ _) (Nat.le_refl _) (by simp) ?_; (case hd => rfl); (case hg => rfl); (case hr => first | (go_simp; done) | (go_simp; rfl)); (case hp => exact (Reps.c2 (show Kd.M k41 _ _ _ (⟨4, 0⟩ : S41) [.int .i64 4, .int .i64 0] from (k41_mkM _ _ _ (⟨4, 0⟩ : S41) )) (Reps.c2 (show Kd.M k41 _ _ _ (⟨2, 0⟩ : S41) [.int .i64 2, .int .i64 0] from (k41_mkM _ _ _ (⟨2, 0⟩ : S41) )) (Reps.none _ _))))
             intro v351 w22 ho23 hb hg_ hnew_
             clear hg_ hnew_
             (first | rw [← Ny350.out] at ho23 | (simp only [Int.reduceToNat] at ho23; rw [← Ny350.out] at ho23))
             have n0_ := Aside0.mk (Kd.R_elder' (by (with_reducible repeat apply Kd.R_alloc); exact HO337.out) (Kd.R_base ho23) hb)
             have n1_ := Aside0.mk (Kd.R_elder' (by (with_reducible repeat apply Kd.R_alloc); exact HO339.out) (Kd.R_base ho23) hb)
             have n2_ := Aside0.mk (Kd.R_elder' (by (with_reducible repeat apply Kd.R_alloc); exact HO346.out) (Kd.R_base ho23) hb)
             have n3_ := Aside0.mk (Kd.R_lower (Kd.R_newB (Kd.R_new' (Kd.R_new' (Kd.R_new' ho23 (Kd.R_lt (by (with_reducible repeat apply Kd.R_alloc); exact HO337.out))) (Kd.R_lt (by (with_reducible repeat apply Kd.R_alloc); exact HO339.out))) (Kd.R_lt (by (with_reducible repeat apply Kd.R_alloc); exact HO346.out))) (g := gb340) (o := .cells #[.int .i64 2, .int .i64 0] 41 (0, 0)) (by (with_reducible repeat (first | refine blk_drewN ?_ _ | refine blk_drew ?_ | refine blk_alloc ?_ _)); exact BK340.out)) (below_size (by repeat (first | (with_reducible first | exact HB.out | apply below_alloc | apply pw_below_drewN | apply below_drew1 | refine below_set ?_ GE340.out) | exact HB.out))))
             have n4_ := Aside0.mk (blk_below (g := gb340) (o := .cells #[.int .i64 2, .int .i64 0] 41 (0, 0)) (by (with_reducible repeat (first | refine blk_drewN ?_ _ | refine blk_drew ?_ | refine blk_alloc ?_ _)); exact BK340.out) hb)
             have n5_ := Aside0.mk (below_step (by repeat (first | (with_reducible first | exact HB.out | apply below_alloc | apply pw_below_drewN | apply below_drew1 | refine below_set ?_ GE340.out) | exact HB.out)) hb)
             clear HO337
             clear HO339
             clear HO346
             clear BK340
             clear HB
             have HO337 := n0_
             have HO339 := n1_
             have HO346 := n2_
             have HO352 := n3_
             have BK340 := n4_
             have HB := n5_
             clear n0_ n1_ n2_ n3_ n4_ n5_
             clear hb ho23
             refine hK.out _ _ ⟨(blk_cell BK340.out 0).trans rfl, (blk_cell BK340.out 1).trans rfl⟩ (fun hHeld => ?_)
             clear hK K
             refine norm_ (a' := ?_) ?_ ?_
             rotate_left
             ·show Act.put _ (some 26) _ = _
              simp only [Act.put, List.setIfInBounds_toArray, List.set_cons_zero, List.set_cons_succ, i64_w, i32_w]
              rfl
             refine one_ (i := 4) (N := some 23) #[true, true, true, true, true, true, true, true, false, false] rfl rfl (one_of HT_.out (by kernel_rfl)) (by decide) (fun K hK => ?_)
             refine Kd.R_append_rows_step k41 (w0 := w) w.heap.size (by rfl) (.tmp 21) (.tmp 22) 23 41 (.agg #[(.int .i64 0), (.int .i64 0)]) 16 rfl Try.underlying23 info41 rfl (by decide) (by omega) v345 y344 t335 _ _ _ (fun k_ => some k_ ≠ (.slice Ao15 t334.length co15 : Value).ownBlock ∧ some k_ ≠ (.slice Ao16 t335.length co16 : Value).ownBlock ∧ some k_ ≠ (v351 : Value).ownBlock ∧ k_ ≠ gb340) (fun _ => False) rfl rfl ?aO ?aR (fun _ _ h => h) (fun _ h => h.elim) ?aF ?aB ?aS ?aL ?_
             (case aR => repeat (first | exact (Kd.R_reads' HO339.out).2.2 | (with_reducible refine Kd.C_alloc ?_ _) | (with_reducible refine Kd.C_drewN ?_ _) | (with_reducible refine Kd.C_drew ?_)))
             (case aB => exact (by repeat (first | (with_reducible first | exact HB.out | apply below_alloc | apply pw_below_drewN | apply below_drew1 | refine below_set ?_ GE340.out) | exact HB.out)))
             (case aF => exact (fun k_ hk => ⟨Kd.fresh' (Kd.R_lt (by (with_reducible repeat apply Kd.R_alloc); exact HO337.out)) k_ hk, Kd.fresh' (Kd.R_lt (by (with_reducible repeat apply Kd.R_alloc); exact HO339.out)) k_ hk, Kd.fresh' (Kd.R_lt (by (with_reducible repeat apply Kd.R_alloc); exact HO352.out)) k_ hk, Kd.freshB (g := gb340) (o := .cells #[.int .i64 2, .int .i64 0] 41 (0, 0)) (by (with_reducible repeat (first | refine blk_drewN ?_ _ | refine blk_drew ?_ | refine blk_alloc ?_ _)); exact BK340.out) k_ hk⟩))
             (case aO => exact (by (with_reducible repeat apply Kd.R_alloc); exact Kd.R_mono HO346.out (fun _ hk => ⟨hk.1.1, ⟨hk.1.2.1, ⟨hk.2, hk.1.2.2⟩⟩⟩)))
             (case aS => exact (below_size (by repeat (first | (with_reducible first | exact HB.out | apply below_alloc | apply pw_below_drewN | apply below_drew1 | refine below_set ?_ GE340.out) | exact HB.out))))
             (case aL => have := LMc5.out; omega)
             intro v348 w24 ho hb hg hat
             rw [← Ny347.out] at ho
             have n0_ := Aside0.mk (Kd.R_after (ok := (fun k_ => some k_ ≠ (.slice Ao16 t335.length co16 : Value).ownBlock ∧ some k_ ≠ (v351 : Value).ownBlock ∧ k_ ≠ gb340)) (by (with_reducible repeat apply Kd.R_alloc); exact Kd.R_mono HO337.out (fun _ hk => ⟨⟨hk.1.1.1, ⟨hk.2, hk.1.1.2⟩⟩, hk.1.2⟩)) hg hat)
             have n1_ := Aside0.mk (Kd.R_after (ok := (fun k_ => some k_ ≠ (.slice Ao15 t334.length co15 : Value).ownBlock ∧ some k_ ≠ (v351 : Value).ownBlock ∧ k_ ≠ gb340)) (by (with_reducible repeat apply Kd.R_alloc); exact Kd.R_mono HO339.out (fun _ hk => ⟨⟨hk.1.1.1, ⟨hk.2, hk.1.1.2⟩⟩, hk.1.2⟩)) hg hat)
             have n2_ := Aside0.mk (blk_grown (g := gb340) (o := .cells #[.int .i64 2, .int .i64 0] 41 (0, 0)) (by (with_reducible repeat (first | refine blk_drewN ?_ _ | refine blk_drew ?_ | refine blk_alloc ?_ _)); exact BK340.out) hg (Kd.R_away HO346.out (fun _ hk => hk.1.2.2)))
             have n3_ := Aside0.mk (Kd.R_after (ok := (fun k_ => some k_ ≠ (.slice Ao15 t334.length co15 : Value).ownBlock ∧ some k_ ≠ (.slice Ao16 t335.length co16 : Value).ownBlock ∧ k_ ≠ gb340)) (by (with_reducible repeat apply Kd.R_alloc); exact Kd.R_mono HO352.out (fun _ hk => ⟨⟨hk.1.1.1.2, ⟨hk.1.1.2, hk.2⟩⟩, hk.1.2⟩)) hg hat)
             have n4_ := Aside0.mk (hb)
             have n5_ := Aside0.mk (ho)
             clear HO337
             clear HO339
             clear BK340
             clear HO352
             clear HB
             clear HO346
             have HO337 := n0_
             have HO339 := n1_
             have BK340 := n2_
             have HO352 := n3_
             have HB := n4_
             have HO349 := n5_
             clear n0_ n1_ n2_ n3_ n4_ n5_
             clear ho hb hg hat
             refine hK.out _ _ ⟨(blk_cell BK340.out 0).trans rfl, (blk_cell BK340.out 1).trans rfl⟩ (fun hHeld => ?_)
             clear hK K
             refine norm_ (a' := ?_) ?_ ?_
             rotate_left
             ·show Act.put _ (some 23) _ = _
              simp only [Act.put, List.setIfInBounds_toArray, List.set_cons_zero, List.set_cons_succ, i64_w, i32_w]
              rfl
             exact norm_ (by simp only [putAll, Act.put, List.setIfInBounds_toArray, List.set_cons_zero, List.set_cons_succ]) (hCont (v342, v345, v348, v351) _ ⟨hHeld, (by (with_reducible repeat apply Kd.R_alloc); exact Kd.R_mono HO337.out (fun _ hk => ⟨hk.1.1, ⟨hk.2, ⟨hk.1.2.1, hk.1.2.2⟩⟩⟩)), (by (with_reducible repeat apply Kd.R_alloc); exact Kd.R_mono HO339.out (fun _ hk => ⟨hk.1.1, ⟨hk.2, ⟨hk.1.2.1, hk.1.2.2⟩⟩⟩)), (by (with_reducible repeat apply Kd.R_alloc); exact HO349.out), (by (with_reducible repeat apply Kd.R_alloc); exact Kd.R_mono HO352.out (fun _ hk => ⟨hk.1.1, ⟨hk.1.2.1, ⟨hk.2, hk.1.2.2⟩⟩⟩)), (by (with_reducible repeat (first | refine blk_drewN ?_ _ | refine blk_drew ?_ | refine blk_alloc ?_ _)); exact BK340.out), (by repeat (first | (with_reducible first | exact HB.out | apply below_alloc | apply pw_below_drewN | apply below_drew1 | refine below_set ?_ GE340.out) | exact HB.out))⟩)
           ·skip
            refine Kd.R_lit_step k41 _ 41 ?hg (N := 26) ?hd (xs := ([(⟨4, 0⟩ : S41), (⟨2, 0⟩ : S41)] : List (S41))) (inner := [.int .i64 4, .int .i64 0, .int .i64 2, .int .i64 0]) (ok := fun _ => True) (okp := fun _ => True) ?hr ?hp (fun _ hk => hk) trivial (Below.refl _ _) (Nat.le_refl _) (by simp) ?_; (case hd => rfl); (case hg => rfl); (case hr => first | (go_simp; done) | (go_simp; rfl)); (case hp => exact (Reps.c2 (show Kd.M k41 _ _ _ (⟨4, 0⟩ : S41) [.int .i64 4, .int .i64 0] from (k41_mkM _ _ _ (⟨4, 0⟩ : S41) )) (Reps.c2 (show Kd.M k41 _ _ _ (⟨2, 0⟩ : S41) [.int .i64 2, .int .i64 0] from (k41_mkM _ _ _ (⟨2, 0⟩ : S41) )) (Reps.none _ _))))
            intro v351 w21 ho22 hb hg_ hnew_
            clear hg_ hnew_
            (first | rw [← Ny350.out] at ho22 | (simp only [Int.reduceToNat] at ho22; rw [← Ny350.out] at ho22))
            have n0_ := Aside0.mk (Kd.R_elder' (by (with_reducible repeat apply Kd.R_alloc); exact HO337.out) (Kd.R_base ho22) hb)
            have n1_ := Aside0.mk (Kd.R_elder' (by (with_reducible repeat apply Kd.R_alloc); exact HO339.out) (Kd.R_base ho22) hb)
            have n2_ := Aside0.mk (Kd.R_elder' (by (with_reducible repeat apply Kd.R_alloc); exact HO343.out) (Kd.R_base ho22) hb)
            have n3_ := Aside0.mk (Kd.R_lower (Kd.R_newB (Kd.R_new' (Kd.R_new' (Kd.R_new' ho22 (Kd.R_lt (by (with_reducible repeat apply Kd.R_alloc); exact HO337.out))) (Kd.R_lt (by (with_reducible repeat apply Kd.R_alloc); exact HO339.out))) (Kd.R_lt (by (with_reducible repeat apply Kd.R_alloc); exact HO343.out))) (g := gb340) (o := .cells #[.int .i64 2, .int .i64 0] 41 (0, 0)) (by (with_reducible repeat (first | refine blk_drewN ?_ _ | refine blk_drew ?_ | refine blk_alloc ?_ _)); exact BK340.out)) (below_size (by repeat (first | (with_reducible first | exact HB.out | apply below_alloc | apply pw_below_drewN | apply below_drew1 | refine below_set ?_ GE340.out) | exact HB.out))))
            have n4_ := Aside0.mk (blk_below (g := gb340) (o := .cells #[.int .i64 2, .int .i64 0] 41 (0, 0)) (by (with_reducible repeat (first | refine blk_drewN ?_ _ | refine blk_drew ?_ | refine blk_alloc ?_ _)); exact BK340.out) hb)
            have n5_ := Aside0.mk (below_step (by repeat (first | (with_reducible first | exact HB.out | apply below_alloc | apply pw_below_drewN | apply below_drew1 | refine below_set ?_ GE340.out) | exact HB.out)) hb)
            clear HO337
            clear HO339
            clear HO343
            clear BK340
            clear HB
            have HO337 := n0_
            have HO339 := n1_
            have HO343 := n2_
            have HO352 := n3_
            have BK340 := n4_
            have HB := n5_
            clear n0_ n1_ n2_ n3_ n4_ n5_
            clear hb ho22
            refine hK.out _ _ ⟨(blk_cell BK340.out 0).trans rfl, (blk_cell BK340.out 1).trans rfl⟩ (fun hHeld => ?_)
            clear hK K
            refine norm_ (a' := ?_) ?_ ?_
            rotate_left
            ·show Act.put _ (some 26) _ = _
             simp only [Act.put, List.setIfInBounds_toArray, List.set_cons_zero, List.set_cons_succ, i64_w, i32_w]
             rfl
            refine one_ (i := 2) (N := some 21) #[true, true, true, true, false, true, true, true, false, false] rfl rfl (one_of HT_.out (by kernel_rfl)) (by decide) (fun K hK => ?_)
            refine Kd.R_append_rows_step k41 (w0 := w) w.heap.size (by rfl) (.tmp 19) (.tmp 20) 23 41 (.agg #[(.int .i64 0), (.int .i64 0)]) 16 rfl Try.underlying23 info41 rfl (by decide) (by omega) v342 y341 t334 _ _ _ (fun k_ => some k_ ≠ (.slice Ao15 t334.length co15 : Value).ownBlock ∧ some k_ ≠ (.slice Ao16 t335.length co16 : Value).ownBlock ∧ some k_ ≠ (v351 : Value).ownBlock ∧ k_ ≠ gb340) (fun _ => False) rfl rfl ?aO ?aR (fun _ _ h => h) (fun _ h => h.elim) ?aF ?aB ?aS ?aL ?_
            (case aR => repeat (first | exact (Kd.R_reads' HO337.out).2.2 | (with_reducible refine Kd.C_alloc ?_ _) | (with_reducible refine Kd.C_drewN ?_ _) | (with_reducible refine Kd.C_drew ?_)))
            (case aB => exact (by repeat (first | (with_reducible first | exact HB.out | apply below_alloc | apply pw_below_drewN | apply below_drew1 | refine below_set ?_ GE340.out) | exact HB.out)))
            (case aF => exact (fun k_ hk => ⟨Kd.fresh' (Kd.R_lt (by (with_reducible repeat apply Kd.R_alloc); exact HO337.out)) k_ hk, Kd.fresh' (Kd.R_lt (by (with_reducible repeat apply Kd.R_alloc); exact HO339.out)) k_ hk, Kd.fresh' (Kd.R_lt (by (with_reducible repeat apply Kd.R_alloc); exact HO352.out)) k_ hk, Kd.freshB (g := gb340) (o := .cells #[.int .i64 2, .int .i64 0] 41 (0, 0)) (by (with_reducible repeat (first | refine blk_drewN ?_ _ | refine blk_drew ?_ | refine blk_alloc ?_ _)); exact BK340.out) k_ hk⟩))
            (case aO => exact (by (with_reducible repeat apply Kd.R_alloc); exact Kd.R_mono HO343.out (fun _ hk => ⟨hk.1.1.1.2, ⟨hk.1.1.2, ⟨hk.2, hk.1.2⟩⟩⟩)))
            (case aS => exact (below_size (by repeat (first | (with_reducible first | exact HB.out | apply below_alloc | apply pw_below_drewN | apply below_drew1 | refine below_set ?_ GE340.out) | exact HB.out))))
            (case aL => have := LMc4.out; omega)
            intro v345 w23 ho hb hg hat
            rw [← Ny344.out] at ho
            have n0_ := Aside0.mk (Kd.R_after (ok := (fun k_ => some k_ ≠ (.slice Ao16 t335.length co16 : Value).ownBlock ∧ some k_ ≠ (v351 : Value).ownBlock ∧ k_ ≠ gb340)) (by (with_reducible repeat apply Kd.R_alloc); exact Kd.R_mono HO337.out (fun _ hk => ⟨⟨hk.1.1.1, ⟨hk.2, hk.1.1.2⟩⟩, hk.1.2⟩)) hg hat)
            have n1_ := Aside0.mk (Kd.R_after (ok := (fun k_ => some k_ ≠ (.slice Ao15 t334.length co15 : Value).ownBlock ∧ some k_ ≠ (v351 : Value).ownBlock ∧ k_ ≠ gb340)) (by (with_reducible repeat apply Kd.R_alloc); exact Kd.R_mono HO339.out (fun _ hk => ⟨⟨hk.1.1.1, ⟨hk.2, hk.1.1.2⟩⟩, hk.1.2⟩)) hg hat)
            have n2_ := Aside0.mk (blk_grown (g := gb340) (o := .cells #[.int .i64 2, .int .i64 0] 41 (0, 0)) (by (with_reducible repeat (first | refine blk_drewN ?_ _ | refine blk_drew ?_ | refine blk_alloc ?_ _)); exact BK340.out) hg (Kd.R_away HO343.out (fun _ hk => hk.1.2)))
            have n3_ := Aside0.mk (Kd.R_after (ok := (fun k_ => some k_ ≠ (.slice Ao15 t334.length co15 : Value).ownBlock ∧ some k_ ≠ (.slice Ao16 t335.length co16 : Value).ownBlock ∧ k_ ≠ gb340)) (by (with_reducible repeat apply Kd.R_alloc); exact Kd.R_mono HO352.out (fun _ hk => ⟨⟨hk.1.1.1.2, ⟨hk.1.1.2, hk.2⟩⟩, hk.1.2⟩)) hg hat)
            have n4_ := Aside0.mk (hb)
            have n5_ := Aside0.mk (ho)
            clear HO337
            clear HO339
            clear BK340
            clear HO352
            clear HB
            clear HO343
            have HO337 := n0_
            have HO339 := n1_
            have BK340 := n2_
            have HO352 := n3_
            have HB := n4_
            have HO346 := n5_
            clear n0_ n1_ n2_ n3_ n4_ n5_
            clear ho hb hg hat
            refine hK.out _ _ ⟨(blk_cell BK340.out 0).trans rfl, (blk_cell BK340.out 1).trans rfl⟩ (fun hHeld => ?_)
            clear hK K
            refine norm_ (a' := ?_) ?_ ?_
            rotate_left
            ·show Act.put _ (some 21) _ = _
             simp only [Act.put, List.setIfInBounds_toArray, List.set_cons_zero, List.set_cons_succ, i64_w, i32_w]
             rfl
            refine one_ (i := 4) (N := some 23) #[true, true, true, true, true, true, true, true, false, false] rfl rfl (one_of HT_.out (by kernel_rfl)) (by decide) (fun K hK => ?_)
            refine Kd.R_append_rows_step k41 (w0 := w) w.heap.size (by rfl) (.tmp 21) (.tmp 22) 23 41 (.agg #[(.int .i64 0), (.int .i64 0)]) 16 rfl Try.underlying23 info41 rfl (by decide) (by omega) v345 y344 t335 _ _ _ (fun k_ => some k_ ≠ (.slice Ao15 t334.length co15 : Value).ownBlock ∧ some k_ ≠ (.slice Ao16 t335.length co16 : Value).ownBlock ∧ some k_ ≠ (v351 : Value).ownBlock ∧ k_ ≠ gb340) (fun _ => False) rfl rfl ?aO ?aR (fun _ _ h => h) (fun _ h => h.elim) ?aF ?aB ?aS ?aL ?_
            (case aR => repeat (first | exact (Kd.R_reads' HO339.out).2.2 | (with_reducible refine Kd.C_alloc ?_ _) | (with_reducible refine Kd.C_drewN ?_ _) | (with_reducible refine Kd.C_drew ?_)))
            (case aB => exact (by repeat (first | (with_reducible first | exact HB.out | apply below_alloc | apply pw_below_drewN | apply below_drew1 | refine below_set ?_ GE340.out) | exact HB.out)))
            (case aF => exact (fun k_ hk => ⟨Kd.fresh' (Kd.R_lt (by (with_reducible repeat apply Kd.R_alloc); exact HO337.out)) k_ hk, Kd.fresh' (Kd.R_lt (by (with_reducible repeat apply Kd.R_alloc); exact HO339.out)) k_ hk, Kd.fresh' (Kd.R_lt (by (with_reducible repeat apply Kd.R_alloc); exact HO352.out)) k_ hk, Kd.freshB (g := gb340) (o := .cells #[.int .i64 2, .int .i64 0] 41 (0, 0)) (by (with_reducible repeat (first | refine blk_drewN ?_ _ | refine blk_drew ?_ | refine blk_alloc ?_ _)); exact BK340.out) k_ hk⟩))
            (case aO => exact (by (with_reducible repeat apply Kd.R_alloc); exact HO346.out))
            (case aS => exact (below_size (by repeat (first | (with_reducible first | exact HB.out | apply below_alloc | apply pw_below_drewN | apply below_drew1 | refine below_set ?_ GE340.out) | exact HB.out))))
            (case aL => have := LMc5.out; omega)
            intro v348 w24 ho hb hg hat
            rw [← Ny347.out] at ho
            have n0_ := Aside0.mk (Kd.R_after (ok := (fun k_ => some k_ ≠ (.slice Ao16 t335.length co16 : Value).ownBlock ∧ some k_ ≠ (v351 : Value).ownBlock ∧ k_ ≠ gb340)) (by (with_reducible repeat apply Kd.R_alloc); exact HO337.out) hg hat)
            have n1_ := Aside0.mk (Kd.R_after (ok := (fun k_ => some k_ ≠ (.slice Ao15 t334.length co15 : Value).ownBlock ∧ some k_ ≠ (v351 : Value).ownBlock ∧ k_ ≠ gb340)) (by (with_reducible repeat apply Kd.R_alloc); exact HO339.out) hg hat)
            have n2_ := Aside0.mk (blk_grown (g := gb340) (o := .cells #[.int .i64 2, .int .i64 0] 41 (0, 0)) (by (with_reducible repeat (first | refine blk_drewN ?_ _ | refine blk_drew ?_ | refine blk_alloc ?_ _)); exact BK340.out) hg (Kd.R_away HO346.out (fun _ hk => hk.2.2.2)))
            have n3_ := Aside0.mk (Kd.R_after (ok := (fun k_ => some k_ ≠ (.slice Ao15 t334.length co15 : Value).ownBlock ∧ some k_ ≠ (.slice Ao16 t335.length co16 : Value).ownBlock ∧ k_ ≠ gb340)) (by (with_reducible repeat apply Kd.R_alloc); exact HO352.out) hg hat)
            have n4_ := Aside0.mk (hb)
            have n5_ := Aside0.mk (ho)
            clear HO337
            clear HO339
            clear BK340
            clear HO352
            clear HB
            clear HO346
            have HO337 := n0_
            have HO339 := n1_
            have BK340 := n2_
            have HO352 := n3_
            have HB := n4_
            have HO349 := n5_
            clear n0_ n1_ n2_ n3_ n4_ n5_
            clear ho hb hg hat
            refine hK.out _ _ ⟨(blk_cell BK340.out 0).trans rfl, (blk_cell BK340.out 1).trans rfl⟩ (fun hHeld => ?_)
            clear hK K
            refine norm_ (a' := ?_) ?_ ?_
            rotate_left
            ·show Act.put _ (some 23) _ = _
             simp only [Act.put, List.setIfInBounds_toArray, List.set_cons_zero, List.set_cons_succ, i64_w, i32_w]
             rfl
            exact norm_ (by simp only [putAll, Act.put, List.setIfInBounds_toArray, List.set_cons_zero, List.set_cons_succ]) (hCont (v342, v345, v348, v351) _ ⟨hHeld, (by (with_reducible repeat apply Kd.R_alloc); exact Kd.R_mono HO337.out (fun _ hk => ⟨hk.1.1, ⟨hk.2, ⟨hk.1.2.1, hk.1.2.2⟩⟩⟩)), (by (with_reducible repeat apply Kd.R_alloc); exact Kd.R_mono HO339.out (fun _ hk => ⟨hk.1.1, ⟨hk.2, ⟨hk.1.2.1, hk.1.2.2⟩⟩⟩)), (by (with_reducible repeat apply Kd.R_alloc); exact HO349.out), (by (with_reducible repeat apply Kd.R_alloc); exact Kd.R_mono HO352.out (fun _ hk => ⟨hk.1.1, ⟨hk.1.2.1, ⟨hk.2, hk.1.2.2⟩⟩⟩)), (by (with_reducible repeat (first | refine blk_drewN ?_ _ | refine blk_drew ?_ | refine blk_alloc ?_ _)); exact BK340.out), (by repeat (first | (with_reducible first | exact HB.out | apply below_alloc | apply pw_below_drewN | apply below_drew1 | refine below_set ?_ GE340.out) | exact HB.out))⟩)
          ·skip
           refine Kd.R_lit_step k41 _ 41 ?hg (N := 26) ?hd (xs := ([(⟨4, 0⟩ : S41), (⟨2, 0⟩ : S41)] : List (S41))) (inner := [.int .i64 4, .int .i64 0, .int .i64 2, .int .i64 0]) (ok := fun _ => True) (okp := fun _ => True) ?hr ?hp (fun _ hk => hk) trivial (Below.refl _ _) (Nat.le_refl _) (by simp) ?_; (case hd => rfl); (case hg => rfl); (case hr => first | (go_simp; done) | (go_simp; rfl)); (case hp => exact (Reps.c2 (show Kd.M k41 _ _ _ (⟨4, 0⟩ : S41) [.int .i64 4, .int .i64 0] from (k41_mkM _ _ _ (⟨4, 0⟩ : S41) )) (Reps.c2 (show Kd.M k41 _ _ _ (⟨2, 0⟩ : S41) [.int .i64 2, .int .i64 0] from (k41_mkM _ _ _ (⟨2, 0⟩ : S41) )) (Reps.none _ _))))
           intro v351 w19 ho20 hb hg_ hnew_
           clear hg_ hnew_
           (first | rw [← Ny350.out] at ho20 | (simp only [Int.reduceToNat] at ho20; rw [← Ny350.out] at ho20))
           have n0_ := Aside0.mk (Kd.R_elder' (by (with_reducible repeat apply Kd.R_alloc); exact HO337.out) (Kd.R_base ho20) hb)
           have n1_ := Aside0.mk (Kd.R_elder' (by (with_reducible repeat apply Kd.R_alloc); exact HO339.out) (Kd.R_base ho20) hb)
           have n2_ := Aside0.mk (Kd.R_lower (Kd.R_newB (Kd.R_new' (Kd.R_new' ho20 (Kd.R_lt (by (with_reducible repeat apply Kd.R_alloc); exact HO337.out))) (Kd.R_lt (by (with_reducible repeat apply Kd.R_alloc); exact HO339.out))) (g := gb340) (o := .cells #[.int .i64 2, .int .i64 0] 41 (0, 0)) (by (with_reducible repeat (first | refine blk_drewN ?_ _ | refine blk_drew ?_ | refine blk_alloc ?_ _)); exact BK340.out)) (below_size (by repeat (first | (with_reducible first | exact HB.out | apply below_alloc | apply pw_below_drewN | apply below_drew1 | refine below_set ?_ GE340.out) | exact HB.out))))
           have n3_ := Aside0.mk (blk_below (g := gb340) (o := .cells #[.int .i64 2, .int .i64 0] 41 (0, 0)) (by (with_reducible repeat (first | refine blk_drewN ?_ _ | refine blk_drew ?_ | refine blk_alloc ?_ _)); exact BK340.out) hb)
           have n4_ := Aside0.mk (below_step (by repeat (first | (with_reducible first | exact HB.out | apply below_alloc | apply pw_below_drewN | apply below_drew1 | refine below_set ?_ GE340.out) | exact HB.out)) hb)
           clear HO337
           clear HO339
           clear BK340
           clear HB
           have HO337 := n0_
           have HO339 := n1_
           have HO352 := n2_
           have BK340 := n3_
           have HB := n4_
           clear n0_ n1_ n2_ n3_ n4_
           clear hb ho20
           refine hK.out _ _ ⟨(blk_cell BK340.out 0).trans rfl, (blk_cell BK340.out 1).trans rfl⟩ (fun hHeld => ?_)
           clear hK K
           refine norm_ (a' := ?_) ?_ ?_
           rotate_left
           ·show Act.put _ (some 26) _ = _
            simp only [Act.put, List.setIfInBounds_toArray, List.set_cons_zero, List.set_cons_succ, i64_w, i32_w]
            rfl
           refine one_ (i := 0) (N := some 19) #[true, true, false, true, false, true, true, true, false, false] rfl rfl (one_of HT_.out (by kernel_rfl)) (by decide) (fun K hK => ?_)
           refine Kd.R_lit_step k41 _ 41 ?hg (N := 19) ?hd (xs := ([] : List (S41))) (inner := []) (ok := fun _ => True) (okp := fun _ => True) ?hr ?hp (fun _ hk => hk) trivial (Below.refl _ _) (Nat.le_refl _) (by simp) ?_; (case hd => rfl); (case hg => rfl); (case hr => first | (go_simp; done) | (go_simp; rfl)); (case hp => exact (Reps.none _ _))
           intro v342 w21 ho22 hb hg_ hnew_
           clear hg_ hnew_
           (first | rw [← Ny341.out] at ho22 | (simp only [Int.reduceToNat] at ho22; rw [← Ny341.out] at ho22))
           have n0_ := Aside0.mk (Kd.R_elder' (by (with_reducible repeat apply Kd.R_alloc); exact HO337.out) (Kd.R_base ho22) hb)
           have n1_ := Aside0.mk (Kd.R_elder' (by (with_reducible repeat apply Kd.R_alloc); exact HO339.out) (Kd.R_base ho22) hb)
           have n2_ := Aside0.mk (Kd.R_elder' (by (with_reducible repeat apply Kd.R_alloc); exact HO352.out) (Kd.R_base ho22) hb)
           have n3_ := Aside0.mk (Kd.R_lower (Kd.R_newB (Kd.R_new' (Kd.R_new' (Kd.R_new' ho22 (Kd.R_lt (by (with_reducible repeat apply Kd.R_alloc); exact HO337.out))) (Kd.R_lt (by (with_reducible repeat apply Kd.R_alloc); exact HO339.out))) (Kd.R_lt (by (with_reducible repeat apply Kd.R_alloc); exact HO352.out))) (g := gb340) (o := .cells #[.int .i64 2, .int .i64 0] 41 (0, 0)) (by (with_reducible repeat (first | refine blk_drewN ?_ _ | refine blk_drew ?_ | refine blk_alloc ?_ _)); exact BK340.out)) (below_size (by repeat (first | (with_reducible first | exact HB.out | apply below_alloc | apply pw_below_drewN | apply below_drew1 | refine below_set ?_ GE340.out) | exact HB.out))))
           have n4_ := Aside0.mk (blk_below (g := gb340) (o := .cells #[.int .i64 2, .int .i64 0] 41 (0, 0)) (by (with_reducible repeat (first | refine blk_drewN ?_ _ | refine blk_drew ?_ | refine blk_alloc ?_ _)); exact BK340.out) hb)
           have n5_ := Aside0.mk (below_step (by repeat (first | (with_reducible first | exact HB.out | apply below_alloc | apply pw_below_drewN | apply below_drew1 | refine below_set ?_ GE340.out) | exact HB.out)) hb)
           clear HO337
           clear HO339
           clear HO352
           clear BK340
           clear HB
           have HO337 := n0_
           have HO339 := n1_
           have HO352 := n2_
           have HO343 := n3_
           have BK340 := n4_
           have HB := n5_
           clear n0_ n1_ n2_ n3_ n4_ n5_
           clear hb ho22
           refine hK.out _ _ ⟨(blk_cell BK340.out 0).trans rfl, (blk_cell BK340.out 1).trans rfl⟩ (fun hHeld => ?_)
           clear hK K
           refine norm_ (a' := ?_) ?_ ?_
           rotate_left
           ·show Act.put _ (some 19) _ = _
            simp only [Act.put, List.setIfInBounds_toArray, List.set_cons_zero, List.set_cons_succ, i64_w, i32_w]
            rfl
           refine one_ (i := 2) (N := some 21) #[true, true, true, true, false, true, true, true, false, false] rfl rfl (one_of HT_.out (by kernel_rfl)) (by decide) (fun K hK => ?_)
           refine Kd.R_append_rows_step k41 (w0 := w) w.heap.size (by rfl) (.tmp 19) (.tmp 20) 23 41 (.agg #[(.int .i64 0), (.int .i64 0)]) 16 rfl Try.underlying23 info41 rfl (by decide) (by omega) v342 y341 t334 _ _ _ (fun k_ => some k_ ≠ (.slice Ao15 t334.length co15 : Value).ownBlock ∧ some k_ ≠ (.slice Ao16 t335.length co16 : Value).ownBlock ∧ some k_ ≠ (v351 : Value).ownBlock ∧ k_ ≠ gb340) (fun _ => False) rfl rfl ?aO ?aR (fun _ _ h => h) (fun _ h => h.elim) ?aF ?aB ?aS ?aL ?_
           (case aR => repeat (first | exact (Kd.R_reads' HO337.out).2.2 | (with_reducible refine Kd.C_alloc ?_ _) | (with_reducible refine Kd.C_drewN ?_ _) | (with_reducible refine Kd.C_drew ?_)))
           (case aB => exact (by repeat (first | (with_reducible first | exact HB.out | apply below_alloc | apply pw_below_drewN | apply below_drew1 | refine below_set ?_ GE340.out) | exact HB.out)))
           (case aF => exact (fun k_ hk => ⟨Kd.fresh' (Kd.R_lt (by (with_reducible repeat apply Kd.R_alloc); exact HO337.out)) k_ hk, Kd.fresh' (Kd.R_lt (by (with_reducible repeat apply Kd.R_alloc); exact HO339.out)) k_ hk, Kd.fresh' (Kd.R_lt (by (with_reducible repeat apply Kd.R_alloc); exact HO352.out)) k_ hk, Kd.freshB (g := gb340) (o := .cells #[.int .i64 2, .int .i64 0] 41 (0, 0)) (by (with_reducible repeat (first | refine blk_drewN ?_ _ | refine blk_drew ?_ | refine blk_alloc ?_ _)); exact BK340.out) k_ hk⟩))
           (case aO => exact (by (with_reducible repeat apply Kd.R_alloc); exact Kd.R_mono HO343.out (fun _ hk => ⟨hk.1.1.1.2, ⟨hk.1.1.2, ⟨hk.1.2, hk.2⟩⟩⟩)))
           (case aS => exact (below_size (by repeat (first | (with_reducible first | exact HB.out | apply below_alloc | apply pw_below_drewN | apply below_drew1 | refine below_set ?_ GE340.out) | exact HB.out))))
           (case aL => have := LMc4.out; omega)
           intro v345 w23 ho hb hg hat
           rw [← Ny344.out] at ho
           have n0_ := Aside0.mk (Kd.R_after (ok := (fun k_ => some k_ ≠ (.slice Ao16 t335.length co16 : Value).ownBlock ∧ some k_ ≠ (v351 : Value).ownBlock ∧ k_ ≠ gb340)) (by (with_reducible repeat apply Kd.R_alloc); exact Kd.R_mono HO337.out (fun _ hk => ⟨⟨hk.1.1.1, ⟨hk.1.2, hk.1.1.2⟩⟩, hk.2⟩)) hg hat)
           have n1_ := Aside0.mk (Kd.R_after (ok := (fun k_ => some k_ ≠ (.slice Ao15 t334.length co15 : Value).ownBlock ∧ some k_ ≠ (v351 : Value).ownBlock ∧ k_ ≠ gb340)) (by (with_reducible repeat apply Kd.R_alloc); exact Kd.R_mono HO339.out (fun _ hk => ⟨⟨hk.1.1.1, ⟨hk.1.2, hk.1.1.2⟩⟩, hk.2⟩)) hg hat)
           have n2_ := Aside0.mk (blk_grown (g := gb340) (o := .cells #[.int .i64 2, .int .i64 0] 41 (0, 0)) (by (with_reducible repeat (first | refine blk_drewN ?_ _ | refine blk_drew ?_ | refine blk_alloc ?_ _)); exact BK340.out) hg (Kd.R_away HO343.out (fun _ hk => hk.2)))
           have n3_ := Aside0.mk (Kd.R_after (ok := (fun k_ => some k_ ≠ (.slice Ao15 t334.length co15 : Value).ownBlock ∧ some k_ ≠ (.slice Ao16 t335.length co16 : Value).ownBlock ∧ k_ ≠ gb340)) (by (with_reducible repeat apply Kd.R_alloc); exact Kd.R_mono HO352.out (fun _ hk => ⟨⟨hk.1.1.1.2, ⟨hk.1.1.2, hk.1.2⟩⟩, hk.2⟩)) hg hat)
           have n4_ := Aside0.mk (hb)
           have n5_ := Aside0.mk (ho)
           clear HO337
           clear HO339
           clear BK340
           clear HO352
           clear HB
           clear HO343
           have HO337 := n0_
           have HO339 := n1_
           have BK340 := n2_
           have HO352 := n3_
           have HB := n4_
           have HO346 := n5_
           clear n0_ n1_ n2_ n3_ n4_ n5_
           clear ho hb hg hat
           refine hK.out _ _ ⟨(blk_cell BK340.out 0).trans rfl, (blk_cell BK340.out 1).trans rfl⟩ (fun hHeld => ?_)
           clear hK K
           refine norm_ (a' := ?_) ?_ ?_
           rotate_left
           ·show Act.put _ (some 21) _ = _
            simp only [Act.put, List.setIfInBounds_toArray, List.set_cons_zero, List.set_cons_succ, i64_w, i32_w]
            rfl
           refine one_ (i := 4) (N := some 23) #[true, true, true, true, true, true, true, true, false, false] rfl rfl (one_of HT_.out (by kernel_rfl)) (by decide) (fun K hK => ?_)
           refine Kd.R_append_rows_step k41 (w0 := w) w.heap.size (by rfl) (.tmp 21) (.tmp 22) 23 41 (.agg #[(.int .i64 0), (.int .i64 0)]) 16 rfl Try.underlying23 info41 rfl (by decide) (by omega) v345 y344 t335 _ _ _ (fun k_ => some k_ ≠ (.slice Ao15 t334.length co15 : Value).ownBlock ∧ some k_ ≠ (.slice Ao16 t335.length co16 : Value).ownBlock ∧ some k_ ≠ (v351 : Value).ownBlock ∧ k_ ≠ gb340) (fun _ => False) rfl rfl ?aO ?aR (fun _ _ h => h) (fun _ h => h.elim) ?aF ?aB ?aS ?aL ?_
           (case aR => repeat (first | exact (Kd.R_reads' HO339.out).2.2 | (with_reducible refine Kd.C_alloc ?_ _) | (with_reducible refine Kd.C_drewN ?_ _) | (with_reducible refine Kd.C_drew ?_)))
           (case aB => exact (by repeat (first | (with_reducible first | exact HB.out | apply below_alloc | apply pw_below_drewN | apply below_drew1 | refine below_set ?_ GE340.out) | exact HB.out)))
           (case aF => exact (fun k_ hk => ⟨Kd.fresh' (Kd.R_lt (by (with_reducible repeat apply Kd.R_alloc); exact HO337.out)) k_ hk, Kd.fresh' (Kd.R_lt (by (with_reducible repeat apply Kd.R_alloc); exact HO339.out)) k_ hk, Kd.fresh' (Kd.R_lt (by (with_reducible repeat apply Kd.R_alloc); exact HO352.out)) k_ hk, Kd.freshB (g := gb340) (o := .cells #[.int .i64 2, .int .i64 0] 41 (0, 0)) (by (with_reducible repeat (first | refine blk_drewN ?_ _ | refine blk_drew ?_ | refine blk_alloc ?_ _)); exact BK340.out) k_ hk⟩))
           (case aO => exact (by (with_reducible repeat apply Kd.R_alloc); exact HO346.out))
           (case aS => exact (below_size (by repeat (first | (with_reducible first | exact HB.out | apply below_alloc | apply pw_below_drewN | apply below_drew1 | refine below_set ?_ GE340.out) | exact HB.out))))
           (case aL => have := LMc5.out; omega)
           intro v348 w24 ho hb hg hat
           rw [← Ny347.out] at ho
           have n0_ := Aside0.mk (Kd.R_after (ok := (fun k_ => some k_ ≠ (.slice Ao16 t335.length co16 : Value).ownBlock ∧ some k_ ≠ (v351 : Value).ownBlock ∧ k_ ≠ gb340)) (by (with_reducible repeat apply Kd.R_alloc); exact HO337.out) hg hat)
           have n1_ := Aside0.mk (Kd.R_after (ok := (fun k_ => some k_ ≠ (.slice Ao15 t334.length co15 : Value).ownBlock ∧ some k_ ≠ (v351 : Value).ownBlock ∧ k_ ≠ gb340)) (by (with_reducible repeat apply Kd.R_alloc); exact HO339.out) hg hat)
           have n2_ := Aside0.mk (blk_grown (g := gb340) (o := .cells #[.int .i64 2, .int .i64 0] 41 (0, 0)) (by (with_reducible repeat (first | refine blk_drewN ?_ _ | refine blk_drew ?_ | refine blk_alloc ?_ _)); exact BK340.out) hg (Kd.R_away HO346.out (fun _ hk => hk.2.2.2)))
           have n3_ := Aside0.mk (Kd.R_after (ok := (fun k_ => some k_ ≠ (.slice Ao15 t334.length co15 : Value).ownBlock ∧ some k_ ≠ (.slice Ao16 t335.length co16 : Value).ownBlock ∧ k_ ≠ gb340)) (by (with_reducible repeat apply Kd.R_alloc); exact HO352.out) hg hat)
           have n4_ := Aside0.mk (hb)
           have n5_ := Aside0.mk (ho)
           clear HO337
           clear HO339
           clear BK340
           clear HO352
           clear HB
           clear HO346
           have HO337 := n0_
           have HO339 := n1_
           have BK340 := n2_
           have HO352 := n3_
           have HB := n4_
           have HO349 := n5_
           clear n0_ n1_ n2_ n3_ n4_ n5_
           clear ho hb hg hat
           refine hK.out _ _ ⟨(blk_cell BK340.out 0).trans rfl, (blk_cell BK340.out 1).trans rfl⟩ (fun hHeld => ?_)
           clear hK K
           refine norm_ (a' := ?_) ?_ ?_
           rotate_left
           ·show Act.put _ (some 23) _ = _
            simp only [Act.put, List.setIfInBounds_toArray, List.set_cons_zero, List.set_cons_succ, i64_w, i32_w]
            rfl
           exact norm_ (by simp only [putAll, Act.put, List.setIfInBounds_toArray, List.set_cons_zero, List.set_cons_succ]) (hCont (v342, v345, v348, v351) _ ⟨hHeld, (by (with_reducible repeat apply Kd.R_alloc); exact Kd.R_mono HO337.out (fun _ hk => ⟨hk.1.1, ⟨hk.2, ⟨hk.1.2.1, hk.1.2.2⟩⟩⟩)), (by (with_reducible repeat apply Kd.R_alloc); exact Kd.R_mono HO339.out (fun _ hk => ⟨hk.1.1, ⟨hk.2, ⟨hk.1.2.1, hk.1.2.2⟩⟩⟩)), (by (with_reducible repeat apply Kd.R_alloc); exact HO349.out), (by (with_reducible repeat apply Kd.R_alloc); exact Kd.R_mono HO352.out (fun _ hk => ⟨hk.1.1, ⟨hk.1.2.1, ⟨hk.2, hk.1.2.2⟩⟩⟩)), (by (with_reducible repeat (first | refine blk_drewN ?_ _ | refine blk_drew ?_ | refine blk_alloc ?_ _)); exact BK340.out), (by repeat (first | (with_reducible first | exact HB.out | apply below_alloc | apply pw_below_drewN | apply below_drew1 | refine below_set ?_ GE340.out) | exact HB.out))⟩)
         rintro ⟨v342, v345, v348, v351⟩ w25 ⟨hS_, h0_, h1_, h2_, h3_, h4_, h5_⟩
         have n0_ : Aside0 (Kd.R k41 41 w25 w.heap.size (fun k_ => some k_ ≠ (.slice Ao16 t335.length co16 : Value).ownBlock ∧ some k_ ≠ (v348 : Value).ownBlock ∧ some k_ ≠ (v351 : Value).ownBlock ∧ k_ ≠ gb340) (.slice Ao15 t334.length co15) t334) := ⟨h0_⟩
         have n1_ : Aside0 (Kd.R k41 41 w25 w.heap.size (fun k_ => some k_ ≠ (.slice Ao15 t334.length co15 : Value).ownBlock ∧ some k_ ≠ (v348 : Value).ownBlock ∧ some k_ ≠ (v351 : Value).ownBlock ∧ k_ ≠ gb340) (.slice Ao16 t335.length co16) t335) := ⟨h1_⟩
         have n2_ : Aside0 (Kd.R k41 41 w25 w.heap.size (fun k_ => some k_ ≠ (.slice Ao15 t334.length co15 : Value).ownBlock ∧ some k_ ≠ (.slice Ao16 t335.length co16 : Value).ownBlock ∧ some k_ ≠ (v351 : Value).ownBlock ∧ k_ ≠ gb340) v348 y347) := ⟨h2_⟩
         have n3_ : Aside0 (Kd.R k41 41 w25 w.heap.size (fun k_ => some k_ ≠ (.slice Ao15 t334.length co15 : Value).ownBlock ∧ some k_ ≠ (.slice Ao16 t335.length co16 : Value).ownBlock ∧ some k_ ≠ (v348 : Value).ownBlock ∧ k_ ≠ gb340) v351 y350) := ⟨h3_⟩
         have n4_ : Aside0 (w25.heap[gb340]? = some (.cells #[.int .i64 2, .int .i64 0] 41 (0, 0))) := ⟨h4_⟩
         have n5_ : Aside0 (Below w.heap.size w w25) := ⟨h5_⟩
         clear HO337
         clear HO339
         clear BK340
         clear HB
         clear h0_ h1_ h2_ h3_ h4_ h5_
         have HO337 := n0_
         have HO339 := n1_
         have HO349 := n2_
         have HO352 := n3_
         have BK340 := n4_
         have HB := n5_
         clear n0_ n1_ n2_ n3_ n4_ n5_
         have hHeld : w25.cell? ⟨gb340, 0, none⟩ = some (.int .i64 2) ∧ w25.cell? ⟨gb340, 1, none⟩ = some (.int .i64 0) := hS_
         obtain ⟨Ao27, co27, eo27⟩ := Kd.R_slice HO352.out
         (first | subst eo27 | (injection eo27 with f1_ f2_ f3_; have f4_ := f1_.symm; have f5_ := f3_.symm; clear f1_ f2_ f3_; subst f4_; subst f5_))
         refine norm_ (a' := ?_) ?_ ?_
         rotate_left
         ·simp only [putAll, Act.put, List.setIfInBounds_toArray, List.set_cons_zero, List.set_cons_succ]
          rfl
         refine one_ (i := 8) (N := some 27) #[true, true, true, true, true, true, true, true, true, false] rfl rfl (one_of HT_.out (by kernel_rfl)) (by decide) (fun K hK => ?_)
         refine Kd.R_append_rows_step k41 (w0 := w) w.heap.size (by rfl) (.tmp 23) (.tmp 26) 23 41 (.agg #[(.int .i64 0), (.int .i64 0)]) 16 rfl Try.underlying23 info41 rfl (by decide) (by omega) v348 y347 y350 _ _ _ (fun k_ => some k_ ≠ (.slice Ao15 t334.length co15 : Value).ownBlock ∧ some k_ ≠ (.slice Ao16 t335.length co16 : Value).ownBlock ∧ some k_ ≠ (.slice Ao27 y350.length co27 : Value).ownBlock ∧ k_ ≠ gb340) (fun _ => False) rfl rfl ?aO ?aR (fun _ _ h => h) (fun _ h => h.elim) ?aF ?aB ?aS ?aL ?_
         (case aR => repeat (first | exact (Kd.R_reads' HO352.out).2.2 | (with_reducible refine Kd.C_alloc ?_ _) | (with_reducible refine Kd.C_drewN ?_ _) | (with_reducible refine Kd.C_drew ?_)))
         (case aB => exact (by repeat (first | (with_reducible first | exact HB.out | apply below_alloc | apply pw_below_drewN | apply below_drew1 | refine below_set ?_ GE340.out) | exact HB.out)))
         (case aF => exact (fun k_ hk => ⟨Kd.fresh' (Kd.R_lt (by (with_reducible repeat apply Kd.R_alloc); exact HO337.out)) k_ hk, Kd.fresh' (Kd.R_lt (by (with_reducible repeat apply Kd.R_alloc); exact HO339.out)) k_ hk, Kd.fresh' (Kd.R_lt (by (with_reducible repeat apply Kd.R_alloc); exact HO352.out)) k_ hk, Kd.freshB (g := gb340) (o := .cells #[.int .i64 2, .int .i64 0] 41 (0, 0)) (by (with_reducible repeat (first | refine blk_drewN ?_ _ | refine blk_drew ?_ | refine blk_alloc ?_ _)); exact BK340.out) k_ hk⟩))
         (case aO => exact (by (with_reducible repeat apply Kd.R_alloc); exact HO349.out))
         (case aS => exact (below_size (by repeat (first | (with_reducible first | exact HB.out | apply below_alloc | apply pw_below_drewN | apply below_drew1 | refine below_set ?_ GE340.out) | exact HB.out))))
         (case aL => have := LMc6.out; omega)
         intro v354 w26 ho hb hg hat
         rw [← Ny353.out] at ho
         have n0_ := Aside0.mk (Kd.R_after (ok := (fun k_ => some k_ ≠ (.slice Ao16 t335.length co16 : Value).ownBlock ∧ some k_ ≠ (.slice Ao27 y350.length co27 : Value).ownBlock ∧ k_ ≠ gb340)) (by (with_reducible repeat apply Kd.R_alloc); exact Kd.R_mono HO337.out (fun _ hk => ⟨⟨hk.1, ⟨hk.2.2.1, hk.2.2.2⟩⟩, hk.2.1⟩)) hg hat)
         have n1_ := Aside0.mk (Kd.R_after (ok := (fun k_ => some k_ ≠ (.slice Ao15 t334.length co15 : Value).ownBlock ∧ some k_ ≠ (.slice Ao27 y350.length co27 : Value).ownBlock ∧ k_ ≠ gb340)) (by (with_reducible repeat apply Kd.R_alloc); exact Kd.R_mono HO339.out (fun _ hk => ⟨⟨hk.1, ⟨hk.2.2.1, hk.2.2.2⟩⟩, hk.2.1⟩)) hg hat)
         have n2_ := Aside0.mk (blk_grown (g := gb340) (o := .cells #[.int .i64 2, .int .i64 0] 41 (0, 0)) (by (with_reducible repeat (first | refine blk_drewN ?_ _ | refine blk_drew ?_ | refine blk_alloc ?_ _)); exact BK340.out) hg (Kd.R_away HO349.out (fun _ hk => hk.2.2.2)))
         have n3_ := Aside0.mk (Kd.R_after (ok := (fun k_ => some k_ ≠ (.slice Ao15 t334.length co15 : Value).ownBlock ∧ some k_ ≠ (.slice Ao16 t335.length co16 : Value).ownBlock ∧ k_ ≠ gb340)) (by (with_reducible repeat apply Kd.R_alloc); exact Kd.R_mono HO352.out (fun _ hk => ⟨⟨hk.1, ⟨hk.2.1, hk.2.2.2⟩⟩, hk.2.2.1⟩)) hg hat)
         have n4_ := Aside0.mk (hb)
         have n5_ := Aside0.mk (ho)
         clear HO337
         clear HO339
         clear BK340
         clear HO352
         clear HB
         clear HO349
         have HO337 := n0_
         have HO339 := n1_
         have BK340 := n2_
         have HO352 := n3_
         have HB := n4_
         have HO355 := n5_
         clear n0_ n1_ n2_ n3_ n4_ n5_
         clear ho hb hg hat
         refine hK.out _ _ ⟨(blk_cell BK340.out 0).trans rfl, (blk_cell BK340.out 1).trans rfl⟩ (fun hHeld => ?_)
         clear hK K
         refine norm_ (a' := ?_) ?_ ?_
         rotate_left
         ·show Act.put _ (some 27) _ = _
          simp only [Act.put, List.setIfInBounds_toArray, List.set_cons_zero, List.set_cons_succ, i64_w, i32_w]
          rfl
         refine pure_ (i := 9) (N := some 7) (v := ?_) (a' := ?_) #[true, true, true, true, true, true, true, true, true, true] rfl rfl (any_of HT_.out (by kernel_rfl)) (fun _ _ _ h => h) (Or.inl ⟨by rfl, ?_⟩) ?_ ?_
         rotate_left
         ·intro w'
          go_simp
          with_reducible rfl
         rotate_left
         ·simp only [Act.put, List.setIfInBounds_toArray, List.set_cons_zero, List.set_cons_succ, i64_w, i32_w]
          rfl
         refine done_ (done_of HT_.out (by kernel_rfl)) ?_
         try go_wp2
         have n0_ := Aside0.mk (Kd.R_drew HO337.out)
         have n1_ := Aside0.mk (Kd.R_drew HO339.out)
         have n2_ := Aside0.mk (Kd.R_drew HO352.out)
         have n3_ := Aside0.mk (Kd.R_drew HO355.out)
         have n4_ := Aside0.mk (blk_drew BK340.out)
         have n5_ := Aside0.mk (below_drew1 HB.out)
         clear HO337
         clear HO339
         clear HO352
         clear HO355
         clear BK340
         clear HB
         have HO337 := n0_
         have HO339 := n1_
         have HO352 := n2_
         have HO355 := n3_
         have BK340 := n4_
         have HB := n5_
         clear n0_ n1_ n2_ n3_ n4_ n5_
         refine start_ (n := 7) (S := fun w' => w'.cell? ⟨gb340, 0, none⟩ = some (.int .i64 2) ∧ w'.cell? ⟨gb340, 1, none⟩ = some (.int .i64 0)) (ds := []) #[false, false, false, false, false, false, false] (by kernel_rfl) rfl rfl ⟨(blk_cell BK340.out 0).trans rfl, (blk_cell BK340.out 1).trans rfl⟩ (fun hHeld => ?_)
         generalize w26.drew = w28 at HO337 HO339 HO352 HO355 BK340 HB hHeld ⊢
         refine pure_ (i := 1) (N := some 29) (v := ?_) (a' := ?_) #[false, true, false, false, false, false, false] rfl rfl (by kernel_rfl) (fun _ _ _ h => h) (Or.inl ⟨by rfl, ?_⟩) ?_ ?_
         rotate_left
         ·intro w'
          go_simp
          with_reducible rfl
         rotate_left
         ·simp only [Act.put, List.setIfInBounds_toArray, List.set_cons_zero, List.set_cons_succ, i64_w, i32_w]
          rfl
         refine take_ (i := 3) (N := some 31) (v := ?_) (a' := ?_) #[false, true, false, true, false, false, false] rfl rfl (by kernel_rfl) (fun _ _ _ h => h) (Or.inl ⟨by rfl, ?_⟩) hHeld ?_ ?_
         rotate_left
         ·rintro w' ⟨s0, s1⟩
          go_simp
          with_reducible rfl
         rotate_left
         ·simp only [Act.put, List.setIfInBounds_toArray, List.set_cons_zero, List.set_cons_succ, i64_w, i32_w]
          rfl
         refine join_ (σ := Value × Value × Value) 2 #[true, true, true, true, true, false, false] (fun s_ => [(28, s_.1), (30, s_.2.1), (32, s_.2.2)]) (fun s_ w' => (w'.cell? ⟨gb340, 0, none⟩ = some (.int .i64 2) ∧ w'.cell? ⟨gb340, 1, none⟩ = some (.int .i64 0)) ∧ (Kd.R k41 41 w' w.heap.size (fun k_ => some k_ ≠ (.slice Ao16 t335.length co16 : Value).ownBlock ∧ some k_ ≠ (.slice Ao27 y350.length co27 : Value).ownBlock ∧ some k_ ≠ (v354 : Value).ownBlock ∧ some k_ ≠ (s_.2.1 : Value).ownBlock ∧ some k_ ≠ (s_.2.2 : Value).ownBlock ∧ k_ ≠ gb340) (.slice Ao15 t334.length co15) t334) ∧ (Kd.R k41 41 w' w.heap.size (fun k_ => some k_ ≠ (.slice Ao15 t334.length co15 : Value).ownBlock ∧ some k_ ≠ (.slice Ao27 y350.length co27 : Value).ownBlock ∧ some k_ ≠ (v354 : Value).ownBlock ∧ some k_ ≠ (s_.2.1 : Value).ownBlock ∧ some k_ ≠ (s_.2.2 : Value).ownBlock ∧ k_ ≠ gb340) (.slice Ao16 t335.length co16) t335) ∧ (Kd.R k41 41 w' w.heap.size (fun k_ => some k_ ≠ (.slice Ao15 t334.length co15 : Value).ownBlock ∧ some k_ ≠ (.slice Ao16 t335.length co16 : Value).ownBlock ∧ some k_ ≠ (v354 : Value).ownBlock ∧ some k_ ≠ (s_.2.1 : Value).ownBlock ∧ some k_ ≠ (s_.2.2 : Value).ownBlock ∧ k_ ≠ gb340) (.slice Ao27 y350.length co27) y350) ∧ (Kd.R k41 41 w' w.heap.size (fun k_ => some k_ ≠ (.slice Ao15 t334.length co15 : Value).ownBlock ∧ some k_ ≠ (.slice Ao16 t335.length co16 : Value).ownBlock ∧ some k_ ≠ (.slice Ao27 y350.length co27 : Value).ownBlock ∧ some k_ ≠ (s_.2.1 : Value).ownBlock ∧ some k_ ≠ (s_.2.2 : Value).ownBlock ∧ k_ ≠ gb340) v354 y353) ∧ (Kd.R k41 41 w' w.heap.size (fun k_ => some k_ ≠ (.slice Ao15 t334.length co15 : Value).ownBlock ∧ some k_ ≠ (.slice Ao16 t335.length co16 : Value).ownBlock ∧ some k_ ≠ (.slice Ao27 y350.length co27 : Value).ownBlock ∧ some k_ ≠ (v354 : Value).ownBlock ∧ some k_ ≠ (s_.2.2 : Value).ownBlock ∧ k_ ≠ gb340) s_.2.1 y359) ∧ (Kd.R k41 41 w' w.heap.size (fun k_ => some k_ ≠ (.slice Ao15 t334.length co15 : Value).ownBlock ∧ some k_ ≠ (.slice Ao16 t335.length co16 : Value).ownBlock ∧ some k_ ≠ (.slice Ao27 y350.length co27 : Value).ownBlock ∧ some k_ ≠ (v354 : Value).ownBlock ∧ some k_ ≠ (s_.2.1 : Value).ownBlock ∧ k_ ≠ gb340) s_.2.2 y362) ∧ (w'.heap[gb340]? = some (.cells #[.int .i64 2, .int .i64 0] 41 (0, 0))) ∧ (Below w.heap.size w w')) ?_ ?_
         rotate_left
         ·intro hCont
          refine two_ (i := 0) (j := 4) (Ni := some 28) (Nj := some 32) #[true, true, false, true, false, false, false] #[false, true, false, true, true, false, false] rfl rfl rfl rfl (by kernel_rfl) (by decide) (by decide) (fun K hK => ?_) (fun K hK => ?_)
          ·skip
           refine Kd.R_lit_step k41 _ 41 ?hg (N := 28) ?hd (xs := ([] : List (S41))) (inner := []) (ok := fun _ => True) (okp := fun _ => True) ?hr ?hp (fun _ hk => hk) trivial (Below.refl _ _) (Nat.le_refl _) (by simp) ?_; (case hd => rfl); (case hg => rfl); (case hr => first | (go_simp; done) | (go_simp; rfl)); (case hp => exact (Reps.none _ _))
           intro v357 w29 ho30 hb hg_ hnew_
           clear hg_ hnew_
           (first | rw [← Ny356.out] at ho30 | (simp only [Int.reduceToNat] at ho30; rw [← Ny356.out] at ho30))
           have n0_ := Aside0.mk (Kd.R_elder' (by (with_reducible repeat apply Kd.R_alloc); exact HO337.out) (Kd.R_base ho30) hb)
           have n1_ := Aside0.mk (Kd.R_elder' (by (with_reducible repeat apply Kd.R_alloc); exact HO339.out) (Kd.R_base ho30) hb)
           have n2_ := Aside0.mk (Kd.R_elder' (by (with_reducible repeat apply Kd.R_alloc); exact HO352.out) (Kd.R_base ho30) hb)
           have n3_ := Aside0.mk (Kd.R_elder' (by (with_reducible repeat apply Kd.R_alloc); exact HO355.out) (Kd.R_base ho30) hb)
           have n4_ := Aside0.mk (Kd.R_lower (Kd.R_newB (Kd.R_new' (Kd.R_new' (Kd.R_new' (Kd.R_new' ho30 (Kd.R_lt (by (with_reducible repeat apply Kd.R_alloc); exact HO337.out))) (Kd.R_lt (by (with_reducible repeat apply Kd.R_alloc); exact HO339.out))) (Kd.R_lt (by (with_reducible repeat apply Kd.R_alloc); exact HO352.out))) (Kd.R_lt (by (with_reducible repeat apply Kd.R_alloc); exact HO355.out))) (g := gb340) (o := .cells #[.int .i64 2, .int .i64 0] 41 (0, 0)) (by (with_reducible repeat (first | refine blk_drewN ?_ _ | refine blk_drew ?_ | refine blk_alloc ?_ _)); exact BK340.out)) (below_size (by repeat (first | (with_reducible first | exact HB.out | apply below_alloc | apply pw_below_drewN | apply below_drew1 | refine below_set ?_ GE340.out) | exact HB.out))))
           have n5_ := Aside0.mk (blk_below (g := gb340) (o := .cells #[.int .i64 2, .int .i64 0] 41 (0, 0)) (by (with_reducible repeat (first | refine blk_drewN ?_ _ | refine blk_drew ?_ | refine blk_alloc ?_ _)); exact BK340.out) hb)
           have n6_ := Aside0.mk (below_step (by repeat (first | (with_reducible first | exact HB.out | apply below_alloc | apply pw_below_drewN | apply below_drew1 | refine below_set ?_ GE340.out) | exact HB.out)) hb)
           clear HO337
           clear HO339
           clear HO352
           clear HO355
           clear BK340
           clear HB
           have HO337 := n0_
           have HO339 := n1_
           have HO352 := n2_
           have HO355 := n3_
           have HO358 := n4_
           have BK340 := n5_
           have HB := n6_
           clear n0_ n1_ n2_ n3_ n4_ n5_ n6_
           clear hb ho30
           refine hK.out _ _ ⟨(blk_cell BK340.out 0).trans rfl, (blk_cell BK340.out 1).trans rfl⟩ (fun hHeld => ?_)
           clear hK K
           refine norm_ (a' := ?_) ?_ ?_
           rotate_left
           ·show Act.put _ (some 28) _ = _
            simp only [Act.put, List.setIfInBounds_toArray, List.set_cons_zero, List.set_cons_succ, i64_w, i32_w]
            rfl
           refine two_ (i := 2) (j := 4) (Ni := some 30) (Nj := some 32) #[true, true, true, true, false, false, false] #[true, true, false, true, true, false, false] rfl rfl rfl rfl (by kernel_rfl) (by decide) (by decide) (fun K hK => ?_) (fun K hK => ?_)
           ·skip
            refine Kd.R_append_rows_step k41 (w0 := w) w.heap.size (by rfl) (.tmp 28) (.tmp 29) 23 41 (.agg #[(.int .i64 0), (.int .i64 0)]) 16 rfl Try.underlying23 info41 rfl (by decide) (by omega) v357 y356 t334 _ _ _ (fun k_ => some k_ ≠ (.slice Ao15 t334.length co15 : Value).ownBlock ∧ some k_ ≠ (.slice Ao16 t335.length co16 : Value).ownBlock ∧ some k_ ≠ (.slice Ao27 y350.length co27 : Value).ownBlock ∧ some k_ ≠ (v354 : Value).ownBlock ∧ k_ ≠ gb340) (fun _ => False) rfl rfl ?aO ?aR (fun _ _ h => h) (fun _ h => h.elim) ?aF ?aB ?aS ?aL ?_
            (case aR => repeat (first | exact (Kd.R_reads' HO337.out).2.2 | (with_reducible refine Kd.C_alloc ?_ _) | (with_reducible refine Kd.C_drewN ?_ _) | (with_reducible refine Kd.C_drew ?_)))
            (case aB => exact (by repeat (first | (with_reducible first | exact HB.out | apply below_alloc | apply pw_below_drewN | apply below_drew1 | refine below_set ?_ GE340.out) | exact HB.out)))
            (case aF => exact (fun k_ hk => ⟨Kd.fresh' (Kd.R_lt (by (with_reducible repeat apply Kd.R_alloc); exact HO337.out)) k_ hk, Kd.fresh' (Kd.R_lt (by (with_reducible repeat apply Kd.R_alloc); exact HO339.out)) k_ hk, Kd.fresh' (Kd.R_lt (by (with_reducible repeat apply Kd.R_alloc); exact HO352.out)) k_ hk, Kd.fresh' (Kd.R_lt (by (with_reducible repeat apply Kd.R_alloc); exact HO355.out)) k_ hk, Kd.freshB (g := gb340) (o := .cells #[.int .i64 2, .int .i64 0] 41 (0, 0)) (by (with_reducible repeat (first | refine blk_drewN ?_ _ | refine blk_drew ?_ | refine blk_alloc ?_ _)); exact BK340.out) k_ hk⟩))
            (case aO => exact (by (with_reducible repeat apply Kd.R_alloc); exact Kd.R_mono HO358.out (fun _ hk => ⟨hk.1.1.1.1.2, ⟨hk.1.1.1.2, ⟨hk.1.1.2, ⟨hk.1.2, hk.2⟩⟩⟩⟩)))
            (case aS => exact (below_size (by repeat (first | (with_reducible first | exact HB.out | apply below_alloc | apply pw_below_drewN | apply below_drew1 | refine below_set ?_ GE340.out) | exact HB.out))))
            (case aL => have := LMc7.out; omega)
            intro v360 w31 ho hb hg hat
            rw [← Ny359.out] at ho
            have n0_ := Aside0.mk (Kd.R_after (ok := (fun k_ => some k_ ≠ (.slice Ao16 t335.length co16 : Value).ownBlock ∧ some k_ ≠ (.slice Ao27 y350.length co27 : Value).ownBlock ∧ some k_ ≠ (v354 : Value).ownBlock ∧ k_ ≠ gb340)) (by (with_reducible repeat apply Kd.R_alloc); exact Kd.R_mono HO337.out (fun _ hk => ⟨⟨hk.1.1.1, ⟨hk.1.1.2.1, ⟨hk.1.2, hk.1.1.2.2⟩⟩⟩, hk.2⟩)) hg hat)
            have n1_ := Aside0.mk (Kd.R_after (ok := (fun k_ => some k_ ≠ (.slice Ao15 t334.length co15 : Value).ownBlock ∧ some k_ ≠ (.slice Ao27 y350.length co27 : Value).ownBlock ∧ some k_ ≠ (v354 : Value).ownBlock ∧ k_ ≠ gb340)) (by (with_reducible repeat apply Kd.R_alloc); exact Kd.R_mono HO339.out (fun _ hk => ⟨⟨hk.1.1.1, ⟨hk.1.1.2.1, ⟨hk.1.2, hk.1.1.2.2⟩⟩⟩, hk.2⟩)) hg hat)
            have n2_ := Aside0.mk (blk_grown (g := gb340) (o := .cells #[.int .i64 2, .int .i64 0] 41 (0, 0)) (by (with_reducible repeat (first | refine blk_drewN ?_ _ | refine blk_drew ?_ | refine blk_alloc ?_ _)); exact BK340.out) hg (Kd.R_away HO358.out (fun _ hk => hk.2)))
            have n3_ := Aside0.mk (Kd.R_after (ok := (fun k_ => some k_ ≠ (.slice Ao15 t334.length co15 : Value).ownBlock ∧ some k_ ≠ (.slice Ao16 t335.length co16 : Value).ownBlock ∧ some k_ ≠ (v354 : Value).ownBlock ∧ k_ ≠ gb340)) (by (with_reducible repeat apply Kd.R_alloc); exact Kd.R_mono HO352.out (fun _ hk => ⟨⟨hk.1.1.1, ⟨hk.1.1.2.1, ⟨hk.1.2, hk.1.1.2.2⟩⟩⟩, hk.2⟩)) hg hat)
            have n4_ := Aside0.mk (Kd.R_after (ok := (fun k_ => some k_ ≠ (.slice Ao15 t334.length co15 : Value).ownBlock ∧ some k_ ≠ (.slice Ao16 t335.length co16 : Value).ownBlock ∧ some k_ ≠ (.slice Ao27 y350.length co27 : Value).ownBlock ∧ k_ ≠ gb340)) (by (with_reducible repeat apply Kd.R_alloc); exact HO355.out) hg hat)
            have n5_ := Aside0.mk (hb)
            have n6_ := Aside0.mk (ho)
            clear HO337
            clear HO339
            clear BK340
            clear HO352
            clear HO355
            clear HB
            clear HO358
            have HO337 := n0_
            have HO339 := n1_
            have BK340 := n2_
            have HO352 := n3_
            have HO355 := n4_
            have HB := n5_
            have HO361 := n6_
            clear n0_ n1_ n2_ n3_ n4_ n5_ n6_
            clear ho hb hg hat
            refine hK.out _ _ ⟨(blk_cell BK340.out 0).trans rfl, (blk_cell BK340.out 1).trans rfl⟩ (fun hHeld => ?_)
            clear hK K
            refine norm_ (a' := ?_) ?_ ?_
            rotate_left
            ·show Act.put _ (some 30) _ = _
             simp only [Act.put, List.setIfInBounds_toArray, List.set_cons_zero, List.set_cons_succ, i64_w, i32_w]
             rfl
            refine one_ (i := 4) (N := some 32) #[true, true, true, true, true, false, false] rfl rfl (by kernel_rfl) (by decide) (fun K hK => ?_)
            refine Kd.R_lit_step k41 _ 41 ?hg (N := 32) ?hd (xs := ([(⟨2, 0⟩ : S41)] : List (S41))) (inner := [.int .i64 2, .int .i64 0]) (ok := fun _ => True) (okp := fun _ => True) ?hr ?hp (fun _ hk => hk) trivial (Below.refl _ _) (Nat.le_refl _) (by simp) ?_; (case hd => rfl); (case hg => rfl); (case hr => first | (go_simp; done) | (go_simp; rfl)); (case hp => exact (Reps.c2 (show Kd.M k41 _ _ _ (⟨2, 0⟩ : S41) [.int .i64 2, .int .i64 0] from (k41_mkM _ _ _ (⟨2, 0⟩ : S41) )) (Reps.none _ _)))
            intro v363 w32 ho33 hb hg_ hnew_
            clear hg_ hnew_
            (first | rw [← Ny362.out] at ho33 | (simp only [Int.reduceToNat] at ho33; rw [← Ny362.out] at ho33))
            have n0_ := Aside0.mk (Kd.R_elder' (by (with_reducible repeat apply Kd.R_alloc); exact HO337.out) (Kd.R_base ho33) hb)
            have n1_ := Aside0.mk (Kd.R_elder' (by (with_reducible repeat apply Kd.R_alloc); exact HO339.out) (Kd.R_base ho33) hb)
            have n2_ := Aside0.mk (Kd.R_elder' (by (with_reducible repeat apply Kd.R_alloc); exact HO352.out) (Kd.R_base ho33) hb)
            have n3_ := Aside0.mk (Kd.R_elder' (by (with_reducible repeat apply Kd.R_alloc); exact HO355.out) (Kd.R_base ho33) hb)
            have n4_ := Aside0.mk (Kd.R_elder' (by (with_reducible repeat apply Kd.R_alloc); exact HO361.out) (Kd.R_base ho33) hb)
            have n5_ := Aside0.mk (Kd.R_lower (Kd.R_newB (Kd.R_new' (Kd.R_new' (Kd.R_new' (Kd.R_new' (Kd.R_new' ho33 (Kd.R_lt (by (with_reducible repeat apply Kd.R_alloc); exact HO337.out))) (Kd.R_lt (by (with_reducible repeat apply Kd.R_alloc); exact HO339.out))) (Kd.R_lt (by (with_reducible repeat apply Kd.R_alloc); exact HO352.out))) (Kd.R_lt (by (with_reducible repeat apply Kd.R_alloc); exact HO355.out))) (Kd.R_lt (by (with_reducible repeat apply Kd.R_alloc); exact HO361.out))) (g := gb340) (o := .cells #[.int .i64 2, .int .i64 0] 41 (0, 0)) (by (with_reducible repeat (first | refine blk_drewN ?_ _ | refine blk_drew ?_ | refine blk_alloc ?_ _)); exact BK340.out)) (below_size (by repeat (first | (with_reducible first | exact HB.out | apply below_alloc | apply pw_below_drewN | apply below_drew1 | refine below_set ?_ GE340.out) | exact HB.out))))
            have n6_ := Aside0.mk (blk_below (g := gb340) (o := .cells #[.int .i64 2, .int .i64 0] 41 (0, 0)) (by (with_reducible repeat (first | refine blk_drewN ?_ _ | refine blk_drew ?_ | refine blk_alloc ?_ _)); exact BK340.out) hb)
            have n7_ := Aside0.mk (below_step (by repeat (first | (with_reducible first | exact HB.out | apply below_alloc | apply pw_below_drewN | apply below_drew1 | refine below_set ?_ GE340.out) | exact HB.out)) hb)
            clear HO337
            clear HO339
            clear HO352
            clear HO355
            clear HO361
            clear BK340
            clear HB
            have HO337 := n0_
            have HO339 := n1_
            have HO352 := n2_
            have HO355 := n3_
            have HO361 := n4_
            have HO364 := n5_
            have BK340 := n6_
            have HB := n7_
            clear n0_ n1_ n2_ n3_ n4_ n5_ n6_ n7_
            clear hb ho33
            refine hK.out _ _ ⟨(blk_cell BK340.out 0).trans rfl, (blk_cell BK340.out 1).trans rfl⟩ (fun hHeld => ?_)
            clear hK K
            refine norm_ (a' := ?_) ?_ ?_
            rotate_left
            ·show Act.put _ (some 32) _ = _
             simp only [Act.put, List.setIfInBounds_toArray, List.set_cons_zero, List.set_cons_succ, i64_w, i32_w]
             rfl
            exact norm_ (by simp only [putAll, Act.put, List.setIfInBounds_toArray, List.set_cons_zero, List.set_cons_succ]) (hCont (v357, v360, v363) _ ⟨hHeld, (by (with_reducible repeat apply Kd.R_alloc); exact Kd.R_mono HO337.out (fun _ hk => ⟨hk.1.1.1, ⟨hk.1.1.2.1, ⟨hk.1.1.2.2.1, ⟨hk.1.2, ⟨hk.2, hk.1.1.2.2.2⟩⟩⟩⟩⟩)), (by (with_reducible repeat apply Kd.R_alloc); exact Kd.R_mono HO339.out (fun _ hk => ⟨hk.1.1.1, ⟨hk.1.1.2.1, ⟨hk.1.1.2.2.1, ⟨hk.1.2, ⟨hk.2, hk.1.1.2.2.2⟩⟩⟩⟩⟩)), (by (with_reducible repeat apply Kd.R_alloc); exact Kd.R_mono HO352.out (fun _ hk => ⟨hk.1.1.1, ⟨hk.1.1.2.1, ⟨hk.1.1.2.2.1, ⟨hk.1.2, ⟨hk.2, hk.1.1.2.2.2⟩⟩⟩⟩⟩)), (by (with_reducible repeat apply Kd.R_alloc); exact Kd.R_mono HO355.out (fun _ hk => ⟨hk.1.1.1, ⟨hk.1.1.2.1, ⟨hk.1.1.2.2.1, ⟨hk.1.2, ⟨hk.2, hk.1.1.2.2.2⟩⟩⟩⟩⟩)), (by (with_reducible repeat apply Kd.R_alloc); exact Kd.R_mono HO361.out (fun _ hk => ⟨hk.1.1, ⟨hk.1.2.1, ⟨hk.1.2.2.1, ⟨hk.1.2.2.2.1, ⟨hk.2, hk.1.2.2.2.2⟩⟩⟩⟩⟩)), (by (with_reducible repeat apply Kd.R_alloc); exact Kd.R_mono HO364.out (fun _ hk => ⟨hk.1.1.1.1.1.2, ⟨hk.1.1.1.1.2, ⟨hk.1.1.1.2, ⟨hk.1.1.2, ⟨hk.1.2, hk.2⟩⟩⟩⟩⟩)), (by (with_reducible repeat (first | refine blk_drewN ?_ _ | refine blk_drew ?_ | refine blk_alloc ?_ _)); exact BK340.out), (by repeat (first | (with_reducible first | exact HB.out | apply below_alloc | apply pw_below_drewN | apply below_drew1 | refine below_set ?_ GE340.out) | exact HB.out))⟩)
           ·skip
            refine Kd.R_lit_step k41 _ 41 ?hg (N := 32) ?hd (xs := ([(⟨2, 0⟩ : S41)] : List (S41))) (inner := [.int .i64 2, .int .i64 0]) (ok := fun _ => True) (okp := fun _ => True) ?hr ?hp (fun _ hk => hk) trivial (Below.refl _ _) (Nat.le_refl _) (by simp) ?_; (case hd => rfl); (case hg => rfl); (case hr => first | (go_simp; done) | (go_simp; rfl)); (case hp => exact (Reps.c2 (show Kd.M k41 _ _ _ (⟨2, 0⟩ : S41) [.int .i64 2, .int .i64 0] from (k41_mkM _ _ _ (⟨2, 0⟩ : S41) )) (Reps.none _ _)))
            intro v363 w31 ho32 hb hg_ hnew_
            clear hg_ hnew_
            (first | rw [← Ny362.out] at ho32 | (simp only [Int.reduceToNat] at ho32; rw [← Ny362.out] at ho32))
            have n0_ := Aside0.mk (Kd.R_elder' (by (with_reducible repeat apply Kd.R_alloc); exact HO337.out) (Kd.R_base ho32) hb)
            have n1_ := Aside0.mk (Kd.R_elder' (by (with_reducible repeat apply Kd.R_alloc); exact HO339.out) (Kd.R_base ho32) hb)
            have n2_ := Aside0.mk (Kd.R_elder' (by (with_reducible repeat apply Kd.R_alloc); exact HO352.out) (Kd.R_base ho32) hb)
            have n3_ := Aside0.mk (Kd.R_elder' (by (with_reducible repeat apply Kd.R_alloc); exact HO355.out) (Kd.R_base ho32) hb)
            have n4_ := Aside0.mk (Kd.R_elder' (by (with_reducible repeat apply Kd.R_alloc); exact HO358.out) (Kd.R_base ho32) hb)
            have n5_ := Aside0.mk (Kd.R_lower (Kd.R_newB (Kd.R_new' (Kd.R_new' (Kd.R_new' (Kd.R_new' (Kd.R_new' ho32 (Kd.R_lt (by (with_reducible repeat apply Kd.R_alloc); exact HO337.out))) (Kd.R_lt (by (with_reducible repeat apply Kd.R_alloc); exact HO339.out))) (Kd.R_lt (by (with_reducible repeat apply Kd.R_alloc); exact HO352.out))) (Kd.R_lt (by (with_reducible repeat apply Kd.R_alloc); exact HO355.out))) (Kd.R_lt (by (with_reducible repeat apply Kd.R_alloc); exact HO358.out))) (g := gb340) (o := .cells #[.int .i64 2, .int .i64 0] 41 (0, 0)) (by (with_reducible repeat (first | refine blk_drewN ?_ _ | refine blk_drew ?_ | refine blk_alloc ?_ _)); exact BK340.out)) (below_size (by repeat (first | (with_reducible first | exact HB.out | apply below_alloc | apply pw_below_drewN | apply below_drew1 | refine below_set ?_ GE340.out) | exact HB.out))))
            have n6_ := Aside0.mk (blk_below (g := gb340) (o := .cells #[.int .i64 2, .int .i64 0] 41 (0, 0)) (by (with_reducible repeat (first | refine blk_drewN ?_ _ | refine blk_drew ?_ | refine blk_alloc ?_ _)); exact BK340.out) hb)
            have n7_ := Aside0.mk (below_step (by repeat (first | (with_reducible first | exact HB.out | apply below_alloc | apply pw_below_drewN | apply below_drew1 | refine below_set ?_ GE340.out) | exact HB.out)) hb)
            clear HO337
            clear HO339
            clear HO352
            clear HO355
            clear HO358
            clear BK340
            clear HB
            have HO337 := n0_
            have HO339 := n1_
            have HO352 := n2_
            have HO355 := n3_
            have HO358 := n4_
            have HO364 := n5_
            have BK340 := n6_
            have HB := n7_
            clear n0_ n1_ n2_ n3_ n4_ n5_ n6_ n7_
            clear hb ho32
            refine hK.out _ _ ⟨(blk_cell BK340.out 0).trans rfl, (blk_cell BK340.out 1).trans rfl⟩ (fun hHeld => ?_)
            clear hK K
            refine norm_ (a' := ?_) ?_ ?_
            rotate_left
            ·show Act.put _ (some 32) _ = _
             simp only [Act.put, List.setIfInBounds_toArray, List.set_cons_zero, List.set_cons_succ, i64_w, i32_w]
             rfl
            refine one_ (i := 2) (N := some 30) #[true, true, true, true, true, false, false] rfl rfl (by kernel_rfl) (by decide) (fun K hK => ?_)
            refine Kd.R_append_rows_step k41 (w0 := w) w.heap.size (by rfl) (.tmp 28) (.tmp 29) 23 41 (.agg #[(.int .i64 0), (.int .i64 0)]) 16 rfl Try.underlying23 info41 rfl (by decide) (by omega) v357 y356 t334 _ _ _ (fun k_ => some k_ ≠ (.slice Ao15 t334.length co15 : Value).ownBlock ∧ some k_ ≠ (.slice Ao16 t335.length co16 : Value).ownBlock ∧ some k_ ≠ (.slice Ao27 y350.length co27 : Value).ownBlock ∧ some k_ ≠ (v354 : Value).ownBlock ∧ some k_ ≠ (v363 : Value).ownBlock ∧ k_ ≠ gb340) (fun _ => False) rfl rfl ?aO ?aR (fun _ _ h => h) (fun _ h => h.elim) ?aF ?aB ?aS ?aL ?_
            (case aR => repeat (first | exact (Kd.R_reads' HO337.out).2.2 | (with_reducible refine Kd.C_alloc ?_ _) | (with_reducible refine Kd.C_drewN ?_ _) | (with_reducible refine Kd.C_drew ?_)))
            (case aB => exact (by repeat (first | (with_reducible first | exact HB.out | apply below_alloc | apply pw_below_drewN | apply below_drew1 | refine below_set ?_ GE340.out) | exact HB.out)))
            (case aF => exact (fun k_ hk => ⟨Kd.fresh' (Kd.R_lt (by (with_reducible repeat apply Kd.R_alloc); exact HO337.out)) k_ hk, Kd.fresh' (Kd.R_lt (by (with_reducible repeat apply Kd.R_alloc); exact HO339.out)) k_ hk, Kd.fresh' (Kd.R_lt (by (with_reducible repeat apply Kd.R_alloc); exact HO352.out)) k_ hk, Kd.fresh' (Kd.R_lt (by (with_reducible repeat apply Kd.R_alloc); exact HO355.out)) k_ hk, Kd.fresh' (Kd.R_lt (by (with_reducible repeat apply Kd.R_alloc); exact HO364.out)) k_ hk, Kd.freshB (g := gb340) (o := .cells #[.int .i64 2, .int .i64 0] 41 (0, 0)) (by (with_reducible repeat (first | refine blk_drewN ?_ _ | refine blk_drew ?_ | refine blk_alloc ?_ _)); exact BK340.out) k_ hk⟩))
            (case aO => exact (by (with_reducible repeat apply Kd.R_alloc); exact Kd.R_mono HO358.out (fun _ hk => ⟨hk.1.1.1.1.1.2, ⟨hk.1.1.1.1.2, ⟨hk.1.1.1.2, ⟨hk.1.1.2, ⟨hk.2, hk.1.2⟩⟩⟩⟩⟩)))
            (case aS => exact (below_size (by repeat (first | (with_reducible first | exact HB.out | apply below_alloc | apply pw_below_drewN | apply below_drew1 | refine below_set ?_ GE340.out) | exact HB.out))))
            (case aL => have := LMc7.out; omega)
            intro v360 w33 ho hb hg hat
            rw [← Ny359.out] at ho
            have n0_ := Aside0.mk (Kd.R_after (ok := (fun k_ => some k_ ≠ (.slice Ao16 t335.length co16 : Value).ownBlock ∧ some k_ ≠ (.slice Ao27 y350.length co27 : Value).ownBlock ∧ some k_ ≠ (v354 : Value).ownBlock ∧ some k_ ≠ (v363 : Value).ownBlock ∧ k_ ≠ gb340)) (by (with_reducible repeat apply Kd.R_alloc); exact Kd.R_mono HO337.out (fun _ hk => ⟨⟨hk.1.1.1.1, ⟨hk.1.1.1.2.1, ⟨hk.1.1.2, ⟨hk.2, hk.1.1.1.2.2⟩⟩⟩⟩, hk.1.2⟩)) hg hat)
            have n1_ := Aside0.mk (Kd.R_after (ok := (fun k_ => some k_ ≠ (.slice Ao15 t334.length co15 : Value).ownBlock ∧ some k_ ≠ (.slice Ao27 y350.length co27 : Value).ownBlock ∧ some k_ ≠ (v354 : Value).ownBlock ∧ some k_ ≠ (v363 : Value).ownBlock ∧ k_ ≠ gb340)) (by (with_reducible repeat apply Kd.R_alloc); exact Kd.R_mono HO339.out (fun _ hk => ⟨⟨hk.1.1.1.1, ⟨hk.1.1.1.2.1, ⟨hk.1.1.2, ⟨hk.2, hk.1.1.1.2.2⟩⟩⟩⟩, hk.1.2⟩)) hg hat)
            have n2_ := Aside0.mk (blk_grown (g := gb340) (o := .cells #[.int .i64 2, .int .i64 0] 41 (0, 0)) (by (with_reducible repeat (first | refine blk_drewN ?_ _ | refine blk_drew ?_ | refine blk_alloc ?_ _)); exact BK340.out) hg (Kd.R_away HO358.out (fun _ hk => hk.1.2)))
            have n3_ := Aside0.mk (Kd.R_after (ok := (fun k_ => some k_ ≠ (.slice Ao15 t334.length co15 : Value).ownBlock ∧ some k_ ≠ (.slice Ao16 t335.length co16 : Value).ownBlock ∧ some k_ ≠ (v354 : Value).ownBlock ∧ some k_ ≠ (v363 : Value).ownBlock ∧ k_ ≠ gb340)) (by (with_reducible repeat apply Kd.R_alloc); exact Kd.R_mono HO352.out (fun _ hk => ⟨⟨hk.1.1.1.1, ⟨hk.1.1.1.2.1, ⟨hk.1.1.2, ⟨hk.2, hk.1.1.1.2.2⟩⟩⟩⟩, hk.1.2⟩)) hg hat)
            have n4_ := Aside0.mk (Kd.R_after (ok := (fun k_ => some k_ ≠ (.slice Ao15 t334.length co15 : Value).ownBlock ∧ some k_ ≠ (.slice Ao16 t335.length co16 : Value).ownBlock ∧ some k_ ≠ (.slice Ao27 y350.length co27 : Value).ownBlock ∧ some k_ ≠ (v363 : Value).ownBlock ∧ k_ ≠ gb340)) (by (with_reducible repeat apply Kd.R_alloc); exact Kd.R_mono HO355.out (fun _ hk => ⟨⟨hk.1.1.1, ⟨hk.1.1.2.1, ⟨hk.1.1.2.2.1, ⟨hk.2, hk.1.1.2.2.2⟩⟩⟩⟩, hk.1.2⟩)) hg hat)
            have n5_ := Aside0.mk (Kd.R_after (ok := (fun k_ => some k_ ≠ (.slice Ao15 t334.length co15 : Value).ownBlock ∧ some k_ ≠ (.slice Ao16 t335.length co16 : Value).ownBlock ∧ some k_ ≠ (.slice Ao27 y350.length co27 : Value).ownBlock ∧ some k_ ≠ (v354 : Value).ownBlock ∧ k_ ≠ gb340)) (by (with_reducible repeat apply Kd.R_alloc); exact Kd.R_mono HO364.out (fun _ hk => ⟨⟨hk.1.1.1.1.1.2, ⟨hk.1.1.1.1.2, ⟨hk.1.1.1.2, ⟨hk.1.1.2, hk.2⟩⟩⟩⟩, hk.1.2⟩)) hg hat)
            have n6_ := Aside0.mk (hb)
            have n7_ := Aside0.mk (ho)
            clear HO337
            clear HO339
            clear BK340
            clear HO352
            clear HO355
            clear HO364
            clear HB
            clear HO358
            have HO337 := n0_
            have HO339 := n1_
            have BK340 := n2_
            have HO352 := n3_
            have HO355 := n4_
            have HO364 := n5_
            have HB := n6_
            have HO361 := n7_
            clear n0_ n1_ n2_ n3_ n4_ n5_ n6_ n7_
            clear ho hb hg hat
            refine hK.out _ _ ⟨(blk_cell BK340.out 0).trans rfl, (blk_cell BK340.out 1).trans rfl⟩ (fun hHeld => ?_)
            clear hK K
            refine norm_ (a' := ?_) ?_ ?_
            rotate_left
            ·show Act.put _ (some 30) _ = _
             simp only [Act.put, List.setIfInBounds_toArray, List.set_cons_zero, List.set_cons_succ, i64_w, i32_w]
             rfl
            exact norm_ (by simp only [putAll, Act.put, List.setIfInBounds_toArray, List.set_cons_zero, List.set_cons_succ]) (hCont (v357, v360, v363) _ ⟨hHeld, (by (with_reducible repeat apply Kd.R_alloc); exact Kd.R_mono HO337.out (fun _ hk => ⟨hk.1.1, ⟨hk.1.2.1, ⟨hk.1.2.2.1, ⟨hk.2, ⟨hk.1.2.2.2.1, hk.1.2.2.2.2⟩⟩⟩⟩⟩)), (by (with_reducible repeat apply Kd.R_alloc); exact Kd.R_mono HO339.out (fun _ hk => ⟨hk.1.1, ⟨hk.1.2.1, ⟨hk.1.2.2.1, ⟨hk.2, ⟨hk.1.2.2.2.1, hk.1.2.2.2.2⟩⟩⟩⟩⟩)), (by (with_reducible repeat apply Kd.R_alloc); exact Kd.R_mono HO352.out (fun _ hk => ⟨hk.1.1, ⟨hk.1.2.1, ⟨hk.1.2.2.1, ⟨hk.2, ⟨hk.1.2.2.2.1, hk.1.2.2.2.2⟩⟩⟩⟩⟩)), (by (with_reducible repeat apply Kd.R_alloc); exact Kd.R_mono HO355.out (fun _ hk => ⟨hk.1.1, ⟨hk.1.2.1, ⟨hk.1.2.2.1, ⟨hk.2, ⟨hk.1.2.2.2.1, hk.1.2.2.2.2⟩⟩⟩⟩⟩)), (by (with_reducible repeat apply Kd.R_alloc); exact HO361.out), (by (with_reducible repeat apply Kd.R_alloc); exact Kd.R_mono HO364.out (fun _ hk => ⟨hk.1.1, ⟨hk.1.2.1, ⟨hk.1.2.2.1, ⟨hk.1.2.2.2.1, ⟨hk.2, hk.1.2.2.2.2⟩⟩⟩⟩⟩)), (by (with_reducible repeat (first | refine blk_drewN ?_ _ | refine blk_drew ?_ | refine blk_alloc ?_ _)); exact BK340.out), (by repeat (first | (with_reducible first | exact HB.out | apply below_alloc | apply pw_below_drewN | apply below_drew1 | refine below_set ?_ GE340.out) | exact HB.out))⟩)
          ·skip
           refine Kd.R_lit_step k41 _ 41 ?hg (N := 32) ?hd (xs := ([(⟨2, 0⟩ : S41)] : List (S41))) (inner := [.int .i64 2, .int .i64 0]) (ok := fun _ => True) (okp := fun _ => True) ?hr ?hp (fun _ hk => hk) trivial (Below.refl _ _) (Nat.le_refl _) (by simp) ?_; (case hd => rfl); (case hg => rfl); (case hr => first | (go_simp; done) | (go_simp; rfl)); (case hp => exact (Reps.c2 (show Kd.M k41 _ _ _ (⟨2, 0⟩ : S41) [.int .i64 2, .int .i64 0] from (k41_mkM _ _ _ (⟨2, 0⟩ : S41) )) (Reps.none _ _)))
           intro v363 w29 ho30 hb hg_ hnew_
           clear hg_ hnew_
           (first | rw [← Ny362.out] at ho30 | (simp only [Int.reduceToNat] at ho30; rw [← Ny362.out] at ho30))
           have n0_ := Aside0.mk (Kd.R_elder' (by (with_reducible repeat apply Kd.R_alloc); exact HO337.out) (Kd.R_base ho30) hb)
           have n1_ := Aside0.mk (Kd.R_elder' (by (with_reducible repeat apply Kd.R_alloc); exact HO339.out) (Kd.R_base ho30) hb)
           have n2_ := Aside0.mk (Kd.R_elder' (by (with_reducible repeat apply Kd.R_alloc); exact HO352.out) (Kd.R_base ho30) hb)
           have n3_ := Aside0.mk (Kd.R_elder' (by (with_reducible repeat apply Kd.R_alloc); exact HO355.out) (Kd.R_base ho30) hb)
           have n4_ := Aside0.mk (Kd.R_lower (Kd.R_newB (Kd.R_new' (Kd.R_new' (Kd.R_new' (Kd.R_new' ho30 (Kd.R_lt (by (with_reducible repeat apply Kd.R_alloc); exact HO337.out))) (Kd.R_lt (by (with_reducible repeat apply Kd.R_alloc); exact HO339.out))) (Kd.R_lt (by (with_reducible repeat apply Kd.R_alloc); exact HO352.out))) (Kd.R_lt (by (with_reducible repeat apply Kd.R_alloc); exact HO355.out))) (g := gb340) (o := .cells #[.int .i64 2, .int .i64 0] 41 (0, 0)) (by (with_reducible repeat (first | refine blk_drewN ?_ _ | refine blk_drew ?_ | refine blk_alloc ?_ _)); exact BK340.out)) (below_size (by repeat (first | (with_reducible first | exact HB.out | apply below_alloc | apply pw_below_drewN | apply below_drew1 | refine below_set ?_ GE340.out) | exact HB.out))))
           have n5_ := Aside0.mk (blk_below (g := gb340) (o := .cells #[.int .i64 2, .int .i64 0] 41 (0, 0)) (by (with_reducible repeat (first | refine blk_drewN ?_ _ | refine blk_drew ?_ | refine blk_alloc ?_ _)); exact BK340.out) hb)
           have n6_ := Aside0.mk (below_step (by repeat (first | (with_reducible first | exact HB.out | apply below_alloc | apply pw_below_drewN | apply below_drew1 | refine below_set ?_ GE340.out) | exact HB.out)) hb)
           clear HO337
           clear HO339
           clear HO352
           clear HO355
           clear BK340
           clear HB
           have HO337 := n0_
           have HO339 := n1_
           have HO352 := n2_
           have HO355 := n3_
           have HO364 := n4_
           have BK340 := n5_
           have HB := n6_
           clear n0_ n1_ n2_ n3_ n4_ n5_ n6_
           clear hb ho30
           refine hK.out _ _ ⟨(blk_cell BK340.out 0).trans rfl, (blk_cell BK340.out 1).trans rfl⟩ (fun hHeld => ?_)
           clear hK K
           refine norm_ (a' := ?_) ?_ ?_
           rotate_left
           ·show Act.put _ (some 32) _ = _
            simp only [Act.put, List.setIfInBounds_toArray, List.set_cons_zero, List.set_cons_succ, i64_w, i32_w]
            rfl
           refine one_ (i := 0) (N := some 28) #[true, true, false, true, true, false, false] rfl rfl (by kernel_rfl) (by decide) (fun K hK => ?_)
           refine Kd.R_lit_step k41 _ 41 ?hg (N := 28) ?hd (xs := ([] : List (S41))) (inner := []) (ok := fun _ => True) (okp := fun _ => True) ?hr ?hp (fun _ hk => hk) trivial (Below.refl _ _) (Nat.le_refl _) (by simp) ?_; (case hd => rfl); (case hg => rfl); (case hr => first | (go_simp; done) | (go_simp; rfl)); (case hp => exact (Reps.none _ _))
           intro v357 w31 ho32 hb hg_ hnew_
           clear hg_ hnew_
           (first | rw [← Ny356.out] at ho32 | (simp only [Int.reduceToNat] at ho32; rw [← Ny356.out] at ho32))
           have n0_ := Aside0.mk (Kd.R_elder' (by (with_reducible repeat apply Kd.R_alloc); exact HO337.out) (Kd.R_base ho32) hb)
           have n1_ := Aside0.mk (Kd.R_elder' (by (with_reducible repeat apply Kd.R_alloc); exact HO339.out) (Kd.R_base ho32) hb)
           have n2_ := Aside0.mk (Kd.R_elder' (by (with_reducible repeat apply Kd.R_alloc); exact HO352.out) (Kd.R_base ho32) hb)
           have n3_ := Aside0.mk (Kd.R_elder' (by (with_reducible repeat apply Kd.R_alloc); exact HO355.out) (Kd.R_base ho32) hb)
           have n4_ := Aside0.mk (Kd.R_elder' (by (with_reducible repeat apply Kd.R_alloc); exact HO364.out) (Kd.R_base ho32) hb)
           have n5_ := Aside0.mk (Kd.R_lower (Kd.R_newB (Kd.R_new' (Kd.R_new' (Kd.R_new' (Kd.R_new' (Kd.R_new' ho32 (Kd.R_lt (by (with_reducible repeat apply Kd.R_alloc); exact HO337.out))) (Kd.R_lt (by (with_reducible repeat apply Kd.R_alloc); exact HO339.out))) (Kd.R_lt (by (with_reducible repeat apply Kd.R_alloc); exact HO352.out))) (Kd.R_lt (by (with_reducible repeat apply Kd.R_alloc); exact HO355.out))) (Kd.R_lt (by (with_reducible repeat apply Kd.R_alloc); exact HO364.out))) (g := gb340) (o := .cells #[.int .i64 2, .int .i64 0] 41 (0, 0)) (by (with_reducible repeat (first | refine blk_drewN ?_ _ | refine blk_drew ?_ | refine blk_alloc ?_ _)); exact BK340.out)) (below_size (by repeat (first | (with_reducible first | exact HB.out | apply below_alloc | apply pw_below_drewN | apply below_drew1 | refine below_set ?_ GE340.out) | exact HB.out))))
           have n6_ := Aside0.mk (blk_below (g := gb340) (o := .cells #[.int .i64 2, .int .i64 0] 41 (0, 0)) (by (with_reducible repeat (first | refine blk_drewN ?_ _ | refine blk_drew ?_ | refine blk_alloc ?_ _)); exact BK340.out) hb)
           have n7_ := Aside0.mk (below_step (by repeat (first | (with_reducible first | exact HB.out | apply below_alloc | apply pw_below_drewN | apply below_drew1 | refine below_set ?_ GE340.out) | exact HB.out)) hb)
           clear HO337
           clear HO339
           clear HO352
           clear HO355
           clear HO364
           clear BK340
           clear HB
           have HO337 := n0_
           have HO339 := n1_
           have HO352 := n2_
           have HO355 := n3_
           have HO364 := n4_
           have HO358 := n5_
           have BK340 := n6_
           have HB := n7_
           clear n0_ n1_ n2_ n3_ n4_ n5_ n6_ n7_
           clear hb ho32
           refine hK.out _ _ ⟨(blk_cell BK340.out 0).trans rfl, (blk_cell BK340.out 1).trans rfl⟩ (fun hHeld => ?_)
           clear hK K
           refine norm_ (a' := ?_) ?_ ?_
           rotate_left
           ·show Act.put _ (some 28) _ = _
            simp only [Act.put, List.setIfInBounds_toArray, List.set_cons_zero, List.set_cons_succ, i64_w, i32_w]
            rfl
           refine one_ (i := 2) (N := some 30) #[true, true, true, true, true, false, false] rfl rfl (by kernel_rfl) (by decide) (fun K hK => ?_)
           refine Kd.R_append_rows_step k41 (w0 := w) w.heap.size (by rfl) (.tmp 28) (.tmp 29) 23 41 (.agg #[(.int .i64 0), (.int .i64 0)]) 16 rfl Try.underlying23 info41 rfl (by decide) (by omega) v357 y356 t334 _ _ _ (fun k_ => some k_ ≠ (.slice Ao15 t334.length co15 : Value).ownBlock ∧ some k_ ≠ (.slice Ao16 t335.length co16 : Value).ownBlock ∧ some k_ ≠ (.slice Ao27 y350.length co27 : Value).ownBlock ∧ some k_ ≠ (v354 : Value).ownBlock ∧ some k_ ≠ (v363 : Value).ownBlock ∧ k_ ≠ gb340) (fun _ => False) rfl rfl ?aO ?aR (fun _ _ h => h) (fun _ h => h.elim) ?aF ?aB ?aS ?aL ?_
           (case aR => repeat (first | exact (Kd.R_reads' HO337.out).2.2 | (with_reducible refine Kd.C_alloc ?_ _) | (with_reducible refine Kd.C_drewN ?_ _) | (with_reducible refine Kd.C_drew ?_)))
           (case aB => exact (by repeat (first | (with_reducible first | exact HB.out | apply below_alloc | apply pw_below_drewN | apply below_drew1 | refine below_set ?_ GE340.out) | exact HB.out)))
           (case aF => exact (fun k_ hk => ⟨Kd.fresh' (Kd.R_lt (by (with_reducible repeat apply Kd.R_alloc); exact HO337.out)) k_ hk, Kd.fresh' (Kd.R_lt (by (with_reducible repeat apply Kd.R_alloc); exact HO339.out)) k_ hk, Kd.fresh' (Kd.R_lt (by (with_reducible repeat apply Kd.R_alloc); exact HO352.out)) k_ hk, Kd.fresh' (Kd.R_lt (by (with_reducible repeat apply Kd.R_alloc); exact HO355.out)) k_ hk, Kd.fresh' (Kd.R_lt (by (with_reducible repeat apply Kd.R_alloc); exact HO364.out)) k_ hk, Kd.freshB (g := gb340) (o := .cells #[.int .i64 2, .int .i64 0] 41 (0, 0)) (by (with_reducible repeat (first | refine blk_drewN ?_ _ | refine blk_drew ?_ | refine blk_alloc ?_ _)); exact BK340.out) k_ hk⟩))
           (case aO => exact (by (with_reducible repeat apply Kd.R_alloc); exact Kd.R_mono HO358.out (fun _ hk => ⟨hk.1.1.1.1.1.2, ⟨hk.1.1.1.1.2, ⟨hk.1.1.1.2, ⟨hk.1.1.2, ⟨hk.1.2, hk.2⟩⟩⟩⟩⟩)))
           (case aS => exact (below_size (by repeat (first | (with_reducible first | exact HB.out | apply below_alloc | apply pw_below_drewN | apply below_drew1 | refine below_set ?_ GE340.out) | exact HB.out))))
           (case aL => have := LMc7.out; omega)
           intro v360 w33 ho hb hg hat
           rw [← Ny359.out] at ho
           have n0_ := Aside0.mk (Kd.R_after (ok := (fun k_ => some k_ ≠ (.slice Ao16 t335.length co16 : Value).ownBlock ∧ some k_ ≠ (.slice Ao27 y350.length co27 : Value).ownBlock ∧ some k_ ≠ (v354 : Value).ownBlock ∧ some k_ ≠ (v363 : Value).ownBlock ∧ k_ ≠ gb340)) (by (with_reducible repeat apply Kd.R_alloc); exact Kd.R_mono HO337.out (fun _ hk => ⟨⟨hk.1.1.1.1, ⟨hk.1.1.1.2.1, ⟨hk.1.1.2, ⟨hk.1.2, hk.1.1.1.2.2⟩⟩⟩⟩, hk.2⟩)) hg hat)
           have n1_ := Aside0.mk (Kd.R_after (ok := (fun k_ => some k_ ≠ (.slice Ao15 t334.length co15 : Value).ownBlock ∧ some k_ ≠ (.slice Ao27 y350.length co27 : Value).ownBlock ∧ some k_ ≠ (v354 : Value).ownBlock ∧ some k_ ≠ (v363 : Value).ownBlock ∧ k_ ≠ gb340)) (by (with_reducible repeat apply Kd.R_alloc); exact Kd.R_mono HO339.out (fun _ hk => ⟨⟨hk.1.1.1.1, ⟨hk.1.1.1.2.1, ⟨hk.1.1.2, ⟨hk.1.2, hk.1.1.1.2.2⟩⟩⟩⟩, hk.2⟩)) hg hat)
           have n2_ := Aside0.mk (blk_grown (g := gb340) (o := .cells #[.int .i64 2, .int .i64 0] 41 (0, 0)) (by (with_reducible repeat (first | refine blk_drewN ?_ _ | refine blk_drew ?_ | refine blk_alloc ?_ _)); exact BK340.out) hg (Kd.R_away HO358.out (fun _ hk => hk.2)))
           have n3_ := Aside0.mk (Kd.R_after (ok := (fun k_ => some k_ ≠ (.slice Ao15 t334.length co15 : Value).ownBlock ∧ some k_ ≠ (.slice Ao16 t335.length co16 : Value).ownBlock ∧ some k_ ≠ (v354 : Value).ownBlock ∧ some k_ ≠ (v363 : Value).ownBlock ∧ k_ ≠ gb340)) (by (with_reducible repeat apply Kd.R_alloc); exact Kd.R_mono HO352.out (fun _ hk => ⟨⟨hk.1.1.1.1, ⟨hk.1.1.1.2.1, ⟨hk.1.1.2, ⟨hk.1.2, hk.1.1.1.2.2⟩⟩⟩⟩, hk.2⟩)) hg hat)
           have n4_ := Aside0.mk (Kd.R_after (ok := (fun k_ => some k_ ≠ (.slice Ao15 t334.length co15 : Value).ownBlock ∧ some k_ ≠ (.slice Ao16 t335.length co16 : Value).ownBlock ∧ some k_ ≠ (.slice Ao27 y350.length co27 : Value).ownBlock ∧ some k_ ≠ (v363 : Value).ownBlock ∧ k_ ≠ gb340)) (by (with_reducible repeat apply Kd.R_alloc); exact Kd.R_mono HO355.out (fun _ hk => ⟨⟨hk.1.1.1, ⟨hk.1.1.2.1, ⟨hk.1.1.2.2.1, ⟨hk.1.2, hk.1.1.2.2.2⟩⟩⟩⟩, hk.2⟩)) hg hat)
           have n5_ := Aside0.mk (Kd.R_after (ok := (fun k_ => some k_ ≠ (.slice Ao15 t334.length co15 : Value).ownBlock ∧ some k_ ≠ (.slice Ao16 t335.length co16 : Value).ownBlock ∧ some k_ ≠ (.slice Ao27 y350.length co27 : Value).ownBlock ∧ some k_ ≠ (v354 : Value).ownBlock ∧ k_ ≠ gb340)) (by (with_reducible repeat apply Kd.R_alloc); exact Kd.R_mono HO364.out (fun _ hk => ⟨⟨hk.1.1.1.1.1.2, ⟨hk.1.1.1.1.2, ⟨hk.1.1.1.2, ⟨hk.1.1.2, hk.1.2⟩⟩⟩⟩, hk.2⟩)) hg hat)
           have n6_ := Aside0.mk (hb)
           have n7_ := Aside0.mk (ho)
           clear HO337
           clear HO339
           clear BK340
           clear HO352
           clear HO355
           clear HO364
           clear HB
           clear HO358
           have HO337 := n0_
           have HO339 := n1_
           have BK340 := n2_
           have HO352 := n3_
           have HO355 := n4_
           have HO364 := n5_
           have HB := n6_
           have HO361 := n7_
           clear n0_ n1_ n2_ n3_ n4_ n5_ n6_ n7_
           clear ho hb hg hat
           refine hK.out _ _ ⟨(blk_cell BK340.out 0).trans rfl, (blk_cell BK340.out 1).trans rfl⟩ (fun hHeld => ?_)
           clear hK K
           refine norm_ (a' := ?_) ?_ ?_
           rotate_left
           ·show Act.put _ (some 30) _ = _
            simp only [Act.put, List.setIfInBounds_toArray, List.set_cons_zero, List.set_cons_succ, i64_w, i32_w]
            rfl
           exact norm_ (by simp only [putAll, Act.put, List.setIfInBounds_toArray, List.set_cons_zero, List.set_cons_succ]) (hCont (v357, v360, v363) _ ⟨hHeld, (by (with_reducible repeat apply Kd.R_alloc); exact Kd.R_mono HO337.out (fun _ hk => ⟨hk.1.1, ⟨hk.1.2.1, ⟨hk.1.2.2.1, ⟨hk.2, ⟨hk.1.2.2.2.1, hk.1.2.2.2.2⟩⟩⟩⟩⟩)), (by (with_reducible repeat apply Kd.R_alloc); exact Kd.R_mono HO339.out (fun _ hk => ⟨hk.1.1, ⟨hk.1.2.1, ⟨hk.1.2.2.1, ⟨hk.2, ⟨hk.1.2.2.2.1, hk.1.2.2.2.2⟩⟩⟩⟩⟩)), (by (with_reducible repeat apply Kd.R_alloc); exact Kd.R_mono HO352.out (fun _ hk => ⟨hk.1.1, ⟨hk.1.2.1, ⟨hk.1.2.2.1, ⟨hk.2, ⟨hk.1.2.2.2.1, hk.1.2.2.2.2⟩⟩⟩⟩⟩)), (by (with_reducible repeat apply Kd.R_alloc); exact Kd.R_mono HO355.out (fun _ hk => ⟨hk.1.1, ⟨hk.1.2.1, ⟨hk.1.2.2.1, ⟨hk.2, ⟨hk.1.2.2.2.1, hk.1.2.2.2.2⟩⟩⟩⟩⟩)), (by (with_reducible repeat apply Kd.R_alloc); exact HO361.out), (by (with_reducible repeat apply Kd.R_alloc); exact Kd.R_mono HO364.out (fun _ hk => ⟨hk.1.1, ⟨hk.1.2.1, ⟨hk.1.2.2.1, ⟨hk.1.2.2.2.1, ⟨hk.2, hk.1.2.2.2.2⟩⟩⟩⟩⟩)), (by (with_reducible repeat (first | refine blk_drewN ?_ _ | refine blk_drew ?_ | refine blk_alloc ?_ _)); exact BK340.out), (by repeat (first | (with_reducible first | exact HB.out | apply below_alloc | apply pw_below_drewN | apply below_drew1 | refine below_set ?_ GE340.out) | exact HB.out))⟩)
         rintro ⟨v357, v360, v363⟩ w34 ⟨hS_, h0_, h1_, h2_, h3_, h4_, h5_, h6_, h7_⟩
         have n0_ : Aside0 (Kd.R k41 41 w34 w.heap.size (fun k_ => some k_ ≠ (.slice Ao16 t335.length co16 : Value).ownBlock ∧ some k_ ≠ (.slice Ao27 y350.length co27 : Value).ownBlock ∧ some k_ ≠ (v354 : Value).ownBlock ∧ some k_ ≠ (v360 : Value).ownBlock ∧ some k_ ≠ (v363 : Value).ownBlock ∧ k_ ≠ gb340) (.slice Ao15 t334.length co15) t334) := ⟨h0_⟩
         have n1_ : Aside0 (Kd.R k41 41 w34 w.heap.size (fun k_ => some k_ ≠ (.slice Ao15 t334.length co15 : Value).ownBlock ∧ some k_ ≠ (.slice Ao27 y350.length co27 : Value).ownBlock ∧ some k_ ≠ (v354 : Value).ownBlock ∧ some k_ ≠ (v360 : Value).ownBlock ∧ some k_ ≠ (v363 : Value).ownBlock ∧ k_ ≠ gb340) (.slice Ao16 t335.length co16) t335) := ⟨h1_⟩
         have n2_ : Aside0 (Kd.R k41 41 w34 w.heap.size (fun k_ => some k_ ≠ (.slice Ao15 t334.length co15 : Value).ownBlock ∧ some k_ ≠ (.slice Ao16 t335.length co16 : Value).ownBlock ∧ some k_ ≠ (v354 : Value).ownBlock ∧ some k_ ≠ (v360 : Value).ownBlock ∧ some k_ ≠ (v363 : Value).ownBlock ∧ k_ ≠ gb340) (.slice Ao27 y350.length co27) y350) := ⟨h2_⟩
         have n3_ : Aside0 (Kd.R k41 41 w34 w.heap.size (fun k_ => some k_ ≠ (.slice Ao15 t334.length co15 : Value).ownBlock ∧ some k_ ≠ (.slice Ao16 t335.length co16 : Value).ownBlock ∧ some k_ ≠ (.slice Ao27 y350.length co27 : Value).ownBlock ∧ some k_ ≠ (v360 : Value).ownBlock ∧ some k_ ≠ (v363 : Value).ownBlock ∧ k_ ≠ gb340) v354 y353) := ⟨h3_⟩
         have n4_ : Aside0 (Kd.R k41 41 w34 w.heap.size (fun k_ => some k_ ≠ (.slice Ao15 t334.length co15 : Value).ownBlock ∧ some k_ ≠ (.slice Ao16 t335.length co16 : Value).ownBlock ∧ some k_ ≠ (.slice Ao27 y350.length co27 : Value).ownBlock ∧ some k_ ≠ (v354 : Value).ownBlock ∧ some k_ ≠ (v363 : Value).ownBlock ∧ k_ ≠ gb340) v360 y359) := ⟨h4_⟩
         have n5_ : Aside0 (Kd.R k41 41 w34 w.heap.size (fun k_ => some k_ ≠ (.slice Ao15 t334.length co15 : Value).ownBlock ∧ some k_ ≠ (.slice Ao16 t335.length co16 : Value).ownBlock ∧ some k_ ≠ (.slice Ao27 y350.length co27 : Value).ownBlock ∧ some k_ ≠ (v354 : Value).ownBlock ∧ some k_ ≠ (v360 : Value).ownBlock ∧ k_ ≠ gb340) v363 y362) := ⟨h5_⟩
         have n6_ : Aside0 (w34.heap[gb340]? = some (.cells #[.int .i64 2, .int .i64 0] 41 (0, 0))) := ⟨h6_⟩
         have n7_ : Aside0 (Below w.heap.size w w34) := ⟨h7_⟩
         clear HO337
         clear HO339
         clear HO352
         clear HO355
         clear BK340
         clear HB
         clear h0_ h1_ h2_ h3_ h4_ h5_ h6_ h7_
         have HO337 := n0_
         have HO339 := n1_
         have HO352 := n2_
         have HO355 := n3_
         have HO361 := n4_
         have HO364 := n5_
         have BK340 := n6_
         have HB := n7_
         clear n0_ n1_ n2_ n3_ n4_ n5_ n6_ n7_
         have hHeld : w34.cell? ⟨gb340, 0, none⟩ = some (.int .i64 2) ∧ w34.cell? ⟨gb340, 1, none⟩ = some (.int .i64 0) := hS_
         obtain ⟨Ao36, co36, eo36⟩ := Kd.R_slice HO364.out
         (first | subst eo36 | (injection eo36 with f1_ f2_ f3_; have f4_ := f1_.symm; have f5_ := f3_.symm; clear f1_ f2_ f3_; subst f4_; subst f5_))
         refine norm_ (a' := ?_) ?_ ?_
         rotate_left
         ·simp only [putAll, Act.put, List.setIfInBounds_toArray, List.set_cons_zero, List.set_cons_succ]
          rfl
         refine one_ (i := 5) (N := some 33) #[true, true, true, true, true, true, false] rfl rfl (by kernel_rfl) (by decide) (fun K hK => ?_)
         refine Kd.R_append_rows_step k41 (w0 := w) w.heap.size (by rfl) (.tmp 30) (.tmp 32) 23 41 (.agg #[(.int .i64 0), (.int .i64 0)]) 16 rfl Try.underlying23 info41 rfl (by decide) (by omega) v360 y359 y362 _ _ _ (fun k_ => some k_ ≠ (.slice Ao15 t334.length co15 : Value).ownBlock ∧ some k_ ≠ (.slice Ao16 t335.length co16 : Value).ownBlock ∧ some k_ ≠ (.slice Ao27 y350.length co27 : Value).ownBlock ∧ some k_ ≠ (v354 : Value).ownBlock ∧ some k_ ≠ (.slice Ao36 y362.length co36 : Value).ownBlock ∧ k_ ≠ gb340) (fun _ => False) rfl rfl ?aO ?aR (fun _ _ h => h) (fun _ h => h.elim) ?aF ?aB ?aS ?aL ?_
         (case aR => repeat (first | exact (Kd.R_reads' HO364.out).2.2 | (with_reducible refine Kd.C_alloc ?_ _) | (with_reducible refine Kd.C_drewN ?_ _) | (with_reducible refine Kd.C_drew ?_)))
         (case aB => exact (by repeat (first | (with_reducible first | exact HB.out | apply below_alloc | apply pw_below_drewN | apply below_drew1 | refine below_set ?_ GE340.out) | exact HB.out)))
         (case aF => exact (fun k_ hk => ⟨Kd.fresh' (Kd.R_lt (by (with_reducible repeat apply Kd.R_alloc); exact HO337.out)) k_ hk, Kd.fresh' (Kd.R_lt (by (with_reducible repeat apply Kd.R_alloc); exact HO339.out)) k_ hk, Kd.fresh' (Kd.R_lt (by (with_reducible repeat apply Kd.R_alloc); exact HO352.out)) k_ hk, Kd.fresh' (Kd.R_lt (by (with_reducible repeat apply Kd.R_alloc); exact HO355.out)) k_ hk, Kd.fresh' (Kd.R_lt (by (with_reducible repeat apply Kd.R_alloc); exact HO364.out)) k_ hk, Kd.freshB (g := gb340) (o := .cells #[.int .i64 2, .int .i64 0] 41 (0, 0)) (by (with_reducible repeat (first | refine blk_drewN ?_ _ | refine blk_drew ?_ | refine blk_alloc ?_ _)); exact BK340.out) k_ hk⟩))
         (case aO => exact (by (with_reducible repeat apply Kd.R_alloc); exact HO361.out))
         (case aS => exact (below_size (by repeat (first | (with_reducible first | exact HB.out | apply below_alloc | apply pw_below_drewN | apply below_drew1 | refine below_set ?_ GE340.out) | exact HB.out))))
         (case aL => have := LMc8.out; omega)
         intro v366 w35 ho hb hg hat
         rw [← Ny365.out] at ho
         have n0_ := Aside0.mk (Kd.R_after (ok := (fun k_ => some k_ ≠ (.slice Ao16 t335.length co16 : Value).ownBlock ∧ some k_ ≠ (.slice Ao27 y350.length co27 : Value).ownBlock ∧ some k_ ≠ (v354 : Value).ownBlock ∧ some k_ ≠ (.slice Ao36 y362.length co36 : Value).ownBlock ∧ k_ ≠ gb340)) (by (with_reducible repeat apply Kd.R_alloc); exact Kd.R_mono HO337.out (fun _ hk => ⟨⟨hk.1, ⟨hk.2.1, ⟨hk.2.2.1, ⟨hk.2.2.2.2.1, hk.2.2.2.2.2⟩⟩⟩⟩, hk.2.2.2.1⟩)) hg hat)
         have n1_ := Aside0.mk (Kd.R_after (ok := (fun k_ => some k_ ≠ (.slice Ao15 t334.length co15 : Value).ownBlock ∧ some k_ ≠ (.slice Ao27 y350.length co27 : Value).ownBlock ∧ some k_ ≠ (v354 : Value).ownBlock ∧ some k_ ≠ (.slice Ao36 y362.length co36 : Value).ownBlock ∧ k_ ≠ gb340)) (by (with_reducible repeat apply Kd.R_alloc); exact Kd.R_mono HO339.out (fun _ hk => ⟨⟨hk.1, ⟨hk.2.1, ⟨hk.2.2.1, ⟨hk.2.2.2.2.1, hk.2.2.2.2.2⟩⟩⟩⟩, hk.2.2.2.1⟩)) hg hat)
         have n2_ := Aside0.mk (blk_grown (g := gb340) (o := .cells #[.int .i64 2, .int .i64 0] 41 (0, 0)) (by (with_reducible repeat (first | refine blk_drewN ?_ _ | refine blk_drew ?_ | refine blk_alloc ?_ _)); exact BK340.out) hg (Kd.R_away HO361.out (fun _ hk => hk.2.2.2.2.2)))
         have n3_ := Aside0.mk (Kd.R_after (ok := (fun k_ => some k_ ≠ (.slice Ao15 t334.length co15 : Value).ownBlock ∧ some k_ ≠ (.slice Ao16 t335.length co16 : Value).ownBlock ∧ some k_ ≠ (v354 : Value).ownBlock ∧ some k_ ≠ (.slice Ao36 y362.length co36 : Value).ownBlock ∧ k_ ≠ gb340)) (by (with_reducible repeat apply Kd.R_alloc); exact Kd.R_mono HO352.out (fun _ hk => ⟨⟨hk.1, ⟨hk.2.1, ⟨hk.2.2.1, ⟨hk.2.2.2.2.1, hk.2.2.2.2.2⟩⟩⟩⟩, hk.2.2.2.1⟩)) hg hat)
         have n4_ := Aside0.mk (Kd.R_after (ok := (fun k_ => some k_ ≠ (.slice Ao15 t334.length co15 : Value).ownBlock ∧ some k_ ≠ (.slice Ao16 t335.length co16 : Value).ownBlock ∧ some k_ ≠ (.slice Ao27 y350.length co27 : Value).ownBlock ∧ some k_ ≠ (.slice Ao36 y362.length co36 : Value).ownBlock ∧ k_ ≠ gb340)) (by (with_reducible repeat apply Kd.R_alloc); exact Kd.R_mono HO355.out (fun _ hk => ⟨⟨hk.1, ⟨hk.2.1, ⟨hk.2.2.1, ⟨hk.2.2.2.2.1, hk.2.2.2.2.2⟩⟩⟩⟩, hk.2.2.2.1⟩)) hg hat)
         have n5_ := Aside0.mk (Kd.R_after (ok := (fun k_ => some k_ ≠ (.slice Ao15 t334.length co15 : Value).ownBlock ∧ some k_ ≠ (.slice Ao16 t335.length co16 : Value).ownBlock ∧ some k_ ≠ (.slice Ao27 y350.length co27 : Value).ownBlock ∧ some k_ ≠ (v354 : Value).ownBlock ∧ k_ ≠ gb340)) (by (with_reducible repeat apply Kd.R_alloc); exact Kd.R_mono HO364.out (fun _ hk => ⟨⟨hk.1, ⟨hk.2.1, ⟨hk.2.2.1, ⟨hk.2.2.2.1, hk.2.2.2.2.2⟩⟩⟩⟩, hk.2.2.2.2.1⟩)) hg hat)
         have n6_ := Aside0.mk (hb)
         have n7_ := Aside0.mk (ho)
         clear HO337
         clear HO339
         clear BK340
         clear HO352
         clear HO355
         clear HO364
         clear HB
         clear HO361
         have HO337 := n0_
         have HO339 := n1_
         have BK340 := n2_
         have HO352 := n3_
         have HO355 := n4_
         have HO364 := n5_
         have HB := n6_
         have HO367 := n7_
         clear n0_ n1_ n2_ n3_ n4_ n5_ n6_ n7_
         clear ho hb hg hat
         refine hK.out _ _ ⟨(blk_cell BK340.out 0).trans rfl, (blk_cell BK340.out 1).trans rfl⟩ (fun hHeld => ?_)
         clear hK K
         refine norm_ (a' := ?_) ?_ ?_
         rotate_left
         ·show Act.put _ (some 33) _ = _
          simp only [Act.put, List.setIfInBounds_toArray, List.set_cons_zero, List.set_cons_succ, i64_w, i32_w]
          rfl
         refine pure_ (i := 6) (N := some 8) (v := ?_) (a' := ?_) #[true, true, true, true, true, true, true] rfl rfl (by kernel_rfl) (fun _ _ _ h => h) (Or.inl ⟨by rfl, ?_⟩) ?_ ?_
         rotate_left
         ·intro w'
          go_simp
          with_reducible rfl
         rotate_left
         ·simp only [Act.put, List.setIfInBounds_toArray, List.set_cons_zero, List.set_cons_succ, i64_w, i32_w]
          rfl
         refine done_ (by kernel_rfl) ?_
         obtain ⟨Ao37, co37, eo37⟩ := Kd.R_slice HO367.out
         subst eo37
         try go_wp2
         have n0_ := Aside0.mk (Kd.R_drew HO337.out)
         have n1_ := Aside0.mk (Kd.R_drew HO339.out)
         have n2_ := Aside0.mk (Kd.R_drew HO352.out)
         have n3_ := Aside0.mk (Kd.R_drew HO355.out)
         have n4_ := Aside0.mk (Kd.R_drew HO364.out)
         have n5_ := Aside0.mk (Kd.R_drew HO367.out)
         have n6_ := Aside0.mk (blk_drew BK340.out)
         have n7_ := Aside0.mk (below_drew1 HB.out)
         clear HO337
         clear HO339
         clear HO352
         clear HO355
         clear HO364
         clear HO367
         clear BK340
         clear HB
         have HO337 := n0_
         have HO339 := n1_
         have HO352 := n2_
         have HO355 := n3_
         have HO364 := n4_
         have HO367 := n5_
         have BK340 := n6_
         have HB := n7_
         clear n0_ n1_ n2_ n3_ n4_ n5_ n6_ n7_
         refine start_ (n := 8) (S := fun w' => w'.cell? ⟨gb340, 0, none⟩ = some (.int .i64 2) ∧ w'.cell? ⟨gb340, 1, none⟩ = some (.int .i64 0)) (ds := []) #[false, false, false, false, false, false, false, false] (by kernel_rfl) rfl rfl ⟨(blk_cell BK340.out 0).trans rfl, (blk_cell BK340.out 1).trans rfl⟩ (fun hHeld => ?_); refine with_tabW laws_FnNotEither.tab7 laws_FnNotEither.bits7 (fun HT_ HW_ => ?_)
         generalize w35.drew = w38 at HO337 HO339 HO352 HO355 HO364 HO367 BK340 HB hHeld ⊢
         refine pure_ (i := 0) (N := some 34) (v := ?_) (a' := ?_) #[true, false, false, false, false, false, false, false] rfl rfl (any_of HT_.out (by kernel_rfl)) (fun _ _ _ h => h) (Or.inl ⟨by rfl, ?_⟩) ?_ ?_
         rotate_left
         ·intro w'
          go_simp
          with_reducible rfl
         rotate_left
         ·simp only [Act.put, List.setIfInBounds_toArray, List.set_cons_zero, List.set_cons_succ, i64_w, i32_w]
          rfl
         refine pure_ (i := 1) (N := some 35) (v := ?_) (a' := ?_) #[true, true, false, false, false, false, false, false] rfl rfl (any_of HT_.out (by kernel_rfl)) (fun _ _ _ h => h) (Or.inl ⟨by rfl, ?_⟩) ?_ ?_
         rotate_left
         ·intro w'
          go_simp
          with_reducible rfl
         rotate_left
         ·simp only [Act.put, List.setIfInBounds_toArray, List.set_cons_zero, List.set_cons_succ, i64_w, i32_w]
          rfl
         refine pure_ (i := 4) (N := some 38) (v := ?_) (a' := ?_) #[true, true, false, false, true, false, false, false] rfl rfl (any_of HT_.out (by kernel_rfl)) (fun _ _ _ h => h) (Or.inl ⟨by rfl, ?_⟩) ?_ ?_
         rotate_left
         ·intro w'
          go_simp
          with_reducible rfl
         rotate_left
         ·simp only [Act.put, List.setIfInBounds_toArray, List.set_cons_zero, List.set_cons_succ, i64_w, i32_w]
          rfl
         refine take_ (i := 3) (N := some 37) (v := ?_) (a' := ?_) #[true, true, false, true, true, false, false, false] rfl rfl (take_ofW HT_.out HW_.out (by kernel_rfl)) (fun _ _ _ h => h) (Or.inl ⟨by rfl, ?_⟩) hHeld ?_ ?_
         rotate_left
         ·rintro w' ⟨s0, s1⟩
          go_simp
          with_reducible rfl
         rotate_left
         ·simp only [Act.put, List.setIfInBounds_toArray, List.set_cons_zero, List.set_cons_succ, i64_w, i32_w]
          rfl
         refine join_ (σ := Value × Value) 2 #[true, true, true, true, true, true, false, false] (fun s_ => [(36, s_.1), (39, s_.2)]) (fun s_ w' => (w'.cell? ⟨gb340, 0, none⟩ = some (.int .i64 2) ∧ w'.cell? ⟨gb340, 1, none⟩ = some (.int .i64 0)) ∧ (Kd.R k41 41 w' w.heap.size (fun k_ => some k_ ≠ (.slice Ao16 t335.length co16 : Value).ownBlock ∧ some k_ ≠ (.slice Ao27 y350.length co27 : Value).ownBlock ∧ some k_ ≠ (v354 : Value).ownBlock ∧ some k_ ≠ (.slice Ao36 y362.length co36 : Value).ownBlock ∧ some k_ ≠ (s_.1 : Value).ownBlock ∧ some k_ ≠ (s_.2 : Value).ownBlock ∧ k_ ≠ gb340) (.slice Ao15 t334.length co15) t334) ∧ (Kd.R k41 41 w' w.heap.size (fun k_ => some k_ ≠ (.slice Ao15 t334.length co15 : Value).ownBlock ∧ some k_ ≠ (.slice Ao27 y350.length co27 : Value).ownBlock ∧ some k_ ≠ (v354 : Value).ownBlock ∧ some k_ ≠ (.slice Ao36 y362.length co36 : Value).ownBlock ∧ some k_ ≠ (s_.1 : Value).ownBlock ∧ some k_ ≠ (s_.2 : Value).ownBlock ∧ k_ ≠ gb340) (.slice Ao16 t335.length co16) t335) ∧ (Kd.R k41 41 w' w.heap.size (fun k_ => some k_ ≠ (.slice Ao15 t334.length co15 : Value).ownBlock ∧ some k_ ≠ (.slice Ao16 t335.length co16 : Value).ownBlock ∧ some k_ ≠ (v354 : Value).ownBlock ∧ some k_ ≠ (.slice Ao36 y362.length co36 : Value).ownBlock ∧ some k_ ≠ (s_.1 : Value).ownBlock ∧ some k_ ≠ (s_.2 : Value).ownBlock ∧ k_ ≠ gb340) (.slice Ao27 y350.length co27) y350) ∧ (Kd.R k41 41 w' w.heap.size (fun k_ => some k_ ≠ (.slice Ao15 t334.length co15 : Value).ownBlock ∧ some k_ ≠ (.slice Ao16 t335.length co16 : Value).ownBlock ∧ some k_ ≠ (.slice Ao27 y350.length co27 : Value).ownBlock ∧ some k_ ≠ (.slice Ao36 y362.length co36 : Value).ownBlock ∧ some k_ ≠ (s_.1 : Value).ownBlock ∧ some k_ ≠ (s_.2 : Value).ownBlock ∧ k_ ≠ gb340) v354 y353) ∧ (Kd.R k41 41 w' w.heap.size (fun k_ => some k_ ≠ (.slice Ao15 t334.length co15 : Value).ownBlock ∧ some k_ ≠ (.slice Ao16 t335.length co16 : Value).ownBlock ∧ some k_ ≠ (.slice Ao27 y350.length co27 : Value).ownBlock ∧ some k_ ≠ (v354 : Value).ownBlock ∧ some k_ ≠ (s_.1 : Value).ownBlock ∧ some k_ ≠ (s_.2 : Value).ownBlock ∧ k_ ≠ gb340) (.slice Ao36 y362.length co36) y362) ∧ (Kd.R k41 41 w' w.heap.size (fun k_ => some k_ ≠ (.slice Ao15 t334.length co15 : Value).ownBlock ∧ some k_ ≠ (.slice Ao16 t335.length co16 : Value).ownBlock ∧ some k_ ≠ (.slice Ao27 y350.length co27 : Value).ownBlock ∧ some k_ ≠ (v354 : Value).ownBlock ∧ some k_ ≠ (.slice Ao36 y362.length co36 : Value).ownBlock ∧ some k_ ≠ (s_.2 : Value).ownBlock ∧ k_ ≠ gb340) s_.1 y368) ∧ (Kd.R k41 41 w' w.heap.size (fun k_ => some k_ ≠ (.slice Ao15 t334.length co15 : Value).ownBlock ∧ some k_ ≠ (.slice Ao16 t335.length co16 : Value).ownBlock ∧ some k_ ≠ (.slice Ao27 y350.length co27 : Value).ownBlock ∧ some k_ ≠ (v354 : Value).ownBlock ∧ some k_ ≠ (.slice Ao36 y362.length co36 : Value).ownBlock ∧ some k_ ≠ (s_.1 : Value).ownBlock ∧ k_ ≠ gb340) s_.2 y371) ∧ (w'.heap[gb340]? = some (.cells #[.int .i64 2, .int .i64 0] 41 (0, 0))) ∧ (Below w.heap.size w w')) ?_ ?_
         rotate_left
         ·intro hCont
          refine two_ (i := 2) (j := 5) (Ni := some 36) (Nj := some 39) #[true, true, true, true, true, false, false, false] #[true, true, false, true, true, true, false, false] rfl rfl rfl rfl (two_of HT_.out (by kernel_rfl)) (by decide) (by decide) (fun K hK => ?_) (fun K hK => ?_)
          ·skip
           refine Kd.R_append_rows_step k41 (w0 := w) w.heap.size (by rfl) (.tmp 34) (.tmp 35) 23 41 (.agg #[(.int .i64 0), (.int .i64 0)]) 16 rfl Try.underlying23 info41 rfl (by decide) (by omega) (.slice Ao37 y365.length co37) y365 t335 _ _ _ (fun k_ => some k_ ≠ (.slice Ao15 t334.length co15 : Value).ownBlock ∧ some k_ ≠ (.slice Ao16 t335.length co16 : Value).ownBlock ∧ some k_ ≠ (.slice Ao27 y350.length co27 : Value).ownBlock ∧ some k_ ≠ (v354 : Value).ownBlock ∧ some k_ ≠ (.slice Ao36 y362.length co36 : Value).ownBlock ∧ k_ ≠ gb340) (fun _ => False) rfl rfl ?aO ?aR (fun _ _ h => h) (fun _ h => h.elim) ?aF ?aB ?aS ?aL ?_
           (case aR => repeat (first | exact (Kd.R_reads' HO339.out).2.2 | (with_reducible refine Kd.C_alloc ?_ _) | (with_reducible refine Kd.C_drewN ?_ _) | (with_reducible refine Kd.C_drew ?_)))
           (case aB => exact (by repeat (first | (with_reducible first | exact HB.out | apply below_alloc | apply pw_below_drewN | apply below_drew1 | refine below_set ?_ GE340.out) | exact HB.out)))
           (case aF => exact (fun k_ hk => ⟨Kd.fresh' (Kd.R_lt (by (with_reducible repeat apply Kd.R_alloc); exact HO337.out)) k_ hk, Kd.fresh' (Kd.R_lt (by (with_reducible repeat apply Kd.R_alloc); exact HO339.out)) k_ hk, Kd.fresh' (Kd.R_lt (by (with_reducible repeat apply Kd.R_alloc); exact HO352.out)) k_ hk, Kd.fresh' (Kd.R_lt (by (with_reducible repeat apply Kd.R_alloc); exact HO355.out)) k_ hk, Kd.fresh' (Kd.R_lt (by (with_reducible repeat apply Kd.R_alloc); exact HO364.out)) k_ hk, Kd.freshB (g := gb340) (o := .cells #[.int .i64 2, .int .i64 0] 41 (0, 0)) (by (with_reducible repeat (first | refine blk_drewN ?_ _ | refine blk_drew ?_ | refine blk_alloc ?_ _)); exact BK340.out) k_ hk⟩))
           (case aO => exact (by (with_reducible repeat apply Kd.R_alloc); exact HO367.out))
           (case aS => exact (below_size (by repeat (first | (with_reducible first | exact HB.out | apply below_alloc | apply pw_below_drewN | apply below_drew1 | refine below_set ?_ GE340.out) | exact HB.out))))
           (case aL => have := LMc9.out; omega)
           intro v369 w39 ho hb hg hat
           rw [← Ny368.out] at ho
           have n0_ := Aside0.mk (Kd.R_after (ok := (fun k_ => some k_ ≠ (.slice Ao16 t335.length co16 : Value).ownBlock ∧ some k_ ≠ (.slice Ao27 y350.length co27 : Value).ownBlock ∧ some k_ ≠ (v354 : Value).ownBlock ∧ some k_ ≠ (.slice Ao36 y362.length co36 : Value).ownBlock ∧ k_ ≠ gb340)) (by (with_reducible repeat apply Kd.R_alloc); exact HO337.out) hg hat)
           have n1_ := Aside0.mk (Kd.R_after (ok := (fun k_ => some k_ ≠ (.slice Ao15 t334.length co15 : Value).ownBlock ∧ some k_ ≠ (.slice Ao27 y350.length co27 : Value).ownBlock ∧ some k_ ≠ (v354 : Value).ownBlock ∧ some k_ ≠ (.slice Ao36 y362.length co36 : Value).ownBlock ∧ k_ ≠ gb340)) (by (with_reducible repeat apply Kd.R_alloc); exact HO339.out) hg hat)
           have n2_ := Aside0.mk (blk_grown (g := gb340) (o := .cells #[.int .i64 2, .int .i64 0] 41 (0, 0)) (by (with_reducible repeat (first | refine blk_drewN ?_ _ | refine blk_drew ?_ | refine blk_alloc ?_ _)); exact BK340.out) hg (Kd.R_away HO367.out (fun _ hk => hk.2.2.2.2.2)))
           have n3_ := Aside0.mk (Kd.R_after (ok := (fun k_ => some k_ ≠ (.slice Ao15 t334.length co15 : Value).ownBlock ∧ some k_ ≠ (.slice Ao16 t335.length co16 : Value).ownBlock ∧ some k_ ≠ (v354 : Value).ownBlock ∧ some k_ ≠ (.slice Ao36 y362.length co36 : Value).ownBlock ∧ k_ ≠ gb340)) (by (with_reducible repeat apply Kd.R_alloc); exact HO352.out) hg hat)
           have n4_ := Aside0.mk (Kd.R_after (ok := (fun k_ => some k_ ≠ (.slice Ao15 t334.length co15 : Value).ownBlock ∧ some k_ ≠ (.slice Ao16 t335.length co16 : Value).ownBlock ∧ some k_ ≠ (.slice Ao27 y350.length co27 : Value).ownBlock ∧ some k_ ≠ (.slice Ao36 y362.length co36 : Value).ownBlock ∧ k_ ≠ gb340)) (by (with_reducible repeat apply Kd.R_alloc); exact HO355.out) hg hat)
           have n5_ := Aside0.mk (Kd.R_after (ok := (fun k_ => some k_ ≠ (.slice Ao15 t334.length co15 : Value).ownBlock ∧ some k_ ≠ (.slice Ao16 t335.length co16 : Value).ownBlock ∧ some k_ ≠ (.slice Ao27 y350.length co27 : Value).ownBlock ∧ some k_ ≠ (v354 : Value).ownBlock ∧ k_ ≠ gb340)) (by (with_reducible repeat apply Kd.R_alloc); exact HO364.out) hg hat)
           have n6_ := Aside0.mk (hb)
           have n7_ := Aside0.mk (ho)
           clear HO337
           clear HO339
           clear BK340
           clear HO352
           clear HO355
           clear HO364
           clear HB
           clear HO367
           have HO337 := n0_
           have HO339 := n1_
           have BK340 := n2_
           have HO352 := n3_
           have HO355 := n4_
           have HO364 := n5_
           have HB := n6_
           have HO370 := n7_
           clear n0_ n1_ n2_ n3_ n4_ n5_ n6_ n7_
           clear ho hb hg hat
           refine hK.out _ _ ⟨(blk_cell BK340.out 0).trans rfl, (blk_cell BK340.out 1).trans rfl⟩ (fun hHeld => ?_)
           clear hK K
           refine norm_ (a' := ?_) ?_ ?_
           rotate_left
           ·show Act.put _ (some 36) _ = _
            simp only [Act.put, List.setIfInBounds_toArray, List.set_cons_zero, List.set_cons_succ, i64_w, i32_w]
            rfl
           refine one_ (i := 5) (N := some 39) #[true, true, true, true, true, true, false, false] rfl rfl (one_of HT_.out (by kernel_rfl)) (by decide) (fun K hK => ?_)
           refine Kd.R_lit_step k41 _ 41 ?hg (N := 39) ?hd (xs := ([(⟨2, 0⟩ : S41), (⟨3, 0⟩ : S41)] : List (S41))) (inner := [.int .i64 2, .int .i64 0, .int .i64 3, .int .i64 0]) (ok := fun _ => True) (okp := fun _ => True) ?hr ?hp (fun _ hk => hk) trivial (Below.refl _ _) (Nat.le_refl _) (by simp) ?_; (case hd => rfl); (case hg => rfl); (case hr => first | (go_simp; done) | (go_simp; rfl)); (case hp => exact (Reps.c2 (show Kd.M k41 _ _ _ (⟨2, 0⟩ : S41) [.int .i64 2, .int .i64 0] from (k41_mkM _ _ _ (⟨2, 0⟩ : S41) )) (Reps.c2 (show Kd.M k41 _ _ _ (⟨3, 0⟩ : S41) [.int .i64 3, .int .i64 0] from (k41_mkM _ _ _ (⟨3, 0⟩ : S41) )) (Reps.none _ _))))
           intro v372 w40 ho41 hb hg_ hnew_
           clear hg_ hnew_
           (first | rw [← Ny371.out] at ho41 | (simp only [Int.reduceToNat] at ho41; rw [← Ny371.out] at ho41))
           have n0_ := Aside0.mk (Kd.R_elder' (by (with_reducible repeat apply Kd.R_alloc); exact HO337.out) (Kd.R_base ho41) hb)
           have n1_ := Aside0.mk (Kd.R_elder' (by (with_reducible repeat apply Kd.R_alloc); exact HO339.out) (Kd.R_base ho41) hb)
           have n2_ := Aside0.mk (Kd.R_elder' (by (with_reducible repeat apply Kd.R_alloc); exact HO352.out) (Kd.R_base ho41) hb)
           have n3_ := Aside0.mk (Kd.R_elder' (by (with_reducible repeat apply Kd.R_alloc); exact HO355.out) (Kd.R_base ho41) hb)
           have n4_ := Aside0.mk (Kd.R_elder' (by (with_reducible repeat apply Kd.R_alloc); exact HO364.out) (Kd.R_base ho41) hb)
           have n5_ := Aside0.mk (Kd.R_elder' (by (with_reducible repeat apply Kd.R_alloc); exact HO370.out) (Kd.R_base ho41) hb)
           have n6_ := Aside0.mk (Kd.R_lower (Kd.R_newB (Kd.R_new' (Kd.R_new' (Kd.R_new' (Kd.R_new' (Kd.R_new' (Kd.R_new' ho41 (Kd.R_lt (by (with_reducible repeat apply Kd.R_alloc); exact HO337.out))) (Kd.R_lt (by (with_reducible repeat apply Kd.R_alloc); exact HO339.out))) (Kd.R_lt (by (with_reducible repeat apply Kd.R_alloc); exact HO352.out))) (Kd.R_lt (by (with_reducible repeat apply Kd.R_alloc); exact HO355.out))) (Kd.R_lt (by (with_reducible repeat apply Kd.R_alloc); exact HO364.out))) (Kd.R_lt (by (with_reducible repeat apply Kd.R_alloc); exact HO370.out))) (g := gb340) (o := .cells #[.int .i64 2, .int .i64 0] 41 (0, 0)) (by (with_reducible repeat (first | refine blk_drewN ?_ _ | refine blk_drew ?_ | refine blk_alloc ?_ _)); exact BK340.out)) (below_size (by repeat (first | (with_reducible first | exact HB.out | apply below_alloc | apply pw_below_drewN | apply below_drew1 | refine below_set ?_ GE340.out) | exact HB.out))))
           have n7_ := Aside0.mk (blk_below (g := gb340) (o := .cells #[.int .i64 2, .int .i64 0] 41 (0, 0)) (by (with_reducible repeat (first | refine blk_drewN ?_ _ | refine blk_drew ?_ | refine blk_alloc ?_ _)); exact BK340.out) hb)
           have n8_ := Aside0.mk (below_step (by repeat (first | (with_reducible first | exact HB.out | apply below_alloc | apply pw_below_drewN | apply below_drew1 | refine below_set ?_ GE340.out) | exact HB.out)) hb)
           clear HO337
           clear HO339
           clear HO352
           clear HO355
           clear HO364
           clear HO370
           clear BK340
           clear HB
           have HO337 := n0_
           have HO339 := n1_
           have HO352 := n2_
           have HO355 := n3_
           have HO364 := n4_
           have HO370 := n5_
           have HO373 := n6_
           have BK340 := n7_
           have HB := n8_
           clear n0_ n1_ n2_ n3_ n4_ n5_ n6_ n7_ n8_
           clear hb ho41
           refine hK.out _ _ ⟨(blk_cell BK340.out 0).trans rfl, (blk_cell BK340.out 1).trans rfl⟩ (fun hHeld => ?_)
           clear hK K
           refine norm_ (a' := ?_) ?_ ?_
           rotate_left
           ·show Act.put _ (some 39) _ = _
            simp only [Act.put, List.setIfInBounds_toArray, List.set_cons_zero, List.set_cons_succ, i64_w, i32_w]
            rfl
           exact norm_ (by simp only [putAll, Act.put, List.setIfInBounds_toArray, List.set_cons_zero, List.set_cons_succ]) (hCont (v369, v372) _ ⟨hHeld, (by (with_reducible repeat apply Kd.R_alloc); exact Kd.R_mono HO337.out (fun _ hk => ⟨hk.1.1.1, ⟨hk.1.1.2.1, ⟨hk.1.1.2.2.1, ⟨hk.1.1.2.2.2.1, ⟨hk.1.2, ⟨hk.2, hk.1.1.2.2.2.2⟩⟩⟩⟩⟩⟩)), (by (with_reducible repeat apply Kd.R_alloc); exact Kd.R_mono HO339.out (fun _ hk => ⟨hk.1.1.1, ⟨hk.1.1.2.1, ⟨hk.1.1.2.2.1, ⟨hk.1.1.2.2.2.1, ⟨hk.1.2, ⟨hk.2, hk.1.1.2.2.2.2⟩⟩⟩⟩⟩⟩)), (by (with_reducible repeat apply Kd.R_alloc); exact Kd.R_mono HO352.out (fun _ hk => ⟨hk.1.1.1, ⟨hk.1.1.2.1, ⟨hk.1.1.2.2.1, ⟨hk.1.1.2.2.2.1, ⟨hk.1.2, ⟨hk.2, hk.1.1.2.2.2.2⟩⟩⟩⟩⟩⟩)), (by (with_reducible repeat apply Kd.R_alloc); exact Kd.R_mono HO355.out (fun _ hk => ⟨hk.1.1.1, ⟨hk.1.1.2.1, ⟨hk.1.1.2.2.1, ⟨hk.1.1.2.2.2.1, ⟨hk.1.2, ⟨hk.2, hk.1.1.2.2.2.2⟩⟩⟩⟩⟩⟩)), (by (with_reducible repeat apply Kd.R_alloc); exact Kd.R_mono HO364.out (fun _ hk => ⟨hk.1.1.1, ⟨hk.1.1.2.1, ⟨hk.1.1.2.2.1, ⟨hk.1.1.2.2.2.1, ⟨hk.1.2, ⟨hk.2, hk.1.1.2.2.2.2⟩⟩⟩⟩⟩⟩)), (by (with_reducible repeat apply Kd.R_alloc); exact Kd.R_mono HO370.out (fun _ hk => ⟨hk.1.1, ⟨hk.1.2.1, ⟨hk.1.2.2.1, ⟨hk.1.2.2.2.1, ⟨hk.1.2.2.2.2.1, ⟨hk.2, hk.1.2.2.2.2.2⟩⟩⟩⟩⟩⟩)), (by (with_reducible repeat apply Kd.R_alloc); exact Kd.R_mono HO373.out (fun _ hk => ⟨hk.1.1.1.1.1.1.2, ⟨hk.1.1.1.1.1.2, ⟨hk.1.1.1.1.2, ⟨hk.1.1.1.2, ⟨hk.1.1.2, ⟨hk.1.2, hk.2⟩⟩⟩⟩⟩⟩)), (by (with_reducible repeat (first | refine blk_drewN ?_ _ | refine blk_drew ?_ | refine blk_alloc ?_ _)); exact BK340.out), (by repeat (first | (with_reducible first | exact HB.out | apply below_alloc | apply pw_below_drewN | apply below_drew1 | refine below_set ?_ GE340.out) | exact HB.out))⟩)
          ·skip
           refine Kd.R_lit_step k41 _ 41 ?hg (N := 39) ?hd (xs := ([(⟨2, 0⟩ : S41), (⟨3, 0⟩ : S41)] : List (S41))) (inner := [.int .i64 2, .int .i64 0, .int .i64 3, .int .i64 0]) (ok := fun _ => True) (okp := fun _ => True) ?hr ?hp (fun _ hk => hk) trivial (Below.refl _ _) (Nat.le_refl _) (by simp) ?_; (case hd => rfl); (case hg => rfl); (case hr => first | (go_simp; done) | (go_simp; rfl)); (case hp => exact (Reps.c2 (show Kd.M k41 _ _ _ (⟨2, 0⟩ : S41) [.int .i64 2, .int .i64 0] from (k41_mkM _ _ _ (⟨2, 0⟩ : S41) )) (Reps.c2 (show Kd.M k41 _ _ _ (⟨3, 0⟩ : S41) [.int .i64 3, .int .i64 0] from (k41_mkM _ _ _ (⟨3, 0⟩ : S41) )) (Reps.none _ _))))
           intro v372 w39 ho40 hb hg_ hnew_
           clear hg_ hnew_
           (first | rw [← Ny371.out] at ho40 | (simp only [Int.reduceToNat] at ho40; rw [← Ny371.out] at ho40))
           have n0_ := Aside0.mk (Kd.R_elder' (by (with_reducible repeat apply Kd.R_alloc); exact HO337.out) (Kd.R_base ho40) hb)
           have n1_ := Aside0.mk (Kd.R_elder' (by (with_reducible repeat apply Kd.R_alloc); exact HO339.out) (Kd.R_base ho40) hb)
           have n2_ := Aside0.mk (Kd.R_elder' (by (with_reducible repeat apply Kd.R_alloc); exact HO352.out) (Kd.R_base ho40) hb)
           have n3_ := Aside0.mk (Kd.R_elder' (by (with_reducible repeat apply Kd.R_alloc); exact HO355.out) (Kd.R_base ho40) hb)
           have n4_ := Aside0.mk (Kd.R_elder' (by (with_reducible repeat apply Kd.R_alloc); exact HO364.out) (Kd.R_base ho40) hb)
           have n5_ := Aside0.mk (Kd.R_elder' (by (with_reducible repeat apply Kd.R_alloc); exact HO367.out) (Kd.R_base ho40) hb)
           have n6_ := Aside0.mk (Kd.R_lower (Kd.R_newB (Kd.R_new' (Kd.R_new' (Kd.R_new' (Kd.R_new' (Kd.R_new' (Kd.R_new' ho40 (Kd.R_lt (by (with_reducible repeat apply Kd.R_alloc); exact HO337.out))) (Kd.R_lt (by (with_reducible repeat apply Kd.R_alloc); exact HO339.out))) (Kd.R_lt (by (with_reducible repeat apply Kd.R_alloc); exact HO352.out))) (Kd.R_lt (by (with_reducible repeat apply Kd.R_alloc); exact HO355.out))) (Kd.R_lt (by (with_reducible repeat apply Kd.R_alloc); exact HO364.out))) (Kd.R_lt (by (with_reducible repeat apply Kd.R_alloc); exact HO367.out))) (g := gb340) (o := .cells #[.int .i64 2, .int .i64 0] 41 (0, 0)) (by (with_reducible repeat (first | refine blk_drewN ?_ _ | refine blk_drew ?_ | refine blk_alloc ?_ _)); exact BK340.out)) (below_size (by repeat (first | (with_reducible first | exact HB.out | apply below_alloc | apply pw_below_drewN | apply below_drew1 | refine below_set ?_ GE340.out) | exact HB.out))))
           have n7_ := Aside0.mk (blk_below (g := gb340) (o := .cells #[.int .i64 2, .int .i64 0] 41 (0, 0)) (by (with_reducible repeat (first | refine blk_drewN ?_ _ | refine blk_drew ?_ | refine blk_alloc ?_ _)); exact BK340.out) hb)
           have n8_ := Aside0.mk (below_step (by repeat (first | (with_reducible first | exact HB.out | apply below_alloc | apply pw_below_drewN | apply below_drew1 | refine below_set ?_ GE340.out) | exact HB.out)) hb)
           clear HO337
           clear HO339
           clear HO352
           clear HO355
           clear HO364
           clear HO367
           clear BK340
           clear HB
           have HO337 := n0_
           have HO339 := n1_
           have HO352 := n2_
           have HO355 := n3_
           have HO364 := n4_
           have HO367 := n5_
           have HO373 := n6_
           have BK340 := n7_
           have HB := n8_
           clear n0_ n1_ n2_ n3_ n4_ n5_ n6_ n7_ n8_
           clear hb ho40
           refine hK.out _ _ ⟨(blk_cell BK340.out 0).trans rfl, (blk_cell BK340.out 1).trans rfl⟩ (fun hHeld => ?_)
           clear hK K
           refine norm_ (a' := ?_) ?_ ?_
           rotate_left
           ·show Act.put _ (some 39) _ = _
            simp only [Act.put, List.setIfInBounds_toArray, List.set_cons_zero, List.set_cons_succ, i64_w, i32_w]
            rfl
           refine one_ (i := 2) (N := some 36) #[true, true, true, true, true, true, false, false] rfl rfl (one_of HT_.out (by kernel_rfl)) (by decide) (fun K hK => ?_)
           refine Kd.R_append_rows_step k41 (w0 := w) w.heap.size (by rfl) (.tmp 34) (.tmp 35) 23 41 (.agg #[(.int .i64 0), (.int .i64 0)]) 16 rfl Try.underlying23 info41 rfl (by decide) (by omega) (.slice Ao37 y365.length co37) y365 t335 _ _ _ (fun k_ => some k_ ≠ (.slice Ao15 t334.length co15 : Value).ownBlock ∧ some k_ ≠ (.slice Ao16 t335.length co16 : Value).ownBlock ∧ some k_ ≠ (.slice Ao27 y350.length co27 : Value).ownBlock ∧ some k_ ≠ (v354 : Value).ownBlock ∧ some k_ ≠ (.slice Ao36 y362.length co36 : Value).ownBlock ∧ some k_ ≠ (v372 : Value).ownBlock ∧ k_ ≠ gb340) (fun _ => False) rfl rfl ?aO ?aR (fun _ _ h => h) (fun _ h => h.elim) ?aF ?aB ?aS ?aL ?_
           (case aR => repeat (first | exact (Kd.R_reads' HO339.out).2.2 | (with_reducible refine Kd.C_alloc ?_ _) | (with_reducible refine Kd.C_drewN ?_ _) | (with_reducible refine Kd.C_drew ?_)))
           (case aB => exact (by repeat (first | (with_reducible first | exact HB.out | apply below_alloc | apply pw_below_drewN | apply below_drew1 | refine below_set ?_ GE340.out) | exact HB.out)))
           (case aF => exact (fun k_ hk => ⟨Kd.fresh' (Kd.R_lt (by (with_reducible repeat apply Kd.R_alloc); exact HO337.out)) k_ hk, Kd.fresh' (Kd.R_lt (by (with_reducible repeat apply Kd.R_alloc); exact HO339.out)) k_ hk, Kd.fresh' (Kd.R_lt (by (with_reducible repeat apply Kd.R_alloc); exact HO352.out)) k_ hk, Kd.fresh' (Kd.R_lt (by (with_reducible repeat apply Kd.R_alloc); exact HO355.out)) k_ hk, Kd.fresh' (Kd.R_lt (by (with_reducible repeat apply Kd.R_alloc); exact HO364.out)) k_ hk, Kd.fresh' (Kd.R_lt (by (with_reducible repeat apply Kd.R_alloc); exact HO373.out)) k_ hk, Kd.freshB (g := gb340) (o := .cells #[.int .i64 2, .int .i64 0] 41 (0, 0)) (by (with_reducible repeat (first | refine blk_drewN ?_ _ | refine blk_drew ?_ | refine blk_alloc ?_ _)); exact BK340.out) k_ hk⟩))
           (case aO => exact (by (with_reducible repeat apply Kd.R_alloc); exact Kd.R_mono HO367.out (fun _ hk => ⟨hk.1.1, ⟨hk.1.2.1, ⟨hk.1.2.2.1, ⟨hk.1.2.2.2.1, ⟨hk.1.2.2.2.2.1, ⟨hk.2, hk.1.2.2.2.2.2⟩⟩⟩⟩⟩⟩)))
           (case aS => exact (below_size (by repeat (first | (with_reducible first | exact HB.out | apply below_alloc | apply pw_below_drewN | apply below_drew1 | refine below_set ?_ GE340.out) | exact HB.out))))
           (case aL => have := LMc9.out; omega)
           intro v369 w41 ho hb hg hat
           rw [← Ny368.out] at ho
           have n0_ := Aside0.mk (Kd.R_after (ok := (fun k_ => some k_ ≠ (.slice Ao16 t335.length co16 : Value).ownBlock ∧ some k_ ≠ (.slice Ao27 y350.length co27 : Value).ownBlock ∧ some k_ ≠ (v354 : Value).ownBlock ∧ some k_ ≠ (.slice Ao36 y362.length co36 : Value).ownBlock ∧ some k_ ≠ (v372 : Value).ownBlock ∧ k_ ≠ gb340)) (by (with_reducible repeat apply Kd.R_alloc); exact Kd.R_mono HO337.out (fun _ hk => ⟨⟨hk.1.1.1, ⟨hk.1.1.2.1, ⟨hk.1.1.2.2.1, ⟨hk.1.1.2.2.2.1, ⟨hk.2, hk.1.1.2.2.2.2⟩⟩⟩⟩⟩, hk.1.2⟩)) hg hat)
           have n1_ := Aside0.mk (Kd.R_after (ok := (fun k_ => some k_ ≠ (.slice Ao15 t334.length co15 : Value).ownBlock ∧ some k_ ≠ (.slice Ao27 y350.length co27 : Value).ownBlock ∧ some k_ ≠ (v354 : Value).ownBlock ∧ some k_ ≠ (.slice Ao36 y362.length co36 : Value).ownBlock ∧ some k_ ≠ (v372 : Value).ownBlock ∧ k_ ≠ gb340)) (by (with_reducible repeat apply Kd.R_alloc); exact Kd.R_mono HO339.out (fun _ hk => ⟨⟨hk.1.1.1, ⟨hk.1.1.2.1, ⟨hk.1.1.2.2.1, ⟨hk.1.1.2.2.2.1, ⟨hk.2, hk.1.1.2.2.2.2⟩⟩⟩⟩⟩, hk.1.2⟩)) hg hat)
           have n2_ := Aside0.mk (blk_grown (g := gb340) (o := .cells #[.int .i64 2, .int .i64 0] 41 (0, 0)) (by (with_reducible repeat (first | refine blk_drewN ?_ _ | refine blk_drew ?_ | refine blk_alloc ?_ _)); exact BK340.out) hg (Kd.R_away HO367.out (fun _ hk => hk.1.2.2.2.2.2)))
           have n3_ := Aside0.mk (Kd.R_after (ok := (fun k_ => some k_ ≠ (.slice Ao15 t334.length co15 : Value).ownBlock ∧ some k_ ≠ (.slice Ao16 t335.length co16 : Value).ownBlock ∧ some k_ ≠ (v354 : Value).ownBlock ∧ some k_ ≠ (.slice Ao36 y362.length co36 : Value).ownBlock ∧ some k_ ≠ (v372 : Value).ownBlock ∧ k_ ≠ gb340)) (by (with_reducible repeat apply Kd.R_alloc); exact Kd.R_mono HO352.out (fun _ hk => ⟨⟨hk.1.1.1, ⟨hk.1.1.2.1, ⟨hk.1.1.2.2.1, ⟨hk.1.1.2.2.2.1, ⟨hk.2, hk.1.1.2.2.2.2⟩⟩⟩⟩⟩, hk.1.2⟩)) hg hat)
           have n4_ := Aside0.mk (Kd.R_after (ok := (fun k_ => some k_ ≠ (.slice Ao15 t334.length co15 : Value).ownBlock ∧ some k_ ≠ (.slice Ao16 t335.length co16 : Value).ownBlock ∧ some k_ ≠ (.slice Ao27 y350.length co27 : Value).ownBlock ∧ some k_ ≠ (.slice Ao36 y362.length co36 : Value).ownBlock ∧ some k_ ≠ (v372 : Value).ownBlock ∧ k_ ≠ gb340)) (by (with_reducible repeat apply Kd.R_alloc); exact Kd.R_mono HO355.out (fun _ hk => ⟨⟨hk.1.1.1, ⟨hk.1.1.2.1, ⟨hk.1.1.2.2.1, ⟨hk.1.1.2.2.2.1, ⟨hk.2, hk.1.1.2.2.2.2⟩⟩⟩⟩⟩, hk.1.2⟩)) hg hat)
           have n5_ := Aside0.mk (Kd.R_after (ok := (fun k_ => some k_ ≠ (.slice Ao15 t334.length co15 : Value).ownBlock ∧ some k_ ≠ (.slice Ao16 t335.length co16 : Value).ownBlock ∧ some k_ ≠ (.slice Ao27 y350.length co27 : Value).ownBlock ∧ some k_ ≠ (v354 : Value).ownBlock ∧ some k_ ≠ (v372 : Value).ownBlock ∧ k_ ≠ gb340)) (by (with_reducible repeat apply Kd.R_alloc); exact Kd.R_mono HO364.out (fun _ hk => ⟨⟨hk.1.1.1, ⟨hk.1.1.2.1, ⟨hk.1.1.2.2.1, ⟨hk.1.1.2.2.2.1, ⟨hk.2, hk.1.1.2.2.2.2⟩⟩⟩⟩⟩, hk.1.2⟩)) hg hat)
           have n6_ := Aside0.mk (Kd.R_after (ok := (fun k_ => some k_ ≠ (.slice Ao15 t334.length co15 : Value).ownBlock ∧ some k_ ≠ (.slice Ao16 t335.length co16 : Value).ownBlock ∧ some k_ ≠ (.slice Ao27 y350.length co27 : Value).ownBlock ∧ some k_ ≠ (v354 : Value).ownBlock ∧ some k_ ≠ (.slice Ao36 y362.length co36 : Value).ownBlock ∧ k_ ≠ gb340)) (by (with_reducible repeat apply Kd.R_alloc); exact Kd.R_mono HO373.out (fun _ hk => ⟨⟨hk.1.1.1.1.1.1.2, ⟨hk.1.1.1.1.1.2, ⟨hk.1.1.1.1.2, ⟨hk.1.1.1.2, ⟨hk.1.1.2, hk.2⟩⟩⟩⟩⟩, hk.1.2⟩)) hg hat)
           have n7_ := Aside0.mk (hb)
           have n8_ := Aside0.mk (ho)
           clear HO337
           clear HO339
           clear BK340
           clear HO352
           clear HO355
           clear HO364
           clear HO373
           clear HB
           clear HO367
           have HO337 := n0_
           have HO339 := n1_
           have BK340 := n2_
           have HO352 := n3_
           have HO355 := n4_
           have HO364 := n5_
           have HO373 := n6_
           have HB := n7_
           have HO370 := n8_
           clear n0_ n1_ n2_ n3_ n4_ n5_ n6_ n7_ n8_
           clear ho hb hg hat
           refine hK.out _ _ ⟨(blk_cell BK340.out 0).trans rfl, (blk_cell BK340.out 1).trans rfl⟩ (fun hHeld => ?_)
           clear hK K
           refine norm_ (a' := ?_) ?_ ?_
           rotate_left
           ·show Act.put _ (some 36) _ = _
            simp only [Act.put, List.setIfInBounds_toArray, List.set_cons_zero, List.set_cons_succ, i64_w, i32_w]
            rfl
           exact norm_ (by simp only [putAll, Act.put, List.setIfInBounds_toArray, List.set_cons_zero, List.set_cons_succ]) (hCont (v369, v372) _ ⟨hHeld, (by (with_reducible repeat apply Kd.R_alloc); exact Kd.R_mono HO337.out (fun _ hk => ⟨hk.1.1, ⟨hk.1.2.1, ⟨hk.1.2.2.1, ⟨hk.1.2.2.2.1, ⟨hk.2, ⟨hk.1.2.2.2.2.1, hk.1.2.2.2.2.2⟩⟩⟩⟩⟩⟩)), (by (with_reducible repeat apply Kd.R_alloc); exact Kd.R_mono HO339.out (fun _ hk => ⟨hk.1.1, ⟨hk.1.2.1, ⟨hk.1.2.2.1, ⟨hk.1.2.2.2.1, ⟨hk.2, ⟨hk.1.2.2.2.2.1, hk.1.2.2.2.2.2⟩⟩⟩⟩⟩⟩)), (by (with_reducible repeat apply Kd.R_alloc); exact Kd.R_mono HO352.out (fun _ hk => ⟨hk.1.1, ⟨hk.1.2.1, ⟨hk.1.2.2.1, ⟨hk.1.2.2.2.1, ⟨hk.2, ⟨hk.1.2.2.2.2.1, hk.1.2.2.2.2.2⟩⟩⟩⟩⟩⟩)), (by (with_reducible repeat apply Kd.R_alloc); exact Kd.R_mono HO355.out (fun _ hk => ⟨hk.1.1, ⟨hk.1.2.1, ⟨hk.1.2.2.1, ⟨hk.1.2.2.2.1, ⟨hk.2, ⟨hk.1.2.2.2.2.1, hk.1.2.2.2.2.2⟩⟩⟩⟩⟩⟩)), (by (with_reducible repeat apply Kd.R_alloc); exact Kd.R_mono HO364.out (fun _ hk => ⟨hk.1.1, ⟨hk.1.2.1, ⟨hk.1.2.2.1, ⟨hk.1.2.2.2.1, ⟨hk.2, ⟨hk.1.2.2.2.2.1, hk.1.2.2.2.2.2⟩⟩⟩⟩⟩⟩)), (by (with_reducible repeat apply Kd.R_alloc); exact HO370.out), (by (with_reducible repeat apply Kd.R_alloc); exact Kd.R_mono HO373.out (fun _ hk => ⟨hk.1.1, ⟨hk.1.2.1, ⟨hk.1.2.2.1, ⟨hk.1.2.2.2.1, ⟨hk.1.2.2.2.2.1, ⟨hk.2, hk.1.2.2.2.2.2⟩⟩⟩⟩⟩⟩)), (by (with_reducible repeat (first | refine blk_drewN ?_ _ | refine blk_drew ?_ | refine blk_alloc ?_ _)); exact BK340.out), (by repeat (first | (with_reducible first | exact HB.out | apply below_alloc | apply pw_below_drewN | apply below_drew1 | refine below_set ?_ GE340.out) | exact HB.out))⟩)
         rintro ⟨v369, v372⟩ w42 ⟨hS_, h0_, h1_, h2_, h3_, h4_, h5_, h6_, h7_, h8_⟩
         have n0_ : Aside0 (Kd.R k41 41 w42 w.heap.size (fun k_ => some k_ ≠ (.slice Ao16 t335.length co16 : Value).ownBlock ∧ some k_ ≠ (.slice Ao27 y350.length co27 : Value).ownBlock ∧ some k_ ≠ (v354 : Value).ownBlock ∧ some k_ ≠ (.slice Ao36 y362.length co36 : Value).ownBlock ∧ some k_ ≠ (v369 : Value).ownBlock ∧ some k_ ≠ (v372 : Value).ownBlock ∧ k_ ≠ gb340) (.slice Ao15 t334.length co15) t334) := ⟨h0_⟩
         have n1_ : Aside0 (Kd.R k41 41 w42 w.heap.size (fun k_ => some k_ ≠ (.slice Ao15 t334.length co15 : Value).ownBlock ∧ some k_ ≠ (.slice Ao27 y350.length co27 : Value).ownBlock ∧ some k_ ≠ (v354 : Value).ownBlock ∧ some k_ ≠ (.slice Ao36 y362.length co36 : Value).ownBlock ∧ some k_ ≠ (v369 : Value).ownBlock ∧ some k_ ≠ (v372 : Value).ownBlock ∧ k_ ≠ gb340) (.slice Ao16 t335.length co16) t335) := ⟨h1_⟩
         have n2_ : Aside0 (Kd.R k41 41 w42 w.heap.size (fun k_ => some k_ ≠ (.slice Ao15 t334.length co15 : Value).ownBlock ∧ some k_ ≠ (.slice Ao16 t335.length co16 : Value).ownBlock ∧ some k_ ≠ (v354 : Value).ownBlock ∧ some k_ ≠ (.slice Ao36 y362.length co36 : Value).ownBlock ∧ some k_ ≠ (v369 : Value).ownBlock ∧ some k_ ≠ (v372 : Value).ownBlock ∧ k_ ≠ gb340) (.slice Ao27 y350.length co27) y350) := ⟨h2_⟩
         have n3_ : Aside0 (Kd.R k41 41 w42 w.heap.size (fun k_ => some k_ ≠ (.slice Ao15 t334.length co15 : Value).ownBlock ∧ some k_ ≠ (.slice Ao16 t335.length co16 : Value).ownBlock ∧ some k_ ≠ (.slice Ao27 y350.length co27 : Value).ownBlock ∧ some k_ ≠ (.slice Ao36 y362.length co36 : Value).ownBlock ∧ some k_ ≠ (v369 : Value).ownBlock ∧ some k_ ≠ (v372 : Value).ownBlock ∧ k_ ≠ gb340) v354 y353) := ⟨h3_⟩
         have n4_ : Aside0 (Kd.R k41 41 w42 w.heap.size (fun k_ => some k_ ≠ (.slice Ao15 t334.length co15 : Value).ownBlock ∧ some k_ ≠ (.slice Ao16 t335.length co16 : Value).ownBlock ∧ some k_ ≠ (.slice Ao27 y350.length co27 : Value).ownBlock ∧ some k_ ≠ (v354 : Value).ownBlock ∧ some k_ ≠ (v369 : Value).ownBlock ∧ some k_ ≠ (v372 : Value).ownBlock ∧ k_ ≠ gb340) (.slice Ao36 y362.length co36) y362) := ⟨h4_⟩
         have n5_ : Aside0 (Kd.R k41 41 w42 w.heap.size (fun k_ => some k_ ≠ (.slice Ao15 t334.length co15 : Value).ownBlock ∧ some k_ ≠ (.slice Ao16 t335.length co16 : Value).ownBlock ∧ some k_ ≠ (.slice Ao27 y350.length co27 : Value).ownBlock ∧ some k_ ≠ (v354 : Value).ownBlock ∧ some k_ ≠ (.slice Ao36 y362.length co36 : Value).ownBlock ∧ some k_ ≠ (v372 : Value).ownBlock ∧ k_ ≠ gb340) v369 y368) := ⟨h5_⟩
         have n6_ : Aside0 (Kd.R k41 41 w42 w.heap.size (fun k_ => some k_ ≠ (.slice Ao15 t334.length co15 : Value).ownBlock ∧ some k_ ≠ (.slice Ao16 t335.length co16 : Value).ownBlock ∧ some k_ ≠ (.slice Ao27 y350.length co27 : Value).ownBlock ∧ some k_ ≠ (v354 : Value).ownBlock ∧ some k_ ≠ (.slice Ao36 y362.length co36 : Value).ownBlock ∧ some k_ ≠ (v369 : Value).ownBlock ∧ k_ ≠ gb340) v372 y371) := ⟨h6_⟩
         have n7_ : Aside0 (w42.heap[gb340]? = some (.cells #[.int .i64 2, .int .i64 0] 41 (0, 0))) := ⟨h7_⟩
         have n8_ : Aside0 (Below w.heap.size w w42) := ⟨h8_⟩
         clear HO337
         clear HO339
         clear HO352
         clear HO355
         clear HO364
         clear HO367
         clear BK340
         clear HB
         clear h0_ h1_ h2_ h3_ h4_ h5_ h6_ h7_ h8_
         have HO337 := n0_
         have HO339 := n1_
         have HO352 := n2_
         have HO355 := n3_
         have HO364 := n4_
         have HO370 := n5_
         have HO373 := n6_
         have BK340 := n7_
         have HB := n8_
         clear n0_ n1_ n2_ n3_ n4_ n5_ n6_ n7_ n8_
         have hHeld : w42.cell? ⟨gb340, 0, none⟩ = some (.int .i64 2) ∧ w42.cell? ⟨gb340, 1, none⟩ = some (.int .i64 0) := hS_
         obtain ⟨Ao44, co44, eo44⟩ := Kd.R_slice HO373.out
         (first | subst eo44 | (injection eo44 with f1_ f2_ f3_; have f4_ := f1_.symm; have f5_ := f3_.symm; clear f1_ f2_ f3_; subst f4_; subst f5_))
         refine norm_ (a' := ?_) ?_ ?_
         rotate_left
         ·simp only [putAll, Act.put, List.setIfInBounds_toArray, List.set_cons_zero, List.set_cons_succ]
          rfl
         refine one_ (i := 6) (N := some 40) #[true, true, true, true, true, true, true, false] rfl rfl (one_of HT_.out (by kernel_rfl)) (by decide) (fun K hK => ?_)
         refine Kd.R_append_rows_step k41 (w0 := w) w.heap.size (by rfl) (.tmp 36) (.tmp 39) 23 41 (.agg #[(.int .i64 0), (.int .i64 0)]) 16 rfl Try.underlying23 info41 rfl (by decide) (by omega) v369 y368 y371 _ _ _ (fun k_ => some k_ ≠ (.slice Ao15 t334.length co15 : Value).ownBlock ∧ some k_ ≠ (.slice Ao16 t335.length co16 : Value).ownBlock ∧ some k_ ≠ (.slice Ao27 y350.length co27 : Value).ownBlock ∧ some k_ ≠ (v354 : Value).ownBlock ∧ some k_ ≠ (.slice Ao36 y362.length co36 : Value).ownBlock ∧ some k_ ≠ (.slice Ao44 y371.length co44 : Value).ownBlock ∧ k_ ≠ gb340) (fun _ => False) rfl rfl ?aO ?aR (fun _ _ h => h) (fun _ h => h.elim) ?aF ?aB ?aS ?aL ?_
         (case aR => repeat (first | exact (Kd.R_reads' HO373.out).2.2 | (with_reducible refine Kd.C_alloc ?_ _) | (with_reducible refine Kd.C_drewN ?_ _) | (with_reducible refine Kd.C_drew ?_)))
         (case aB => exact (by repeat (first | (with_reducible first | exact HB.out | apply below_alloc | apply pw_below_drewN | apply below_drew1 | refine below_set ?_ GE340.out) | exact HB.out)))
         (case aF => exact (fun k_ hk => ⟨Kd.fresh' (Kd.R_lt (by (with_reducible repeat apply Kd.R_alloc); exact HO337.out)) k_ hk, Kd.fresh' (Kd.R_lt (by (with_reducible repeat apply Kd.R_alloc); exact HO339.out)) k_ hk, Kd.fresh' (Kd.R_lt (by (with_reducible repeat apply Kd.R_alloc); exact HO352.out)) k_ hk, Kd.fresh' (Kd.R_lt (by (with_reducible repeat apply Kd.R_alloc); exact HO355.out)) k_ hk, Kd.fresh' (Kd.R_lt (by (with_reducible repeat apply Kd.R_alloc); exact HO364.out)) k_ hk, Kd.fresh' (Kd.R_lt (by (with_reducible repeat apply Kd.R_alloc); exact HO373.out)) k_ hk, Kd.freshB (g := gb340) (o := .cells #[.int .i64 2, .int .i64 0] 41 (0, 0)) (by (with_reducible repeat (first | refine blk_drewN ?_ _ | refine blk_drew ?_ | refine blk_alloc ?_ _)); exact BK340.out) k_ hk⟩))
         (case aO => exact (by (with_reducible repeat apply Kd.R_alloc); exact HO370.out))
         (case aS => exact (below_size (by repeat (first | (with_reducible first | exact HB.out | apply below_alloc | apply pw_below_drewN | apply below_drew1 | refine below_set ?_ GE340.out) | exact HB.out))))
         (case aL => have := LMc10.out; omega)
         intro v375 w43 ho hb hg hat
         rw [← Ny374.out] at ho
         have n0_ := Aside0.mk (Kd.R_after (ok := (fun k_ => some k_ ≠ (.slice Ao16 t335.length co16 : Value).ownBlock ∧ some k_ ≠ (.slice Ao27 y350.length co27 : Value).ownBlock ∧ some k_ ≠ (v354 : Value).ownBlock ∧ some k_ ≠ (.slice Ao36 y362.length co36 : Value).ownBlock ∧ some k_ ≠ (.slice Ao44 y371.length co44 : Value).ownBlock ∧ k_ ≠ gb340)) (by (with_reducible repeat apply Kd.R_alloc); exact Kd.R_mono HO337.out (fun _ hk => ⟨⟨hk.1, ⟨hk.2.1, ⟨hk.2.2.1, ⟨hk.2.2.2.1, ⟨hk.2.2.2.2.2.1, hk.2.2.2.2.2.2⟩⟩⟩⟩⟩, hk.2.2.2.2.1⟩)) hg hat)
         have n1_ := Aside0.mk (Kd.R_after (ok := (fun k_ => some k_ ≠ (.slice Ao15 t334.length co15 : Value).ownBlock ∧ some k_ ≠ (.slice Ao27 y350.length co27 : Value).ownBlock ∧ some k_ ≠ (v354 : Value).ownBlock ∧ some k_ ≠ (.slice Ao36 y362.length co36 : Value).ownBlock ∧ some k_ ≠ (.slice Ao44 y371.length co44 : Value).ownBlock ∧ k_ ≠ gb340)) (by (with_reducible repeat apply Kd.R_alloc); exact Kd.R_mono HO339.out (fun _ hk => ⟨⟨hk.1, ⟨hk.2.1, ⟨hk.2.2.1, ⟨hk.2.2.2.1, ⟨hk.2.2.2.2.2.1, hk.2.2.2.2.2.2⟩⟩⟩⟩⟩, hk.2.2.2.2.1⟩)) hg hat)
         have n2_ := Aside0.mk (blk_grown (g := gb340) (o := .cells #[.int .i64 2, .int .i64 0] 41 (0, 0)) (by (with_reducible repeat (first | refine blk_drewN ?_ _ | refine blk_drew ?_ | refine blk_alloc ?_ _)); exact BK340.out) hg (Kd.R_away HO370.out (fun _ hk => hk.2.2.2.2.2.2)))
         have n3_ := Aside0.mk (Kd.R_after (ok := (fun k_ => some k_ ≠ (.slice Ao15 t334.length co15 : Value).ownBlock ∧ some k_ ≠ (.slice Ao16 t335.length co16 : Value).ownBlock ∧ some k_ ≠ (v354 : Value).ownBlock ∧ some k_ ≠ (.slice Ao36 y362.length co36 : Value).ownBlock ∧ some k_ ≠ (.slice Ao44 y371.length co44 : Value).ownBlock ∧ k_ ≠ gb340)) (by (with_reducible repeat apply Kd.R_alloc); exact Kd.R_mono HO352.out (fun _ hk => ⟨⟨hk.1, ⟨hk.2.1, ⟨hk.2.2.1, ⟨hk.2.2.2.1, ⟨hk.2.2.2.2.2.1, hk.2.2.2.2.2.2⟩⟩⟩⟩⟩, hk.2.2.2.2.1⟩)) hg hat)
         have n4_ := Aside0.mk (Kd.R_after (ok := (fun k_ => some k_ ≠ (.slice Ao15 t334.length co15 : Value).ownBlock ∧ some k_ ≠ (.slice Ao16 t335.length co16 : Value).ownBlock ∧ some k_ ≠ (.slice Ao27 y350.length co27 : Value).ownBlock ∧ some k_ ≠ (.slice Ao36 y362.length co36 : Value).ownBlock ∧ some k_ ≠ (.slice Ao44 y371.length co44 : Value).ownBlock ∧ k_ ≠ gb340)) (by (with_reducible repeat apply Kd.R_alloc); exact Kd.R_mono HO355.out (fun _ hk => ⟨⟨hk.1, ⟨hk.2.1, ⟨hk.2.2.1, ⟨hk.2.2.2.1, ⟨hk.2.2.2.2.2.1, hk.2.2.2.2.2.2⟩⟩⟩⟩⟩, hk.2.2.2.2.1⟩)) hg hat)
         have n5_ := Aside0.mk (Kd.R_after (ok := (fun k_ => some k_ ≠ (.slice Ao15 t334.length co15 : Value).ownBlock ∧ some k_ ≠ (.slice Ao16 t335.length co16 : Value).ownBlock ∧ some k_ ≠ (.slice Ao27 y350.length co27 : Value).ownBlock ∧ some k_ ≠ (v354 : Value).ownBlock ∧ some k_ ≠ (.slice Ao44 y371.length co44 : Value).ownBlock ∧ k_ ≠ gb340)) (by (with_reducible repeat apply Kd.R_alloc); exact Kd.R_mono HO364.out (fun _ hk => ⟨⟨hk.1, ⟨hk.2.1, ⟨hk.2.2.1, ⟨hk.2.2.2.1, ⟨hk.2.2.2.2.2.1, hk.2.2.2.2.2.2⟩⟩⟩⟩⟩, hk.2.2.2.2.1⟩)) hg hat)
         have n6_ := Aside0.mk (Kd.R_after (ok := (fun k_ => some k_ ≠ (.slice Ao15 t334.length co15 : Value).ownBlock ∧ some k_ ≠ (.slice Ao16 t335.length co16 : Value).ownBlock ∧ some k_ ≠ (.slice Ao27 y350.length co27 : Value).ownBlock ∧ some k_ ≠ (v354 : Value).ownBlock ∧ some k_ ≠ (.slice Ao36 y362.length co36 : Value).ownBlock ∧ k_ ≠ gb340)) (by (with_reducible repeat apply Kd.R_alloc); exact Kd.R_mono HO373.out (fun _ hk => ⟨⟨hk.1, ⟨hk.2.1, ⟨hk.2.2.1, ⟨hk.2.2.2.1, ⟨hk.2.2.2.2.1, hk.2.2.2.2.2.2⟩⟩⟩⟩⟩, hk.2.2.2.2.2.1⟩)) hg hat)
         have n7_ := Aside0.mk (hb)
         have n8_ := Aside0.mk (ho)
         clear HO337
         clear HO339
         clear BK340
         clear HO352
         clear HO355
         clear HO364
         clear HO373
         clear HB
         clear HO370
         have HO337 := n0_
         have HO339 := n1_
         have BK340 := n2_
         have HO352 := n3_
         have HO355 := n4_
         have HO364 := n5_
         have HO373 := n6_
         have HB := n7_
         have HO376 := n8_
         clear n0_ n1_ n2_ n3_ n4_ n5_ n6_ n7_ n8_
         clear ho hb hg hat
         refine hK.out _ _ ⟨(blk_cell BK340.out 0).trans rfl, (blk_cell BK340.out 1).trans rfl⟩ (fun hHeld => ?_)
         clear hK K
         refine norm_ (a' := ?_) ?_ ?_
         rotate_left
         ·show Act.put _ (some 40) _ = _
          simp only [Act.put, List.setIfInBounds_toArray, List.set_cons_zero, List.set_cons_succ, i64_w, i32_w]
          rfl
         refine pure_ (i := 7) (N := some 8) (v := ?_) (a' := ?_) #[true, true, true, true, true, true, true, true] rfl rfl (any_of HT_.out (by kernel_rfl)) (fun _ _ _ h => h) (Or.inl ⟨by rfl, ?_⟩) ?_ ?_
         rotate_left
         ·intro w'
          go_simp
          with_reducible rfl
         rotate_left
         ·simp only [Act.put, List.setIfInBounds_toArray, List.set_cons_zero, List.set_cons_succ, i64_w, i32_w]
          rfl
         refine done_ (done_of HT_.out (by kernel_rfl)) ?_
         go_upto_region 8 with (fail)
         go_cut [62] (fun v62 wc => ∃ (kq : Nat) (x62_10 : Bool), v62 = .bool x62_10 ∧ Aside0 (laws_FnNotEither.j0 kq t333 y353 y374 x62_10 = some r) ∧ Aside0 (kq ≤ k) ∧ Aside0 (Kd.R k41 41 wc w.heap.size (fun k_ => some k_ ≠ (v375 : Value).ownBlock ∧ k_ ≠ gb340) v354 y353) ∧ Aside0 (Kd.R k41 41 wc w.heap.size (fun k_ => some k_ ≠ (v354 : Value).ownBlock ∧ k_ ≠ gb340) v375 y374) ∧ Aside0 (wc.heap[gb340]? = some (.cells #[.int .i64 2, .int .i64 0] 41 (0, 0))) ∧ Aside0 (Below w.heap.size w wc))
         case first =>
          have H := HC11.out
          clear HC11
          replace H := Option.bind_eq_some_iff.mp H
          obtain ⟨t377, A450, H⟩ := H
          replace H : (if t377 = true then ((spec_TermOk.f k t333 t335).bind fun t378 => (if t378 = true then ((spec_TermOk.f k t333 y353).bind fun t379 => (if t379 = true then ((spec_TermOk.f k t333 y374).bind fun t380 => (laws_FnNotEither.j0 k t333 y353 y374 (!t380))) else (laws_FnNotEither.j0 k t333 y353 y374 true))) else (laws_FnNotEither.j0 k t333 y353 y374 true))) else (laws_FnNotEither.j0 k t333 y353 y374 true)) = some r := H
          have A45 := Aside0.mk A450
          clear A450
          by_cases c46 : t377 = true
          ·subst c46
           have H1 : ((spec_TermOk.f k t333 t335).bind fun t378 => (if t378 = true then ((spec_TermOk.f k t333 y353).bind fun t379 => (if t379 = true then ((spec_TermOk.f k t333 y374).bind fun t380 => (laws_FnNotEither.j0 k t333 y353 y374 (!t380))) else (laws_FnNotEither.j0 k t333 y353 y374 true))) else (laws_FnNotEither.j0 k t333 y353 y374 true))) = some r := by rw [if_pos rfl] at H; exact H
           clear H
           have H := H1
           clear H1
           replace H := Option.bind_eq_some_iff.mp H
           obtain ⟨t378, A470, H⟩ := H
           replace H : (if t378 = true then ((spec_TermOk.f k t333 y353).bind fun t379 => (if t379 = true then ((spec_TermOk.f k t333 y374).bind fun t380 => (laws_FnNotEither.j0 k t333 y353 y374 (!t380))) else (laws_FnNotEither.j0 k t333 y353 y374 true))) else (laws_FnNotEither.j0 k t333 y353 y374 true)) = some r := H
           have A47 := Aside0.mk A470
           clear A470
           by_cases c48 : t378 = true
           ·subst c48
            have H1 : ((spec_TermOk.f k t333 y353).bind fun t379 => (if t379 = true then ((spec_TermOk.f k t333 y374).bind fun t380 => (laws_FnNotEither.j0 k t333 y353 y374 (!t380))) else (laws_FnNotEither.j0 k t333 y353 y374 true))) = some r := by rw [if_pos rfl] at H; exact H
            clear H
            have H := H1
            clear H1
            replace H := Option.bind_eq_some_iff.mp H
            obtain ⟨t379, A490, H⟩ := H
            replace H : (if t379 = true then ((spec_TermOk.f k t333 y374).bind fun t380 => (laws_FnNotEither.j0 k t333 y353 y374 (!t380))) else (laws_FnNotEither.j0 k t333 y353 y374 true)) = some r := H
            have A49 := Aside0.mk A490
            clear A490
            by_cases c50 : t379 = true
            ·subst c50
             have H1 : ((spec_TermOk.f k t333 y374).bind fun t380 => (laws_FnNotEither.j0 k t333 y353 y374 (!t380))) = some r := by rw [if_pos rfl] at H; exact H
             clear H
             have H := H1
             clear H1
             replace H := Option.bind_eq_some_iff.mp H
             obtain ⟨t380, A510, H⟩ := H
             replace H : (laws_FnNotEither.j0 k t333 y353 y374 (!t380)) = some r := H
             have A51 := Aside0.mk A510
             clear A510
             have H' := Aside0.mk H
             clear H
             go_wp2_with (first | ((with_reducible refine gate_callee (f := 35) rfl ?_); refine goesL_ (some 43) rfl rfl Try.func35 (by kernel_rfl) rfl #[.int .i64 t333, .slice Ao15 t334.length co15] rfl (by (try simp only [List.map_toArray, List.map_cons, List.map_nil]); first | done | rfl | (simp only [List.length_drop, List.length_take]; rfl)) ?_; (with_reducible refine (spec_TermOk.calls k t333 _ _ t334 true _ ?side1 ?side2 A45.out).mono ?_); (case side1 => repeat (first | exact (Kd.R_reads' HO337.out).2.2 | (with_reducible refine Kd.C_alloc ?_ _) | (with_reducible refine Kd.C_drewN ?_ _) | (with_reducible refine Kd.C_drew ?_))); (case side2 => exact (Kd.R_reads' HO337.out).2.1); rintro e w' ⟨rfl, ⟨nd, rfl⟩⟩; refine ⟨_, rfl, ?_⟩) | (go_at_call 35; (with_reducible refine (spec_TermOk.calls k t333 _ _ t335 true _ ?side1 ?side2 A47.out).mono ?_); (case side1 => repeat (first | exact (Kd.R_reads' HO339.out).2.2 | (with_reducible refine Kd.C_alloc ?_ _) | (with_reducible refine Kd.C_drewN ?_ _) | (with_reducible refine Kd.C_drew ?_))); (case side2 => exact (Kd.R_reads' HO339.out).2.1); rintro e w' ⟨rfl, ⟨nd, rfl⟩⟩; obtain ⟨Ao52, co52, eo52⟩ := Kd.R_slice HO355.out; subst eo52) | (go_at_call 35; (with_reducible refine (spec_TermOk.calls k t333 _ _ y353 true _ ?side1 ?side2 A49.out).mono ?_); (case side1 => repeat (first | exact (Kd.R_reads' HO355.out).2.2 | (with_reducible refine Kd.C_alloc ?_ _) | (with_reducible refine Kd.C_drewN ?_ _) | (with_reducible refine Kd.C_drew ?_))); (case side2 => exact (Kd.R_reads' HO355.out).2.1); rintro e w' ⟨rfl, ⟨nd, rfl⟩⟩; obtain ⟨Ao53, co53, eo53⟩ := Kd.R_slice HO376.out; subst eo53) | (go_at_call 35; (with_reducible refine (spec_TermOk.calls k t333 _ _ y374 t380 _ ?side1 ?side2 A51.out).mono ?_); (case side1 => repeat (first | exact (Kd.R_reads' HO376.out).2.2 | (with_reducible refine Kd.C_alloc ?_ _) | (with_reducible refine Kd.C_drewN ?_ _) | (with_reducible refine Kd.C_drew ?_))); (case side2 => exact (Kd.R_reads' HO376.out).2.1); rintro e w' ⟨rfl, ⟨nd, rfl⟩⟩))
             go_meet
             case rel => exact ⟨_, (!t380), (by first | rfl | (simp; done) | (simp [*]; done)), H', ⟨by first | omega | exact Nat.le_refl _⟩, ⟨by (with_reducible repeat apply Kd.R_alloc); exact Kd.R_mono HO355.out (fun _ hk => ⟨hk.2, hk.1.2.2.2.2.2⟩)⟩, ⟨by (with_reducible repeat apply Kd.R_alloc); exact Kd.R_mono HO376.out (fun _ hk => ⟨hk.2.2.2.1, hk.2.2.2.2.2.2⟩)⟩, ⟨by (with_reducible repeat (first | refine blk_drewN ?_ _ | refine blk_drew ?_ | refine blk_alloc ?_ _)); exact BK340.out⟩, ⟨by repeat (first | (with_reducible first | exact HB.out | apply below_alloc | apply pw_below_drewN | apply below_drew1 | refine below_set ?_ GE340.out) | exact HB.out)⟩⟩
            ·replace c50 := Bool.eq_false_iff.mpr c50
             subst c50
             have H1 : (laws_FnNotEither.j0 k t333 y353 y374 true) = some r := by rw [if_neg (show ¬ (false = true) by decide)] at H; exact H
             clear H
             have H := H1
             clear H1
             have H' := Aside0.mk H
             clear H
             go_wp2_with (first | ((with_reducible refine gate_callee (f := 35) rfl ?_); refine goesL_ (some 43) rfl rfl Try.func35 (by kernel_rfl) rfl #[.int .i64 t333, .slice Ao15 t334.length co15] rfl (by (try simp only [List.map_toArray, List.map_cons, List.map_nil]); first | done | rfl | (simp only [List.length_drop, List.length_take]; rfl)) ?_; (with_reducible refine (spec_TermOk.calls k t333 _ _ t334 true _ ?side1 ?side2 A45.out).mono ?_); (case side1 => repeat (first | exact (Kd.R_reads' HO337.out).2.2 | (with_reducible refine Kd.C_alloc ?_ _) | (with_reducible refine Kd.C_drewN ?_ _) | (with_reducible refine Kd.C_drew ?_))); (case side2 => exact (Kd.R_reads' HO337.out).2.1); rintro e w' ⟨rfl, ⟨nd, rfl⟩⟩; refine ⟨_, rfl, ?_⟩) | (go_at_call 35; (with_reducible refine (spec_TermOk.calls k t333 _ _ t335 true _ ?side1 ?side2 A47.out).mono ?_); (case side1 => repeat (first | exact (Kd.R_reads' HO339.out).2.2 | (with_reducible refine Kd.C_alloc ?_ _) | (with_reducible refine Kd.C_drewN ?_ _) | (with_reducible refine Kd.C_drew ?_))); (case side2 => exact (Kd.R_reads' HO339.out).2.1); rintro e w' ⟨rfl, ⟨nd, rfl⟩⟩; obtain ⟨Ao54, co54, eo54⟩ := Kd.R_slice HO355.out; subst eo54) | (go_at_call 35; (with_reducible refine (spec_TermOk.calls k t333 _ _ y353 false _ ?side1 ?side2 A49.out).mono ?_); (case side1 => repeat (first | exact (Kd.R_reads' HO355.out).2.2 | (with_reducible refine Kd.C_alloc ?_ _) | (with_reducible refine Kd.C_drewN ?_ _) | (with_reducible refine Kd.C_drew ?_))); (case side2 => exact (Kd.R_reads' HO355.out).2.1); rintro e w' ⟨rfl, ⟨nd, rfl⟩⟩))
             go_meet
             case rel => exact ⟨_, (true), (by first | rfl | (simp; done) | (simp [*]; done)), H', ⟨by first | omega | exact Nat.le_refl _⟩, ⟨by (with_reducible repeat apply Kd.R_alloc); exact Kd.R_mono HO355.out (fun _ hk => ⟨hk.2, hk.1.2.2.2.2.2⟩)⟩, ⟨by (with_reducible repeat apply Kd.R_alloc); exact Kd.R_mono HO376.out (fun _ hk => ⟨hk.2.2.2.1, hk.2.2.2.2.2.2⟩)⟩, ⟨by (with_reducible repeat (first | refine blk_drewN ?_ _ | refine blk_drew ?_ | refine blk_alloc ?_ _)); exact BK340.out⟩, ⟨by repeat (first | (with_reducible first | exact HB.out | apply below_alloc | apply pw_below_drewN | apply below_drew1 | refine below_set ?_ GE340.out) | exact HB.out)⟩⟩
           ·replace c48 := Bool.eq_false_iff.mpr c48
            subst c48
            have H1 : (laws_FnNotEither.j0 k t333 y353 y374 true) = some r := by rw [if_neg (show ¬ (false = true) by decide)] at H; exact H
            clear H
            have H := H1
            clear H1
            have H' := Aside0.mk H
            clear H
            go_wp2_with (first | ((with_reducible refine gate_callee (f := 35) rfl ?_); refine goesL_ (some 43) rfl rfl Try.func35 (by kernel_rfl) rfl #[.int .i64 t333, .slice Ao15 t334.length co15] rfl (by (try simp only [List.map_toArray, List.map_cons, List.map_nil]); first | done | rfl | (simp only [List.length_drop, List.length_take]; rfl)) ?_; (with_reducible refine (spec_TermOk.calls k t333 _ _ t334 true _ ?side1 ?side2 A45.out).mono ?_); (case side1 => repeat (first | exact (Kd.R_reads' HO337.out).2.2 | (with_reducible refine Kd.C_alloc ?_ _) | (with_reducible refine Kd.C_drewN ?_ _) | (with_reducible refine Kd.C_drew ?_))); (case side2 => exact (Kd.R_reads' HO337.out).2.1); rintro e w' ⟨rfl, ⟨nd, rfl⟩⟩; refine ⟨_, rfl, ?_⟩) | (go_at_call 35; (with_reducible refine (spec_TermOk.calls k t333 _ _ t335 false _ ?side1 ?side2 A47.out).mono ?_); (case side1 => repeat (first | exact (Kd.R_reads' HO339.out).2.2 | (with_reducible refine Kd.C_alloc ?_ _) | (with_reducible refine Kd.C_drewN ?_ _) | (with_reducible refine Kd.C_drew ?_))); (case side2 => exact (Kd.R_reads' HO339.out).2.1); rintro e w' ⟨rfl, ⟨nd, rfl⟩⟩))
            go_meet
            case rel => exact ⟨_, (true), (by first | rfl | (simp; done) | (simp [*]; done)), H', ⟨by first | omega | exact Nat.le_refl _⟩, ⟨by (with_reducible repeat apply Kd.R_alloc); exact Kd.R_mono HO355.out (fun _ hk => ⟨hk.2, hk.1.2.2.2.2.2⟩)⟩, ⟨by (with_reducible repeat apply Kd.R_alloc); exact Kd.R_mono HO376.out (fun _ hk => ⟨hk.2.2.2.1, hk.2.2.2.2.2.2⟩)⟩, ⟨by (with_reducible repeat (first | refine blk_drewN ?_ _ | refine blk_drew ?_ | refine blk_alloc ?_ _)); exact BK340.out⟩, ⟨by repeat (first | (with_reducible first | exact HB.out | apply below_alloc | apply pw_below_drewN | apply below_drew1 | refine below_set ?_ GE340.out) | exact HB.out)⟩⟩
          ·replace c46 := Bool.eq_false_iff.mpr c46
           subst c46
           have H1 : (laws_FnNotEither.j0 k t333 y353 y374 true) = some r := by rw [if_neg (show ¬ (false = true) by decide)] at H; exact H
           clear H
           have H := H1
           clear H1
           have H' := Aside0.mk H
           clear H
           go_wp2_with (first | ((with_reducible refine gate_callee (f := 35) rfl ?_); refine goesL_ (some 43) rfl rfl Try.func35 (by kernel_rfl) rfl #[.int .i64 t333, .slice Ao15 t334.length co15] rfl (by (try simp only [List.map_toArray, List.map_cons, List.map_nil]); first | done | rfl | (simp only [List.length_drop, List.length_take]; rfl)) ?_; (with_reducible refine (spec_TermOk.calls k t333 _ _ t334 false _ ?side1 ?side2 A45.out).mono ?_); (case side1 => repeat (first | exact (Kd.R_reads' HO337.out).2.2 | (with_reducible refine Kd.C_alloc ?_ _) | (with_reducible refine Kd.C_drewN ?_ _) | (with_reducible refine Kd.C_drew ?_))); (case side2 => exact (Kd.R_reads' HO337.out).2.1); rintro e w' ⟨rfl, ⟨nd, rfl⟩⟩; refine ⟨_, rfl, ?_⟩))
           go_meet
           case rel => exact ⟨_, (true), (by first | rfl | (simp; done) | (simp [*]; done)), H', ⟨by first | omega | exact Nat.le_refl _⟩, ⟨by (with_reducible repeat apply Kd.R_alloc); exact Kd.R_mono HO355.out (fun _ hk => ⟨hk.2, hk.1.2.2.2.2.2⟩)⟩, ⟨by (with_reducible repeat apply Kd.R_alloc); exact Kd.R_mono HO376.out (fun _ hk => ⟨hk.2.2.2.1, hk.2.2.2.2.2.2⟩)⟩, ⟨by (with_reducible repeat (first | refine blk_drewN ?_ _ | refine blk_drew ?_ | refine blk_alloc ?_ _)); exact BK340.out⟩, ⟨by repeat (first | (with_reducible first | exact HB.out | apply below_alloc | apply pw_below_drewN | apply below_drew1 | refine below_set ?_ GE340.out) | exact HB.out)⟩⟩
         case rest =>
          clear HC11
          try clear c1
          try clear c2
          try clear p2
          try clear c3
          try clear c4
          try clear c5
          try clear c7
          try clear c8
          try clear c9
          try clear c10
          try clear c35
          try clear c46
          try clear c48
          try clear c50
          obtain ⟨kq, x62_10, rfl, HA, HJ10, HO_7, HO_8, BK340, HB⟩ := hcut
          cases kq with
          | zero => exact absurd HA.out (by simp [laws_FnNotEither.j0])
          | succ kj10 =>
           have H := HA.out
           clear HA
           simp only [laws_FnNotEither.j0] at H
           by_cases c55 : x62_10 = true
           ·subst c55
            have H1 : ((laws_alive.f).bind fun t381 => (some t381)) = some r := by rw [if_pos rfl] at H; exact H
            clear H
            have H := H1
            clear H1
            replace H := Option.bind_eq_some_iff.mp H
            obtain ⟨t381, A560, H⟩ := H
            replace H : (some t381) = some r := H
            have A56 := Aside0.mk A560
            clear A560
            obtain rfl := Option.some.inj H
            go_wp2_with (first | ((with_reducible refine gate_callee (f := 21) rfl ?_); refine goesL_ (some 63) rfl rfl Try.func21 (by kernel_rfl) rfl #[] rfl (by (try simp only [List.map_toArray, List.map_cons, List.map_nil]); first | done | rfl | (simp only [List.length_drop, List.length_take]; rfl)) ?_; (with_reducible refine (laws_alive.calls  t381 _ A56.out).mono ?_); rintro e w' ⟨rfl, ⟨nd, rfl⟩⟩; refine ⟨_, rfl, ?_⟩))
            go_ret
            exact ⟨by first | rfl | (simp [errW_none, errW_some] <;> rfl) | (simp [*, errW_none, errW_some] <;> rfl), by repeat (first | (with_reducible first | exact HB.out | apply below_alloc | apply pw_below_drewN | apply below_drew1 | refine below_set ?_ GE340.out) | exact HB.out)⟩
           ·replace c55 := Bool.eq_false_iff.mpr c55
            subst c55
            have H1 : ((laws_alive.f).bind fun t382 => (if t382 = true then ((impl_SameOk.f kj10 t333 y353 y374).bind fun t383 => (some t383)) else (some false))) = some r := by rw [if_neg (show ¬ (false = true) by decide)] at H; exact H
            clear H
            have H := H1
            clear H1
            replace H := Option.bind_eq_some_iff.mp H
            obtain ⟨t382, A570, H⟩ := H
            replace H : (if t382 = true then ((impl_SameOk.f kj10 t333 y353 y374).bind fun t383 => (some t383)) else (some false)) = some r := H
            have A57 := Aside0.mk A570
            clear A570
            by_cases c58 : t382 = true
            ·subst c58
             have H1 : ((impl_SameOk.f kj10 t333 y353 y374).bind fun t383 => (some t383)) = some r := by rw [if_pos rfl] at H; exact H
             clear H
             have H := H1
             clear H1
             replace H := Option.bind_eq_some_iff.mp H
             obtain ⟨t383, A590, H⟩ := H
             replace H : (some t383) = some r := H
             have A59 := Aside0.mk A590
             clear A590
             obtain rfl := Option.some.inj H
             go_wp2_with (first | ((with_reducible refine gate_callee (f := 21) rfl ?_); refine goesL_ (some 64) rfl rfl Try.func21 (by kernel_rfl) rfl #[] rfl (by (try simp only [List.map_toArray, List.map_cons, List.map_nil]); first | done | rfl | (simp only [List.length_drop, List.length_take]; rfl)) ?_; (with_reducible refine (laws_alive.calls  true _ A57.out).mono ?_); rintro e w' ⟨rfl, ⟨nd, rfl⟩⟩; refine ⟨_, rfl, ?_⟩; obtain ⟨Ao60, co60, eo60⟩ := Kd.R_slice HO_7.out; subst eo60; obtain ⟨Ao61, co61, eo61⟩ := Kd.R_slice HO_8.out; subst eo61) | (go_at_call 36; (with_reducible refine (impl_SameOk.calls kj10 t333 _ _ y353 _ _ y374 t383 _ ?side1 ?side2 ?side3 ?side4 A59.out).mono ?_); (case side1 => repeat (first | exact (Kd.R_reads' HO_7.out).2.2 | (with_reducible refine Kd.C_alloc ?_ _) | (with_reducible refine Kd.C_drewN ?_ _) | (with_reducible refine Kd.C_drew ?_))); (case side2 => exact (Kd.R_reads' HO_7.out).2.1); (case side3 => repeat (first | exact (Kd.R_reads' HO_8.out).2.2 | (with_reducible refine Kd.C_alloc ?_ _) | (with_reducible refine Kd.C_drewN ?_ _) | (with_reducible refine Kd.C_drew ?_))); (case side4 => exact (Kd.R_reads' HO_8.out).2.1); rintro e w62 ⟨rfl, hb⟩; have n0_ := Aside0.mk (Kd.R_below (by (with_reducible repeat apply Kd.R_alloc); exact HO_7.out) hb); have n1_ := Aside0.mk (Kd.R_below (by (with_reducible repeat apply Kd.R_alloc); exact HO_8.out) hb); have n2_ := Aside0.mk (blk_below (g := gb340) (o := .cells #[.int .i64 2, .int .i64 0] 41 (0, 0)) (by (with_reducible repeat (first | refine blk_drewN ?_ _ | refine blk_drew ?_ | refine blk_alloc ?_ _)); exact BK340.out) hb); have n3_ := Aside0.mk (below_step (by repeat (first | (with_reducible first | exact HB.out | apply below_alloc | apply pw_below_drewN | apply below_drew1 | refine below_set ?_ GE340.out) | exact HB.out)) hb); clear HO_7; clear HO_8; clear BK340; clear HB; have HO_7 := n0_; have HO_8 := n1_; have BK340 := n2_; have HB := n3_; clear n0_ n1_ n2_ n3_; (try clear hb); (try clear hb2); (try clear hk); (try clear hi)))
             go_ret
             exact ⟨by first | rfl | (simp [errW_none, errW_some] <;> rfl) | (simp [*, errW_none, errW_some] <;> rfl), by repeat (first | (with_reducible first | exact HB.out | apply below_alloc | apply pw_below_drewN | apply below_drew1 | refine below_set ?_ GE340.out) | exact HB.out)⟩
            ·replace c58 := Bool.eq_false_iff.mpr c58
             subst c58
             have H1 : (some false) = some r := by rw [if_neg (show ¬ (false = true) by decide)] at H; exact H
             clear H
             have H := H1
             clear H1
             obtain rfl := Option.some.inj H
             go_wp2_with (first | ((with_reducible refine gate_callee (f := 21) rfl ?_); refine goesL_ (some 64) rfl rfl Try.func21 (by kernel_rfl) rfl #[] rfl (by (try simp only [List.map_toArray, List.map_cons, List.map_nil]); first | done | rfl | (simp only [List.length_drop, List.length_take]; rfl)) ?_; (with_reducible refine (laws_alive.calls  false _ A57.out).mono ?_); rintro e w' ⟨rfl, ⟨nd, rfl⟩⟩; refine ⟨_, rfl, ?_⟩))
             go_ret
             exact ⟨by first | rfl | (simp [errW_none, errW_some] <;> rfl) | (simp [*, errW_none, errW_some] <;> rfl), by repeat (first | (with_reducible first | exact HB.out | apply below_alloc | apply pw_below_drewN | apply below_drew1 | refine below_set ?_ GE340.out) | exact HB.out)⟩
        ·rw [if_neg c10] at H
         exact absurd H (by simp)
       ·rw [if_neg c9] at H
        exact absurd H (by simp)
      ·rw [if_neg c8] at H
       exact absurd H (by simp)
     ·rw [if_neg c7] at H
      exact absurd H (by simp)
    ·rw [if_neg c6] at H
     exact absurd H (by simp)
   ·rw [if_neg c5] at H
    exact absurd H (by simp)
  ·rw [if_neg c4] at H
   exact absurd H (by simp)

/-- THE ONE PURE STATEMENT of laws_FnNotEither: yours. -/
def laws_FnNotEither.Pure : Prop := ∀ (l0 : List Int), l0.length ≤ maxLen → l0.length * 1 ≤ 140737488351232 → (∀ x ∈ l0, (Lit.int .u8 x).wf = true) → ∃ k, laws_FnNotEither.f k l0 = some true
theorem laws_FnNotEither.walk (P : laws_FnNotEither.Pure) (a0 : Option Addr) (len0 cap0 : Nat) (z0 : List Int) (w : World) (w0 : (a0 = none ∧ len0 = 0 ∧ cap0 = 0 ∧ z0 = []) ∨ ∃ x, a0 = some x ∧ len0 ≤ cap0 ∧ cap0 ≤ maxLen ∧ z0.length = cap0 ∧ (∀ i, i < z0.length → w.cell? (x.add i) = some (.int .u8 (z0.getD i 0))) ∧ ∀ n ∈ z0, (Lit.int .u8 n).wf = true) (y0 : len0 * 1 ≤ 140737488351232) :
  Calls Try.prog 6 #[.slice a0 len0 cap0] w fun e w' => e = .returned (.bool true) ∧ Below w.heap.size w w' := by
 obtain ⟨l0, rfl, hr0, hm0, hw0, hc0⟩ := ReadsInt.ofRowC w0
 obtain ⟨k, h⟩ := P l0 hm0 y0 hw0
 refine (laws_FnNotEither.calls k _ _ l0 true w (Kd.C_of_reads (d := (0 : Int)) (h1 := fun _ => rfl) hr0) hc0 h).mono ?_
 rintro e w' ⟨rfl, hd⟩
 exact ⟨rfl, hd⟩

end Go.Proofs.Ytigkmppgbaoafaa.PFnNotEither
