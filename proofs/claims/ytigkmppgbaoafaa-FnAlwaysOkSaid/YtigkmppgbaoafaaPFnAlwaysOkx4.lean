-- Made by a program of this session (wip/tools/patchprint.py), not by the kit itself.
import Derived.Test.YtigkmppgbaoafaaPFnAlwaysOkx0
import Derived.Test.YtigkmppgbaoafaaPFnAlwaysOkx1
import Derived.Test.YtigkmppgbaoafaaPFnAlwaysOkx2
import Derived.Test.YtigkmppgbaoafaaPFnAlwaysOkx3
namespace Go.Proofs.Ytigkmppgbaoafaa.PFnAlwaysOk
open Go.RowKit Go.Proofs.YtigkmppgbaoafaaW.PrintWords Go.Proofs.YtigkmppgbaoafaaW.PrintLast Go.Proofs.YtigkmppgbaoafaaW.PrintMore
attribute [local go_sem] max2_int min2_int max_two min_two max_three min_three max_four min_four   -- for this text's walks alone
set_option linter.unusedVariables false
set_option linter.unusedSimpArgs false

attribute [local go_sem] setCell_isSome
attribute [local go_sem high] eqA41
/-! ### impl_HoldsIn: function 23 -/
def impl_HoldsIn.f (k : Nat) (a0 : Int) (l1 : List (S41)) (a2 : Int) : Option (Bool) := (impl_TermOk.f k a0 l1).bind fun t133 => (if t133 = true then ((impl_WorldOk.f a0 a2).bind fun t134 => (if t134 = true then ((impl_holds.f k l1 a2).bind fun t135 => (some t135)) else (some false))) else (some false))
theorem impl_HoldsIn.mono : ∀ a0 a1 a2 k, LeO (impl_HoldsIn.f k a0 a1 a2) (impl_HoldsIn.f (k + 1) a0 a1 a2) := by
 intro a0 a1 a2 k
 unfold impl_HoldsIn.f
 repeat' first
   | (with_reducible exact impl_TermOk.mono _ _ _)
   | (with_reducible exact impl_holds.mono _ _ _)
   | (with_reducible exact LeO.refl _)
   | (with_reducible exact LeO.none _)
   | (with_reducible refine LeO.ite ?_ ?_)
   | (with_reducible refine LeO.bind ?_ (fun _ => ?_))
   | exact impl_TermOk.mono _ _ _
   | exact impl_holds.mono _ _ _
   | exact LeO.none _
   | refine LeO.ite ?_ ?_
   | refine LeO.bind ?_ (fun _ => ?_)
set_option maxHeartbeats 8000000 in
set_option maxRecDepth 100000 in
theorem impl_HoldsIn.calls (k : Nat) (a0 : Int) (A1 : Option Addr) (c1 : Nat) (l1 : List (S41)) (a2 : Int) (r : Bool) (w : World) (hr1 : Kd.C k41 w A1 l1.length l1) (hc1 : l1.length ≤ c1) (h : impl_HoldsIn.f k a0 l1 a2 = some r) :
  Calls Try.prog 23 #[.int .i64 a0, .slice A1 l1.length c1, .int .i64 a2] w fun e w' => e = .returned (.bool r) ∧ Below w.heap.size w w' := by
 have HR1 := Aside0.mk hr1
 have HC1 := Aside0.mk hc1
 clear hr1 hc1
 have HB := Aside0.mk (Below.refl w.heap.size w)
 have H : ((impl_TermOk.f k a0 l1).bind fun t133 => (if t133 = true then ((impl_WorldOk.f a0 a2).bind fun t134 => (if t134 = true then ((impl_holds.f k l1 a2).bind fun t135 => (some t135)) else (some false))) else (some false))) = some r := h
 clear h
 replace H := Option.bind_eq_some_iff.mp H
 obtain ⟨t133, A40, H⟩ := H
 replace H : (if t133 = true then ((impl_WorldOk.f a0 a2).bind fun t134 => (if t134 = true then ((impl_holds.f k l1 a2).bind fun t135 => (some t135)) else (some false))) else (some false)) = some r := H
 have A4 := Aside0.mk A40
 clear A40
 by_cases c5 : t133 = true
 ·subst c5
  have H1 : ((impl_WorldOk.f a0 a2).bind fun t134 => (if t134 = true then ((impl_holds.f k l1 a2).bind fun t135 => (some t135)) else (some false))) = some r := by rw [if_pos rfl] at H; exact H
  clear H
  have H := H1
  clear H1
  replace H := Option.bind_eq_some_iff.mp H
  obtain ⟨t134, A60, H⟩ := H
  replace H : (if t134 = true then ((impl_holds.f k l1 a2).bind fun t135 => (some t135)) else (some false)) = some r := H
  have A6 := Aside0.mk A60
  clear A60
  by_cases c7 : t134 = true
  ·subst c7
   have H1 : ((impl_holds.f k l1 a2).bind fun t135 => (some t135)) = some r := by rw [if_pos rfl] at H; exact H
   clear H
   have H := H1
   clear H1
   replace H := Option.bind_eq_some_iff.mp H
   obtain ⟨t135, A80, H⟩ := H
   replace H : (some t135) = some r := H
   have A8 := Aside0.mk A80
   clear A80
   obtain rfl := Option.some.inj H
   go_enter Try.func23, Try.ntmps23
   go_wp2_with (first | ((with_reducible refine gate_callee (f := 20) rfl ?_); refine goesL_ (some 9) rfl rfl Try.func20 (by kernel_rfl) rfl #[.int .i64 a0, .slice A1 l1.length c1] rfl (by (try simp only [List.map_toArray, List.map_cons, List.map_nil]); first | done | rfl | (simp only [List.length_drop, List.length_take]; rfl)) ?_; (with_reducible refine (impl_TermOk.calls k a0 _ _ l1 true _ ?side1 ?side2 A4.out).mono ?_); (case side1 => repeat (first | exact HR1.out | (with_reducible refine Kd.C_alloc ?_ _) | (with_reducible refine Kd.C_drewN ?_ _) | (with_reducible refine Kd.C_drew ?_))); (case side2 => exact HC1.out); rintro e w9 ⟨rfl, hb⟩; refine ⟨_, rfl, ?_⟩; have n0_ := Aside0.mk (below_step (by repeat (first | (with_reducible first | exact HB.out | apply below_alloc | apply pw_below_drewN | apply below_drew1) | exact HB.out)) hb); clear HB; have HB := n0_; clear n0_; (try clear hb); (try clear hb2); (try clear hk); (try clear hi)) | (go_at_call 56; (with_reducible refine (impl_WorldOk.calls a0 a2 true _ A6.out).mono ?_); rintro e w' ⟨rfl, ⟨nd, rfl⟩⟩) | (go_at_call 53; (with_reducible refine (impl_holds.calls k _ _ l1 a2 t135 _ ?side1 ?side2 A8.out).mono ?_); (case side1 => repeat (first | exact (Kd.C_below HR1.out (by repeat (first | (with_reducible first | exact HB.out | apply below_alloc | apply pw_below_drewN | apply below_drew1) | exact HB.out))) | (with_reducible refine Kd.C_alloc ?_ _) | (with_reducible refine Kd.C_drewN ?_ _) | (with_reducible refine Kd.C_drew ?_))); (case side2 => exact HC1.out); rintro e w10 ⟨rfl, hb⟩; have n0_ := Aside0.mk (below_step (by repeat (first | (with_reducible first | exact HB.out | apply below_alloc | apply pw_below_drewN | apply below_drew1) | exact HB.out)) hb); clear HB; have HB := n0_; clear n0_; (try clear hb); (try clear hb2); (try clear hk); (try clear hi)))
   go_ret
   exact ⟨by first | rfl | (simp [errW_none, errW_some] <;> rfl) | (simp [*, errW_none, errW_some] <;> rfl), by repeat (first | (with_reducible first | exact HB.out | apply below_alloc | apply pw_below_drewN | apply below_drew1) | exact HB.out)⟩
  ·replace c7 := Bool.eq_false_iff.mpr c7
   subst c7
   have H1 : (some false) = some r := by rw [if_neg (show ¬ (false = true) by decide)] at H; exact H
   clear H
   have H := H1
   clear H1
   obtain rfl := Option.some.inj H
   go_enter Try.func23, Try.ntmps23
   go_wp2_with (first | ((with_reducible refine gate_callee (f := 20) rfl ?_); refine goesL_ (some 9) rfl rfl Try.func20 (by kernel_rfl) rfl #[.int .i64 a0, .slice A1 l1.length c1] rfl (by (try simp only [List.map_toArray, List.map_cons, List.map_nil]); first | done | rfl | (simp only [List.length_drop, List.length_take]; rfl)) ?_; (with_reducible refine (impl_TermOk.calls k a0 _ _ l1 true _ ?side1 ?side2 A4.out).mono ?_); (case side1 => repeat (first | exact HR1.out | (with_reducible refine Kd.C_alloc ?_ _) | (with_reducible refine Kd.C_drewN ?_ _) | (with_reducible refine Kd.C_drew ?_))); (case side2 => exact HC1.out); rintro e w11 ⟨rfl, hb⟩; refine ⟨_, rfl, ?_⟩; have n0_ := Aside0.mk (below_step (by repeat (first | (with_reducible first | exact HB.out | apply below_alloc | apply pw_below_drewN | apply below_drew1) | exact HB.out)) hb); clear HB; have HB := n0_; clear n0_; (try clear hb); (try clear hb2); (try clear hk); (try clear hi)) | (go_at_call 56; (with_reducible refine (impl_WorldOk.calls a0 a2 false _ A6.out).mono ?_); rintro e w' ⟨rfl, ⟨nd, rfl⟩⟩))
   go_ret
   exact ⟨by first | rfl | (simp [errW_none, errW_some] <;> rfl) | (simp [*, errW_none, errW_some] <;> rfl), by repeat (first | (with_reducible first | exact HB.out | apply below_alloc | apply pw_below_drewN | apply below_drew1) | exact HB.out)⟩
 ·replace c5 := Bool.eq_false_iff.mpr c5
  subst c5
  have H1 : (some false) = some r := by rw [if_neg (show ¬ (false = true) by decide)] at H; exact H
  clear H
  have H := H1
  clear H1
  obtain rfl := Option.some.inj H
  go_enter Try.func23, Try.ntmps23
  go_wp2_with (first | ((with_reducible refine gate_callee (f := 20) rfl ?_); refine goesL_ (some 9) rfl rfl Try.func20 (by kernel_rfl) rfl #[.int .i64 a0, .slice A1 l1.length c1] rfl (by (try simp only [List.map_toArray, List.map_cons, List.map_nil]); first | done | rfl | (simp only [List.length_drop, List.length_take]; rfl)) ?_; (with_reducible refine (impl_TermOk.calls k a0 _ _ l1 false _ ?side1 ?side2 A4.out).mono ?_); (case side1 => repeat (first | exact HR1.out | (with_reducible refine Kd.C_alloc ?_ _) | (with_reducible refine Kd.C_drewN ?_ _) | (with_reducible refine Kd.C_drew ?_))); (case side2 => exact HC1.out); rintro e w12 ⟨rfl, hb⟩; refine ⟨_, rfl, ?_⟩; have n0_ := Aside0.mk (below_step (by repeat (first | (with_reducible first | exact HB.out | apply below_alloc | apply pw_below_drewN | apply below_drew1) | exact HB.out)) hb); clear HB; have HB := n0_; clear n0_; (try clear hb); (try clear hb2); (try clear hk); (try clear hi)))
  go_ret
  exact ⟨by first | rfl | (simp [errW_none, errW_some] <;> rfl) | (simp [*, errW_none, errW_some] <;> rfl), by repeat (first | (with_reducible first | exact HB.out | apply below_alloc | apply pw_below_drewN | apply below_drew1) | exact HB.out)⟩

/-! ### spec_l1In: function 63 -/
def spec_l1In.f (a0 : Int) (a1 : Int) (a2 : Int) : Option (Bool) := if a0 ≥ a1 then (some (decide (a0 ≤ a2))) else (some false)
set_option maxHeartbeats 8000000 in
set_option maxRecDepth 100000 in
theorem spec_l1In.calls (a0 : Int) (a1 : Int) (a2 : Int) (r : Bool) (w : World) (h : spec_l1In.f a0 a1 a2 = some r) :
  Calls Try.prog 63 #[.int .i64 a0, .int .i64 a1, .int .i64 a2] w fun e w' => e = .returned (.bool r) ∧ Drawn0 w w' := by
 have H : (if a0 ≥ a1 then (some (decide (a0 ≤ a2))) else (some false)) = some r := h
 clear h
 by_cases c4 : a0 ≥ a1
 ·rw [if_pos c4] at H
  have c4b0 : decide (a1 ≤ a0) = true := decide_eq_true c4
  clear c4
  obtain rfl := Option.some.inj H
  go_enter Try.func63, Try.ntmps63
  go_wp2
  go_ret
  exact ⟨by first | rfl | (simp; done) | (simp [*]; done), by repeat (first | exact Drawn0.refl _ | apply Drawn0.step)⟩
 ·rw [if_neg c4] at H
  have c4b0 : decide (a1 ≤ a0) = false := decide_eq_false c4
  clear c4
  obtain rfl := Option.some.inj H
  go_enter Try.func63, Try.ntmps63
  go_wp2
  go_ret
  exact ⟨by first | rfl | (simp; done) | (simp [*]; done), by repeat (first | exact Drawn0.refl _ | apply Drawn0.step)⟩

/-! ### spec_TermOk: function 35 -/
mutual
def spec_TermOk.l0 : Nat → Int → List (S41) → Int → Int → Option (Bool)
 | 0, _, _, _, _ => none
 | k + 1, x0, x1, x5, x6 => if x6 < (x1.length : Int) then (if 0 ≤ x6 then (if ((rd_T41 x1 x6).f0) = 0 then (if ((rd_T41 x1 x6).f1) ≥ 0 then (spec_TermOk.j1 k x0 x1 x5 x6 (decide (((rd_T41 x1 x6).f1) < x0))) else (spec_TermOk.j1 k x0 x1 x5 x6 false)) else (spec_TermOk.j1 k x0 x1 x5 x6 false)) else (none)) else ((spec_l1In.f x0 1 4).bind fun t136 => (if t136 = true then (if x5 = 1 then (some (decide ((x1.length : Int) ≤ 15))) else (some false)) else (some false)))
def spec_TermOk.j1 : Nat → Int → List (S41) → Int → Int → Bool → Option (Bool)
 | 0, _, _, _, _, _ => none
 | k + 1, x0, x1, x5, x6, x13 => if x13 = true then (spec_TermOk.l0 k x0 x1 (wrap64 (x5 + 1)) (wrap64 (x6 + 1))) else (if 0 ≤ x6 then (if x6 < (x1.length : Int) then (if ((rd_T41 x1 x6).f0) = 1 then (if ((rd_T41 x1 x6).f1) ≥ 0 then (if ((rd_T41 x1 x6).f1) ≤ x0 then (spec_TermOk.j2 k x0 x1 x5 x6 true) else (spec_TermOk.j2 k x0 x1 x5 x6 ((wrap64 (((rd_T41 x1 x6).f1) - 1)) == x0))) else (spec_TermOk.j2 k x0 x1 x5 x6 false)) else (spec_TermOk.j2 k x0 x1 x5 x6 false)) else (none)) else (none))
def spec_TermOk.j2 : Nat → Int → List (S41) → Int → Int → Bool → Option (Bool)
 | 0, _, _, _, _, _ => none
 | k + 1, x0, x1, x5, x6, x39 => if x39 = true then (spec_TermOk.l0 k x0 x1 (wrap64 (x5 + 1)) (wrap64 (x6 + 1))) else (if 0 ≤ x6 then (if x6 < (x1.length : Int) then (if (((rd_T41 x1 x6).f0) == 2 && (((rd_T41 x1 x6).f1) == 0)) = true then (spec_TermOk.j3 k x0 x1 x5 x6 (decide (x5 ≥ 1))) else (spec_TermOk.j3 k x0 x1 x5 x6 false)) else (none)) else (none))
def spec_TermOk.j3 : Nat → Int → List (S41) → Int → Int → Bool → Option (Bool)
 | 0, _, _, _, _, _ => none
 | k + 1, x0, x1, x5, x6, x75 => if x75 = true then (spec_TermOk.l0 k x0 x1 x5 (wrap64 (x6 + 1))) else (if 0 ≤ x6 then (if x6 < (x1.length : Int) then ((spec_l1In.f ((rd_T41 x1 x6).f0) 3 5).bind fun t146 => (if t146 = true then (if ((rd_T41 x1 x6).f1) = 0 then (if x5 ≥ 2 then (spec_TermOk.l0 k x0 x1 (wrap64 (x5 - 1)) (wrap64 (x6 + 1))) else (some false)) else (some false)) else (some false))) else (none)) else (none))
end
def spec_TermOk.f (k : Nat) (a0 : Int) (l1 : List (S41)) : Option (Bool) := spec_TermOk.l0 k a0 l1 0 0
theorem spec_TermOk.mono_l : ∀ k, (∀ y0 y1 y2 y3, LeO (spec_TermOk.l0 k y0 y1 y2 y3) (spec_TermOk.l0 (k + 1) y0 y1 y2 y3)) ∧ (∀ y0 y1 y2 y3 y4, LeO (spec_TermOk.j1 k y0 y1 y2 y3 y4) (spec_TermOk.j1 (k + 1) y0 y1 y2 y3 y4)) ∧ (∀ y0 y1 y2 y3 y4, LeO (spec_TermOk.j2 k y0 y1 y2 y3 y4) (spec_TermOk.j2 (k + 1) y0 y1 y2 y3 y4)) ∧ (∀ y0 y1 y2 y3 y4, LeO (spec_TermOk.j3 k y0 y1 y2 y3 y4) (spec_TermOk.j3 (k + 1) y0 y1 y2 y3 y4))
 | 0 => ⟨fun _ _ _ _ r h => by simp [spec_TermOk.l0] at h, fun _ _ _ _ _ r h => by simp [spec_TermOk.j1] at h, fun _ _ _ _ _ r h => by simp [spec_TermOk.j2] at h, fun _ _ _ _ _ r h => by simp [spec_TermOk.j3] at h⟩
 | k + 1 => by
  obtain ⟨ih0, ih1, ih2, ih3⟩ := spec_TermOk.mono_l k
  refine ⟨?_, ?_, ?_, ?_⟩
  ·intro y0 y1 y2 y3
   unfold spec_TermOk.l0
   repeat' first
   | (with_reducible exact ih0 _ _ _ _)
   | (with_reducible exact ih1 _ _ _ _ _)
   | (with_reducible exact ih2 _ _ _ _ _)
   | (with_reducible exact ih3 _ _ _ _ _)
   | (with_reducible exact LeO.refl _)
   | (with_reducible exact LeO.none _)
   | (with_reducible refine LeO.ite ?_ ?_)
   | (with_reducible refine LeO.bind ?_ (fun _ => ?_))
   | exact ih0 _ _ _ _
   | exact ih1 _ _ _ _ _
   | exact ih2 _ _ _ _ _
   | exact ih3 _ _ _ _ _
   | exact LeO.none _
   | refine LeO.ite ?_ ?_
   | refine LeO.bind ?_ (fun _ => ?_)
  ·intro y0 y1 y2 y3 y4
   unfold spec_TermOk.j1
   repeat' first
   | (with_reducible exact ih0 _ _ _ _)
   | (with_reducible exact ih1 _ _ _ _ _)
   | (with_reducible exact ih2 _ _ _ _ _)
   | (with_reducible exact ih3 _ _ _ _ _)
   | (with_reducible exact LeO.refl _)
   | (with_reducible exact LeO.none _)
   | (with_reducible refine LeO.ite ?_ ?_)
   | (with_reducible refine LeO.bind ?_ (fun _ => ?_))
   | exact ih0 _ _ _ _
   | exact ih1 _ _ _ _ _
   | exact ih2 _ _ _ _ _
   | exact ih3 _ _ _ _ _
   | exact LeO.none _
   | refine LeO.ite ?_ ?_
   | refine LeO.bind ?_ (fun _ => ?_)
  ·intro y0 y1 y2 y3 y4
   unfold spec_TermOk.j2
   repeat' first
   | (with_reducible exact ih0 _ _ _ _)
   | (with_reducible exact ih1 _ _ _ _ _)
   | (with_reducible exact ih2 _ _ _ _ _)
   | (with_reducible exact ih3 _ _ _ _ _)
   | (with_reducible exact LeO.refl _)
   | (with_reducible exact LeO.none _)
   | (with_reducible refine LeO.ite ?_ ?_)
   | (with_reducible refine LeO.bind ?_ (fun _ => ?_))
   | exact ih0 _ _ _ _
   | exact ih1 _ _ _ _ _
   | exact ih2 _ _ _ _ _
   | exact ih3 _ _ _ _ _
   | exact LeO.none _
   | refine LeO.ite ?_ ?_
   | refine LeO.bind ?_ (fun _ => ?_)
  ·intro y0 y1 y2 y3 y4
   unfold spec_TermOk.j3
   repeat' first
   | (with_reducible exact ih0 _ _ _ _)
   | (with_reducible exact ih1 _ _ _ _ _)
   | (with_reducible exact ih2 _ _ _ _ _)
   | (with_reducible exact ih3 _ _ _ _ _)
   | (with_reducible exact LeO.refl _)
   | (with_reducible exact LeO.none _)
   | (with_reducible refine LeO.ite ?_ ?_)
   | (with_reducible refine LeO.bind ?_ (fun _ => ?_))
   | exact ih0 _ _ _ _
   | exact ih1 _ _ _ _ _
   | exact ih2 _ _ _ _ _
   | exact ih3 _ _ _ _ _
   | exact LeO.none _
   | refine LeO.ite ?_ ?_
   | refine LeO.bind ?_ (fun _ => ?_)
theorem spec_TermOk.mono : ∀ a0 a1 k, LeO (spec_TermOk.f k a0 a1) (spec_TermOk.f (k + 1) a0 a1) := by
 intro a0 a1 k
 obtain ⟨ih0, ih1, ih2, ih3⟩ := spec_TermOk.mono_l k
 unfold spec_TermOk.f
 repeat' first
   | (with_reducible exact ih0 _ _ _ _)
   | (with_reducible exact ih1 _ _ _ _ _)
   | (with_reducible exact ih2 _ _ _ _ _)
   | (with_reducible exact ih3 _ _ _ _ _)
   | (with_reducible exact LeO.refl _)
   | (with_reducible exact LeO.none _)
   | (with_reducible refine LeO.ite ?_ ?_)
   | (with_reducible refine LeO.bind ?_ (fun _ => ?_))
   | exact ih0 _ _ _ _
   | exact ih1 _ _ _ _ _
   | exact ih2 _ _ _ _ _
   | exact ih3 _ _ _ _ _
   | exact LeO.none _
   | refine LeO.ite ?_ ?_
   | refine LeO.bind ?_ (fun _ => ?_)
set_option maxHeartbeats 8000000 in
set_option maxRecDepth 100000 in
theorem spec_TermOk.calls (k : Nat) (a0 : Int) (A1 : Option Addr) (c1 : Nat) (l1 : List (S41)) (r : Bool) (w : World) (hr1 : Kd.C k41 w A1 l1.length l1) (hc1 : l1.length ≤ c1) (h : spec_TermOk.f k a0 l1 = some r) :
  Calls Try.prog 35 #[.int .i64 a0, .slice A1 l1.length c1] w fun e w' => e = .returned (.bool r) ∧ Drawn0 w w' := by
 have hu41 := Try.underlying41
 have HR1 := Aside0.mk hr1
 have HC1 := Aside0.mk hc1
 clear hr1 hc1
 have H : (spec_TermOk.l0 k a0 l1 0 0) = some r := h
 clear h
 have H' := Aside0.mk H
 clear H
 go_enter Try.func35, Try.ntmps35
 go_wp2
 go_loopg [5, 6] k (fun kq v5 v6 w' => ∃ (x5_1 : Int) (x6_1 : Int), v5 = .int .i64 x5_1 ∧ v6 = .int .i64 x6_1 ∧ Aside0 (spec_TermOk.l0 kq a0 l1 x5_1 x6_1 = some r) ∧ Aside0 (kq ≤ k) ∧ Drawn0 w w')
 case atStart => exact ⟨(0), (0), (by first | rfl | (simp; done) | (simp [*]; done)), (by first | rfl | (simp; done) | (simp [*]; done)), H', ⟨Nat.le_refl _⟩, by repeat (first | exact Drawn0.refl _ | apply Drawn0.step)⟩
 case round =>
  clear H'
  try clear c1
  try clear p2
  obtain ⟨x5_1, x6_1, rfl, rfl, HA, HK1, ⟨m1, rfl⟩⟩ := hrel
  cases gk with
  | zero => exact absurd HA.out (by simp [spec_TermOk.l0])
  | succ k1 =>
   have H := HA.out
   clear HA
   simp only [spec_TermOk.l0] at H
   by_cases c3 : x6_1 < (l1.length : Int)
   ·rw [if_pos c3] at H
    have c3b0 : decide (x6_1 < (l1.length : Int)) = true := decide_eq_true c3
    clear c3
    have HC4 := Aside0.mk H
    clear H
    go_upto_region 6 with (fail)
    go_cut [13] (fun v13 wc => ∃ (kq : Nat) (x13_3 : Bool), v13 = .bool x13_3 ∧ Aside0 (spec_TermOk.j1 kq a0 l1 x5_1 x6_1 x13_3 = some r) ∧ Aside0 (kq ≤ k1) ∧ Drawn0 w wc)
    case first =>
     have H := HC4.out
     clear HC4
     by_cases c5 : 0 ≤ x6_1
     ·rw [if_pos c5] at H
      have c5b0 : decide (0 ≤ x6_1) = true := decide_eq_true c5
      clear c5
      (first | rw [c5b0] | (simp only [i64_w, i32_w]; rw [c5b0]) | skip)
      by_cases c6 : ((rd_T41 l1 x6_1).f0) = 0
      ·rw [if_pos c6] at H
       have c6b0 : (((rd_T41 l1 x6_1).f0) == 0) = true := beq_iff_eq.mpr c6
       have c6b1 : (((rd_T41 l1 x6_1).f0) != 0) = false := bne_eq_false_iff_eq.mpr c6
       clear c6
       by_cases c7 : ((rd_T41 l1 x6_1).f1) ≥ 0
       ·rw [if_pos c7] at H
        have c7b0 : decide (0 ≤ ((rd_T41 l1 x6_1).f1)) = true := decide_eq_true c7
        clear c7
        have H' := Aside0.mk H
        clear H
        have p137 : 0 ≤ (x6_1 : Int) := of_decide_eq_true (by first | (with_reducible assumption) | assumption)
        have q137 : x6_1 < (l1.length : Int) := of_decide_eq_true (by first | (with_reducible assumption) | assumption)
        obtain ⟨ad137, e137, hx137_0, hx137_1⟩ := at_T41 HR1.out x6_1 p137 q137
        cases e137
        replace p137 := eq_true p137
        replace q137 := eq_true q137
        have p138 : 0 ≤ (x6_1 : Int) := of_decide_eq_true (by first | (with_reducible assumption) | assumption)
        have q138 : x6_1 < (l1.length : Int) := of_decide_eq_true (by first | (with_reducible assumption) | assumption)
        obtain ⟨ad138, e138, hx138_0, hx138_1⟩ := at_T41 HR1.out x6_1 p138 q138
        obtain rfl : ad137 = ad138 := (by injection e138)
        replace p138 := eq_true p138
        replace q138 := eq_true q138
        have p139 : 0 ≤ (x6_1 : Int) := of_decide_eq_true (by first | (with_reducible assumption) | assumption)
        have q139 : x6_1 < (l1.length : Int) := of_decide_eq_true (by first | (with_reducible assumption) | assumption)
        obtain ⟨ad139, e139, hx139_0, hx139_1⟩ := at_T41 HR1.out x6_1 p139 q139
        obtain rfl : ad137 = ad139 := (by injection e139)
        replace p139 := eq_true p139
        replace q139 := eq_true q139
        go_wp2
        go_meet
        case rel => exact ⟨_, (decide (((rd_T41 l1 x6_1).f1) < a0)), (by first | rfl | (simp; done) | (simp [*]; done)), H', ⟨by have := HK1.out; first | omega | exact Nat.le_refl _⟩, by repeat (first | exact Drawn0.refl _ | apply Drawn0.step)⟩
       ·rw [if_neg c7] at H
        have c7b0 : decide (0 ≤ ((rd_T41 l1 x6_1).f1)) = false := decide_eq_false c7
        clear c7
        have H' := Aside0.mk H
        clear H
        have p137 : 0 ≤ (x6_1 : Int) := of_decide_eq_true (by first | (with_reducible assumption) | assumption)
        have q137 : x6_1 < (l1.length : Int) := of_decide_eq_true (by first | (with_reducible assumption) | assumption)
        obtain ⟨ad137, e137, hx137_0, hx137_1⟩ := at_T41 HR1.out x6_1 p137 q137
        cases e137
        replace p137 := eq_true p137
        replace q137 := eq_true q137
        have p138 : 0 ≤ (x6_1 : Int) := of_decide_eq_true (by first | (with_reducible assumption) | assumption)
        have q138 : x6_1 < (l1.length : Int) := of_decide_eq_true (by first | (with_reducible assumption) | assumption)
        obtain ⟨ad138, e138, hx138_0, hx138_1⟩ := at_T41 HR1.out x6_1 p138 q138
        obtain rfl : ad137 = ad138 := (by injection e138)
        replace p138 := eq_true p138
        replace q138 := eq_true q138
        go_wp2
        go_meet
        case rel => exact ⟨_, (false), (by first | rfl | (simp; done) | (simp [*]; done)), H', ⟨by have := HK1.out; first | omega | exact Nat.le_refl _⟩, by repeat (first | exact Drawn0.refl _ | apply Drawn0.step)⟩
      ·rw [if_neg c6] at H
       have c6b0 : (((rd_T41 l1 x6_1).f0) == 0) = false := beq_eq_false_iff_ne.mpr c6
       have c6b1 : (((rd_T41 l1 x6_1).f0) != 0) = true := bne_iff_ne.mpr c6
       have H' := Aside0.mk H
       clear H
       have p137 : 0 ≤ (x6_1 : Int) := of_decide_eq_true (by first | (with_reducible assumption) | assumption)
       have q137 : x6_1 < (l1.length : Int) := of_decide_eq_true (by first | (with_reducible assumption) | assumption)
       obtain ⟨ad137, e137, hx137_0, hx137_1⟩ := at_T41 HR1.out x6_1 p137 q137
       cases e137
       replace p137 := eq_true p137
       replace q137 := eq_true q137
       go_wp2
       go_meet
       case rel => exact ⟨_, (false), (by first | rfl | (simp; done) | (simp [*]; done)), H', ⟨by have := HK1.out; first | omega | exact Nat.le_refl _⟩, by repeat (first | exact Drawn0.refl _ | apply Drawn0.step)⟩
     ·rw [if_neg c5] at H
      exact absurd H (by simp)
    case rest =>
     clear HC4
     try clear c1
     try clear p1
     try clear q1
     try clear hx1
     try clear p2
     try clear c3
     try clear c3b0
     try clear c5
     try clear c5b0
     try clear c6
     try clear c6b0
     try clear c6b1
     try clear c7
     try clear c7b0
     try clear hx137_0
     try clear hx137_1
     try clear hx138_0
     try clear hx138_1
     try clear hx139_0
     try clear hx139_1
     try clear p137
     try clear p138
     try clear p139
     try clear p2
     try clear q137
     try clear q138
     try clear q139
     obtain ⟨kq, x13_3, rfl, HA, HJ3, ⟨mc3, rfl⟩⟩ := hcut
     cases kq with
     | zero => exact absurd HA.out (by simp [spec_TermOk.j1])
     | succ kj3 =>
      have H := HA.out
      clear HA
      simp only [spec_TermOk.j1] at H
      by_cases c8 : x13_3 = true
      ·subst c8
       have H1 : (spec_TermOk.l0 kj3 a0 l1 (wrap64 (x5_1 + 1)) (wrap64 (x6_1 + 1))) = some r := by rw [if_pos rfl] at H; exact H
       clear H
       have H := H1
       clear H1
       have H' := Aside0.mk H
       clear H
       go_wp2
       go_roundg kj3
       case measure => have := HK1.out; have := HJ3.out; omega
       case rel => exact ⟨(wrap64 (x5_1 + 1)), (wrap64 (x6_1 + 1)), (by first | rfl | (simp; done) | (simp [*]; done)), (by first | rfl | (simp; done) | (simp [*]; done)), H', ⟨by have := HK1.out; have := HJ3.out; omega⟩, by repeat (first | exact Drawn0.refl _ | apply Drawn0.step)⟩
      ·replace c8 := Bool.eq_false_iff.mpr c8
       subst c8
       have H1 : (if 0 ≤ x6_1 then (if x6_1 < (l1.length : Int) then (if ((rd_T41 l1 x6_1).f0) = 1 then (if ((rd_T41 l1 x6_1).f1) ≥ 0 then (if ((rd_T41 l1 x6_1).f1) ≤ a0 then (spec_TermOk.j2 kj3 a0 l1 x5_1 x6_1 true) else (spec_TermOk.j2 kj3 a0 l1 x5_1 x6_1 ((wrap64 (((rd_T41 l1 x6_1).f1) - 1)) == a0))) else (spec_TermOk.j2 kj3 a0 l1 x5_1 x6_1 false)) else (spec_TermOk.j2 kj3 a0 l1 x5_1 x6_1 false)) else (none)) else (none)) = some r := by rw [if_neg (show ¬ (false = true) by decide)] at H; exact H
       clear H
       have H := H1
       clear H1
       have HC9 := Aside0.mk H
       clear H
       go_upto_region 8 with (fail)
       go_cut [39] (fun v39 wc => ∃ (kq : Nat) (x39_8 : Bool), v39 = .bool x39_8 ∧ Aside0 (spec_TermOk.j2 kq a0 l1 x5_1 x6_1 x39_8 = some r) ∧ Aside0 (kq ≤ kj3) ∧ Drawn0 w wc)
       case first =>
        have H := HC9.out
        clear HC9
        by_cases c10 : 0 ≤ x6_1
        ·rw [if_pos c10] at H
         have c10b0 : decide (0 ≤ x6_1) = true := decide_eq_true c10
         clear c10
         (first | rw [c10b0] | (simp only [i64_w, i32_w]; rw [c10b0]) | skip)
         by_cases c11 : x6_1 < (l1.length : Int)
         ·rw [if_pos c11] at H
          have c11b0 : decide (x6_1 < (l1.length : Int)) = true := decide_eq_true c11
          clear c11
          by_cases c12 : ((rd_T41 l1 x6_1).f0) = 1
          ·rw [if_pos c12] at H
           have c12b0 : (((rd_T41 l1 x6_1).f0) == 1) = true := beq_iff_eq.mpr c12
           have c12b1 : (((rd_T41 l1 x6_1).f0) != 1) = false := bne_eq_false_iff_eq.mpr c12
           clear c12
           by_cases c13 : ((rd_T41 l1 x6_1).f1) ≥ 0
           ·rw [if_pos c13] at H
            have c13b0 : decide (0 ≤ ((rd_T41 l1 x6_1).f1)) = true := decide_eq_true c13
            clear c13
            by_cases c14 : ((rd_T41 l1 x6_1).f1) ≤ a0
            ·rw [if_pos c14] at H
             have c14b0 : decide (((rd_T41 l1 x6_1).f1) ≤ a0) = true := decide_eq_true c14
             clear c14
             have H' := Aside0.mk H
             clear H
             have p140 : 0 ≤ (x6_1 : Int) := of_decide_eq_true (by first | (with_reducible assumption) | assumption)
             have q140 : x6_1 < (l1.length : Int) := of_decide_eq_true (by first | (with_reducible assumption) | assumption)
             obtain ⟨ad140, e140, hx140_0, hx140_1⟩ := at_T41 HR1.out x6_1 p140 q140
             cases e140
             replace p140 := eq_true p140
             replace q140 := eq_true q140
             have p141 : 0 ≤ (x6_1 : Int) := of_decide_eq_true (by first | (with_reducible assumption) | assumption)
             have q141 : x6_1 < (l1.length : Int) := of_decide_eq_true (by first | (with_reducible assumption) | assumption)
             obtain ⟨ad141, e141, hx141_0, hx141_1⟩ := at_T41 HR1.out x6_1 p141 q141
             obtain rfl : ad140 = ad141 := (by injection e141)
             replace p141 := eq_true p141
             replace q141 := eq_true q141
             have p142 : 0 ≤ (x6_1 : Int) := of_decide_eq_true (by first | (with_reducible assumption) | assumption)
             have q142 : x6_1 < (l1.length : Int) := of_decide_eq_true (by first | (with_reducible assumption) | assumption)
             obtain ⟨ad142, e142, hx142_0, hx142_1⟩ := at_T41 HR1.out x6_1 p142 q142
             obtain rfl : ad140 = ad142 := (by injection e142)
             replace p142 := eq_true p142
             replace q142 := eq_true q142
             go_wp2
             go_meet
             case rel => exact ⟨_, (true), (by first | rfl | (simp; done) | (simp [*]; done)), H', ⟨by have := HK1.out; have := HJ3.out; first | omega | exact Nat.le_refl _⟩, by repeat (first | exact Drawn0.refl _ | apply Drawn0.step)⟩
            ·rw [if_neg c14] at H
             have c14b0 : decide (((rd_T41 l1 x6_1).f1) ≤ a0) = false := decide_eq_false c14
             clear c14
             have H' := Aside0.mk H
             clear H
             have p140 : 0 ≤ (x6_1 : Int) := of_decide_eq_true (by first | (with_reducible assumption) | assumption)
             have q140 : x6_1 < (l1.length : Int) := of_decide_eq_true (by first | (with_reducible assumption) | assumption)
             obtain ⟨ad140, e140, hx140_0, hx140_1⟩ := at_T41 HR1.out x6_1 p140 q140
             cases e140
             replace p140 := eq_true p140
             replace q140 := eq_true q140
             have p141 : 0 ≤ (x6_1 : Int) := of_decide_eq_true (by first | (with_reducible assumption) | assumption)
             have q141 : x6_1 < (l1.length : Int) := of_decide_eq_true (by first | (with_reducible assumption) | assumption)
             obtain ⟨ad141, e141, hx141_0, hx141_1⟩ := at_T41 HR1.out x6_1 p141 q141
             obtain rfl : ad140 = ad141 := (by injection e141)
             replace p141 := eq_true p141
             replace q141 := eq_true q141
             have p142 : 0 ≤ (x6_1 : Int) := of_decide_eq_true (by first | (with_reducible assumption) | assumption)
             have q142 : x6_1 < (l1.length : Int) := of_decide_eq_true (by first | (with_reducible assumption) | assumption)
             obtain ⟨ad142, e142, hx142_0, hx142_1⟩ := at_T41 HR1.out x6_1 p142 q142
             obtain rfl : ad140 = ad142 := (by injection e142)
             replace p142 := eq_true p142
             replace q142 := eq_true q142
             have p143 : 0 ≤ (x6_1 : Int) := of_decide_eq_true (by first | (with_reducible assumption) | assumption)
             have q143 : x6_1 < (l1.length : Int) := of_decide_eq_true (by first | (with_reducible assumption) | assumption)
             obtain ⟨ad143, e143, hx143_0, hx143_1⟩ := at_T41 HR1.out x6_1 p143 q143
             obtain rfl : ad140 = ad143 := (by injection e143)
             replace p143 := eq_true p143
             replace q143 := eq_true q143
             go_wp2
             go_meet
             case rel => exact ⟨_, (((wrap64 (((rd_T41 l1 x6_1).f1) - 1)) == a0)), (by first | rfl | (simp; done) | (simp [*]; done)), H', ⟨by have := HK1.out; have := HJ3.out; first | omega | exact Nat.le_refl _⟩, by repeat (first | exact Drawn0.refl _ | apply Drawn0.step)⟩
           ·rw [if_neg c13] at H
            have c13b0 : decide (0 ≤ ((rd_T41 l1 x6_1).f1)) = false := decide_eq_false c13
            clear c13
            have H' := Aside0.mk H
            clear H
            have p140 : 0 ≤ (x6_1 : Int) := of_decide_eq_true (by first | (with_reducible assumption) | assumption)
            have q140 : x6_1 < (l1.length : Int) := of_decide_eq_true (by first | (with_reducible assumption) | assumption)
            obtain ⟨ad140, e140, hx140_0, hx140_1⟩ := at_T41 HR1.out x6_1 p140 q140
            cases e140
            replace p140 := eq_true p140
            replace q140 := eq_true q140
            have p141 : 0 ≤ (x6_1 : Int) := of_decide_eq_true (by first | (with_reducible assumption) | assumption)
            have q141 : x6_1 < (l1.length : Int) := of_decide_eq_true (by first | (with_reducible assumption) | assumption)
            obtain ⟨ad141, e141, hx141_0, hx141_1⟩ := at_T41 HR1.out x6_1 p141 q141
            obtain rfl : ad140 = ad141 := (by injection e141)
            replace p141 := eq_true p141
            replace q141 := eq_true q141
            go_wp2
            go_meet
            case rel => exact ⟨_, (false), (by first | rfl | (simp; done) | (simp [*]; done)), H', ⟨by have := HK1.out; have := HJ3.out; first | omega | exact Nat.le_refl _⟩, by repeat (first | exact Drawn0.refl _ | apply Drawn0.step)⟩
          ·rw [if_neg c12] at H
           have c12b0 : (((rd_T41 l1 x6_1).f0) == 1) = false := beq_eq_false_iff_ne.mpr c12
           have c12b1 : (((rd_T41 l1 x6_1).f0) != 1) = true := bne_iff_ne.mpr c12
           have H' := Aside0.mk H
           clear H
           have p140 : 0 ≤ (x6_1 : Int) := of_decide_eq_true (by first | (with_reducible assumption) | assumption)
           have q140 : x6_1 < (l1.length : Int) := of_decide_eq_true (by first | (with_reducible assumption) | assumption)
           obtain ⟨ad140, e140, hx140_0, hx140_1⟩ := at_T41 HR1.out x6_1 p140 q140
           cases e140
           replace p140 := eq_true p140
           replace q140 := eq_true q140
           go_wp2
           go_meet
           case rel => exact ⟨_, (false), (by first | rfl | (simp; done) | (simp [*]; done)), H', ⟨by have := HK1.out; have := HJ3.out; first | omega | exact Nat.le_refl _⟩, by repeat (first | exact Drawn0.refl _ | apply Drawn0.step)⟩
         ·rw [if_neg c11] at H
          exact absurd H (by simp)
        ·rw [if_neg c10] at H
         exact absurd H (by simp)
       case rest =>
        clear HC9
        try clear c1
        try clear p1
        try clear q1
        try clear hx1
        try clear p2
        try clear c3
        try clear c3b0
        try clear c5
        try clear c5b0
        try clear c6
        try clear c6b0
        try clear c6b1
        try clear p6
        try clear c7
        try clear c7b0
        try clear c8
        try clear c10
        try clear c10b0
        try clear c11
        try clear c11b0
        try clear c12
        try clear c12b0
        try clear c12b1
        try clear c13
        try clear c13b0
        try clear p13
        try clear q13
        try clear hx13
        try clear c14
        try clear c14b0
        try clear p14
        try clear q14
        try clear hx14
        try clear hx137_0
        try clear hx137_1
        try clear hx138_0
        try clear hx138_1
        try clear hx139_0
        try clear hx139_1
        try clear hx140_0
        try clear hx140_1
        try clear hx141_0
        try clear hx141_1
        try clear hx142_0
        try clear hx142_1
        try clear hx143_0
        try clear hx143_1
        try clear p1
        try clear p137
        try clear p138
        try clear p139
        try clear p140
        try clear p141
        try clear p142
        try clear p143
        try clear p2
        try clear q1
        try clear q137
        try clear q138
        try clear q139
        try clear q140
        try clear q141
        try clear q142
        try clear q143
        obtain ⟨kq, x39_8, rfl, HA, HJ8, ⟨mc8, rfl⟩⟩ := hcut
        cases kq with
        | zero => exact absurd HA.out (by simp [spec_TermOk.j2])
        | succ kj8 =>
         have H := HA.out
         clear HA
         simp only [spec_TermOk.j2] at H
         by_cases c15 : x39_8 = true
         ·subst c15
          have H1 : (spec_TermOk.l0 kj8 a0 l1 (wrap64 (x5_1 + 1)) (wrap64 (x6_1 + 1))) = some r := by rw [if_pos rfl] at H; exact H
          clear H
          have H := H1
          clear H1
          have H' := Aside0.mk H
          clear H
          go_wp2
          go_roundg kj8
          case measure => have := HK1.out; have := HJ3.out; have := HJ8.out; omega
          case rel => exact ⟨(wrap64 (x5_1 + 1)), (wrap64 (x6_1 + 1)), (by first | rfl | (simp; done) | (simp [*]; done)), (by first | rfl | (simp; done) | (simp [*]; done)), H', ⟨by have := HK1.out; have := HJ3.out; have := HJ8.out; omega⟩, by repeat (first | exact Drawn0.refl _ | apply Drawn0.step)⟩
         ·replace c15 := Bool.eq_false_iff.mpr c15
          subst c15
          have H1 : (if 0 ≤ x6_1 then (if x6_1 < (l1.length : Int) then (if (((rd_T41 l1 x6_1).f0) == 2 && (((rd_T41 l1 x6_1).f1) == 0)) = true then (spec_TermOk.j3 kj8 a0 l1 x5_1 x6_1 (decide (x5_1 ≥ 1))) else (spec_TermOk.j3 kj8 a0 l1 x5_1 x6_1 false)) else (none)) else (none)) = some r := by rw [if_neg (show ¬ (false = true) by decide)] at H; exact H
          clear H
          have H := H1
          clear H1
          have HC16 := Aside0.mk H
          clear H
          go_upto_region 10 with (fail)
          go_cut [75] (fun v75 wc => ∃ (kq : Nat) (x75_15 : Bool), v75 = .bool x75_15 ∧ Aside0 (spec_TermOk.j3 kq a0 l1 x5_1 x6_1 x75_15 = some r) ∧ Aside0 (kq ≤ kj8) ∧ Drawn0 w wc)
          case first =>
           have H := HC16.out
           clear HC16
           by_cases c17 : 0 ≤ x6_1
           ·rw [if_pos c17] at H
            have c17b0 : decide (0 ≤ x6_1) = true := decide_eq_true c17
            clear c17
            (first | rw [c17b0] | (simp only [i64_w, i32_w]; rw [c17b0]) | skip)
            by_cases c18 : x6_1 < (l1.length : Int)
            ·rw [if_pos c18] at H
             have c18b0 : decide (x6_1 < (l1.length : Int)) = true := decide_eq_true c18
             clear c18
             by_cases c19 : (((rd_T41 l1 x6_1).f0) == 2 && (((rd_T41 l1 x6_1).f1) == 0)) = true
             ·rw [if_pos c19] at H
              have c19b0 : (((rd_T41 l1 x6_1).f0) == 2 && (((rd_T41 l1 x6_1).f1) == 0)) = true := c19
              (try (have c19b1 : decide (((rd_T41 l1 x6_1).f0) = 2 && (((rd_T41 l1 x6_1).f1) == 0)) = true := by simpa using c19))
              (try (have c19b2 : (((rd_T41 l1 x6_1).f0) == 2 && (((rd_T41 l1 x6_1).f1) == 0)) = true := by simpa using c19))
              clear c19
              have H' := Aside0.mk H
              clear H
              have p144 : 0 ≤ (x6_1 : Int) := of_decide_eq_true (by first | (with_reducible assumption) | assumption)
              have q144 : x6_1 < (l1.length : Int) := of_decide_eq_true (by first | (with_reducible assumption) | assumption)
              obtain ⟨ad144, e144, hx144_0, hx144_1⟩ := at_T41 HR1.out x6_1 p144 q144
              cases e144
              replace p144 := eq_true p144
              replace q144 := eq_true q144
              go_wp2
              go_meet
              case rel => exact ⟨_, (decide (x5_1 ≥ 1)), (by first | rfl | (simp; done) | (simp [*]; done)), H', ⟨by have := HK1.out; have := HJ3.out; have := HJ8.out; first | omega | exact Nat.le_refl _⟩, by repeat (first | exact Drawn0.refl _ | apply Drawn0.step)⟩
             ·rw [if_neg c19] at H
              have c19b0 : (((rd_T41 l1 x6_1).f0) == 2 && (((rd_T41 l1 x6_1).f1) == 0)) = false := by simpa using c19
              (try (have c19b1 : decide (((rd_T41 l1 x6_1).f0) = 2 && (((rd_T41 l1 x6_1).f1) == 0)) = false := by simpa using c19))
              (try (have c19b2 : (((rd_T41 l1 x6_1).f0) == 2 && (((rd_T41 l1 x6_1).f1) == 0)) = false := by simpa using c19))
              (try (have c19b3 : ¬ (((rd_T41 l1 x6_1).f0) = 2 && (((rd_T41 l1 x6_1).f1) == 0)) := by simpa using c19))
              clear c19
              have H' := Aside0.mk H
              clear H
              have p144 : 0 ≤ (x6_1 : Int) := of_decide_eq_true (by first | (with_reducible assumption) | assumption)
              have q144 : x6_1 < (l1.length : Int) := of_decide_eq_true (by first | (with_reducible assumption) | assumption)
              obtain ⟨ad144, e144, hx144_0, hx144_1⟩ := at_T41 HR1.out x6_1 p144 q144
              cases e144
              replace p144 := eq_true p144
              replace q144 := eq_true q144
              go_wp2
              go_meet
              case rel => exact ⟨_, (false), (by first | rfl | (simp; done) | (simp [*]; done)), H', ⟨by have := HK1.out; have := HJ3.out; have := HJ8.out; first | omega | exact Nat.le_refl _⟩, by repeat (first | exact Drawn0.refl _ | apply Drawn0.step)⟩
            ·rw [if_neg c18] at H
             exact absurd H (by simp)
           ·rw [if_neg c17] at H
            exact absurd H (by simp)
          case rest =>
           clear HC16
           try clear c1
           try clear p1
           try clear q1
           try clear hx1
           try clear p2
           try clear c3
           try clear c3b0
           try clear c5
           try clear c5b0
           try clear c6
           try clear c6b0
           try clear c6b1
           try clear p6
           try clear c7
           try clear c7b0
           try clear c8
           try clear c10
           try clear c10b0
           try clear c11
           try clear c11b0
           try clear c12
           try clear c12b0
           try clear c12b1
           try clear c13
           try clear c13b0
           try clear p13
           try clear q13
           try clear hx13
           try clear c14
           try clear c14b0
           try clear p14
           try clear q14
           try clear hx14
           try clear c15
           try clear c17
           try clear c17b0
           try clear c18
           try clear c18b0
           try clear c19
           try clear c19b0
           try clear c19b1
           try clear c19b2
           try clear hx137_0
           try clear hx137_1
           try clear hx138_0
           try clear hx138_1
           try clear hx139_0
           try clear hx139_1
           try clear hx140_0
           try clear hx140_1
           try clear hx141_0
           try clear hx141_1
           try clear hx142_0
           try clear hx142_1
           try clear hx143_0
           try clear hx143_1
           try clear hx144_0
           try clear hx144_1
           try clear p1
           try clear p13
           try clear p137
           try clear p138
           try clear p139
           try clear p14
           try clear p140
           try clear p141
           try clear p142
           try clear p143
           try clear p144
           try clear p2
           try clear p6
           try clear q1
           try clear q13
           try clear q137
           try clear q138
           try clear q139
           try clear q14
           try clear q140
           try clear q141
           try clear q142
           try clear q143
           try clear q144
           obtain ⟨kq, x75_15, rfl, HA, HJ15, ⟨mc15, rfl⟩⟩ := hcut
           cases kq with
           | zero => exact absurd HA.out (by simp [spec_TermOk.j3])
           | succ kj15 =>
            have H := HA.out
            clear HA
            simp only [spec_TermOk.j3] at H
            by_cases c20 : x75_15 = true
            ·subst c20
             have H1 : (spec_TermOk.l0 kj15 a0 l1 x5_1 (wrap64 (x6_1 + 1))) = some r := by rw [if_pos rfl] at H; exact H
             clear H
             have H := H1
             clear H1
             have H' := Aside0.mk H
             clear H
             go_wp2
             go_roundg kj15
             case measure => have := HK1.out; have := HJ3.out; have := HJ8.out; have := HJ15.out; omega
             case rel => exact ⟨(x5_1), (wrap64 (x6_1 + 1)), (by first | rfl | (simp; done) | (simp [*]; done)), (by first | rfl | (simp; done) | (simp [*]; done)), H', ⟨by have := HK1.out; have := HJ3.out; have := HJ8.out; have := HJ15.out; omega⟩, by repeat (first | exact Drawn0.refl _ | apply Drawn0.step)⟩
            ·replace c20 := Bool.eq_false_iff.mpr c20
             subst c20
             have H1 : (if 0 ≤ x6_1 then (if x6_1 < (l1.length : Int) then ((spec_l1In.f ((rd_T41 l1 x6_1).f0) 3 5).bind fun t146 => (if t146 = true then (if ((rd_T41 l1 x6_1).f1) = 0 then (if x5_1 ≥ 2 then (spec_TermOk.l0 kj15 a0 l1 (wrap64 (x5_1 - 1)) (wrap64 (x6_1 + 1))) else (some false)) else (some false)) else (some false))) else (none)) else (none)) = some r := by rw [if_neg (show ¬ (false = true) by decide)] at H; exact H
             clear H
             have H := H1
             clear H1
             by_cases c21 : 0 ≤ x6_1
             ·rw [if_pos c21] at H
              have c21b0 : decide (0 ≤ x6_1) = true := decide_eq_true c21
              clear c21
              by_cases c22 : x6_1 < (l1.length : Int)
              ·rw [if_pos c22] at H
               have c22b0 : decide (x6_1 < (l1.length : Int)) = true := decide_eq_true c22
               clear c22
               replace H := Option.bind_eq_some_iff.mp H
               obtain ⟨t146, A230, H⟩ := H
               replace H : (if t146 = true then (if ((rd_T41 l1 x6_1).f1) = 0 then (if x5_1 ≥ 2 then (spec_TermOk.l0 kj15 a0 l1 (wrap64 (x5_1 - 1)) (wrap64 (x6_1 + 1))) else (some false)) else (some false)) else (some false)) = some r := H
               have A23 := Aside0.mk A230
               clear A230
               by_cases c24 : t146 = true
               ·subst c24
                have H1 : (if ((rd_T41 l1 x6_1).f1) = 0 then (if x5_1 ≥ 2 then (spec_TermOk.l0 kj15 a0 l1 (wrap64 (x5_1 - 1)) (wrap64 (x6_1 + 1))) else (some false)) else (some false)) = some r := by rw [if_pos rfl] at H; exact H
                clear H
                have H := H1
                clear H1
                by_cases c25 : ((rd_T41 l1 x6_1).f1) = 0
                ·rw [if_pos c25] at H
                 have c25b0 : (((rd_T41 l1 x6_1).f1) == 0) = true := beq_iff_eq.mpr c25
                 have c25b1 : (((rd_T41 l1 x6_1).f1) != 0) = false := bne_eq_false_iff_eq.mpr c25
                 clear c25
                 by_cases c26 : x5_1 ≥ 2
                 ·rw [if_pos c26] at H
                  have c26b0 : decide (2 ≤ x5_1) = true := decide_eq_true c26
                  clear c26
                  have H' := Aside0.mk H
                  clear H
                  have p145 : 0 ≤ (x6_1 : Int) := of_decide_eq_true (by first | (with_reducible assumption) | assumption)
                  have q145 : x6_1 < (l1.length : Int) := of_decide_eq_true (by first | (with_reducible assumption) | assumption)
                  obtain ⟨ad145, e145, hx145_0, hx145_1⟩ := at_T41 HR1.out x6_1 p145 q145
                  cases e145
                  replace p145 := eq_true p145
                  replace q145 := eq_true q145
                  go_wp2_with (first | ((with_reducible refine gate_callee (f := 63) rfl ?_); refine goesL_ (some 92) rfl rfl Try.func63 (by kernel_rfl) rfl #[.int .i64 ((rd_T41 l1 x6_1).f0), .int .i64 3, .int .i64 5] rfl (by (try simp only [List.map_toArray, List.map_cons, List.map_nil]); first | done | rfl | (simp only [List.length_drop, List.length_take]; rfl)) ?_; (with_reducible refine (spec_l1In.calls ((rd_T41 l1 x6_1).f0) 3 5 true _ A23.out).mono ?_); rintro e w' ⟨rfl, ⟨nd, rfl⟩⟩; refine ⟨_, rfl, ?_⟩; have p147 : 0 ≤ (x6_1 : Int) := of_decide_eq_true (by first | (with_reducible assumption) | assumption); have q147 : x6_1 < (l1.length : Int) := of_decide_eq_true (by first | (with_reducible assumption) | assumption); obtain ⟨ad147, e147, hx147_0, hx147_1⟩ := at_T41 HR1.out x6_1 p147 q147; obtain rfl : ad145 = ad147 := (by injection e147); replace p147 := eq_true p147; replace q147 := eq_true q147))
                  go_roundg kj15
                  case measure => have := HK1.out; have := HJ3.out; have := HJ8.out; have := HJ15.out; omega
                  case rel => exact ⟨(wrap64 (x5_1 - 1)), (wrap64 (x6_1 + 1)), (by first | rfl | (simp; done) | (simp [*]; done)), (by first | rfl | (simp; done) | (simp [*]; done)), H', ⟨by have := HK1.out; have := HJ3.out; have := HJ8.out; have := HJ15.out; omega⟩, by repeat (first | exact Drawn0.refl _ | apply Drawn0.step)⟩
                 ·rw [if_neg c26] at H
                  have c26b0 : decide (2 ≤ x5_1) = false := decide_eq_false c26
                  clear c26
                  obtain rfl := Option.some.inj H
                  have p145 : 0 ≤ (x6_1 : Int) := of_decide_eq_true (by first | (with_reducible assumption) | assumption)
                  have q145 : x6_1 < (l1.length : Int) := of_decide_eq_true (by first | (with_reducible assumption) | assumption)
                  obtain ⟨ad145, e145, hx145_0, hx145_1⟩ := at_T41 HR1.out x6_1 p145 q145
                  cases e145
                  replace p145 := eq_true p145
                  replace q145 := eq_true q145
                  go_wp2_with (first | ((with_reducible refine gate_callee (f := 63) rfl ?_); refine goesL_ (some 92) rfl rfl Try.func63 (by kernel_rfl) rfl #[.int .i64 ((rd_T41 l1 x6_1).f0), .int .i64 3, .int .i64 5] rfl (by (try simp only [List.map_toArray, List.map_cons, List.map_nil]); first | done | rfl | (simp only [List.length_drop, List.length_take]; rfl)) ?_; (with_reducible refine (spec_l1In.calls ((rd_T41 l1 x6_1).f0) 3 5 true _ A23.out).mono ?_); rintro e w' ⟨rfl, ⟨nd, rfl⟩⟩; refine ⟨_, rfl, ?_⟩; have p147 : 0 ≤ (x6_1 : Int) := of_decide_eq_true (by first | (with_reducible assumption) | assumption); have q147 : x6_1 < (l1.length : Int) := of_decide_eq_true (by first | (with_reducible assumption) | assumption); obtain ⟨ad147, e147, hx147_0, hx147_1⟩ := at_T41 HR1.out x6_1 p147 q147; obtain rfl : ad145 = ad147 := (by injection e147); replace p147 := eq_true p147; replace q147 := eq_true q147))
                  go_ret
                  exact ⟨by first | rfl | (simp; done) | (simp [*]; done), by repeat (first | exact Drawn0.refl _ | apply Drawn0.step)⟩
                ·rw [if_neg c25] at H
                 have c25b0 : (((rd_T41 l1 x6_1).f1) == 0) = false := beq_eq_false_iff_ne.mpr c25
                 have c25b1 : (((rd_T41 l1 x6_1).f1) != 0) = true := bne_iff_ne.mpr c25
                 obtain rfl := Option.some.inj H
                 have p145 : 0 ≤ (x6_1 : Int) := of_decide_eq_true (by first | (with_reducible assumption) | assumption)
                 have q145 : x6_1 < (l1.length : Int) := of_decide_eq_true (by first | (with_reducible assumption) | assumption)
                 obtain ⟨ad145, e145, hx145_0, hx145_1⟩ := at_T41 HR1.out x6_1 p145 q145
                 cases e145
                 replace p145 := eq_true p145
                 replace q145 := eq_true q145
                 go_wp2_with (first | ((with_reducible refine gate_callee (f := 63) rfl ?_); refine goesL_ (some 92) rfl rfl Try.func63 (by kernel_rfl) rfl #[.int .i64 ((rd_T41 l1 x6_1).f0), .int .i64 3, .int .i64 5] rfl (by (try simp only [List.map_toArray, List.map_cons, List.map_nil]); first | done | rfl | (simp only [List.length_drop, List.length_take]; rfl)) ?_; (with_reducible refine (spec_l1In.calls ((rd_T41 l1 x6_1).f0) 3 5 true _ A23.out).mono ?_); rintro e w' ⟨rfl, ⟨nd, rfl⟩⟩; refine ⟨_, rfl, ?_⟩; have p147 : 0 ≤ (x6_1 : Int) := of_decide_eq_true (by first | (with_reducible assumption) | assumption); have q147 : x6_1 < (l1.length : Int) := of_decide_eq_true (by first | (with_reducible assumption) | assumption); obtain ⟨ad147, e147, hx147_0, hx147_1⟩ := at_T41 HR1.out x6_1 p147 q147; obtain rfl : ad145 = ad147 := (by injection e147); replace p147 := eq_true p147; replace q147 := eq_true q147))
                 go_ret
                 exact ⟨by first | rfl | (simp; done) | (simp [*]; done), by repeat (first | exact Drawn0.refl _ | apply Drawn0.step)⟩
               ·replace c24 := Bool.eq_false_iff.mpr c24
                subst c24
                have H1 : (some false) = some r := by rw [if_neg (show ¬ (false = true) by decide)] at H; exact H
                clear H
                have H := H1
                clear H1
                obtain rfl := Option.some.inj H
                have p145 : 0 ≤ (x6_1 : Int) := of_decide_eq_true (by first | (with_reducible assumption) | assumption)
                have q145 : x6_1 < (l1.length : Int) := of_decide_eq_true (by first | (with_reducible assumption) | assumption)
                obtain ⟨ad145, e145, hx145_0, hx145_1⟩ := at_T41 HR1.out x6_1 p145 q145
                cases e145
                replace p145 := eq_true p145
                replace q145 := eq_true q145
                go_wp2_with (first | ((with_reducible refine gate_callee (f := 63) rfl ?_); refine goesL_ (some 92) rfl rfl Try.func63 (by kernel_rfl) rfl #[.int .i64 ((rd_T41 l1 x6_1).f0), .int .i64 3, .int .i64 5] rfl (by (try simp only [List.map_toArray, List.map_cons, List.map_nil]); first | done | rfl | (simp only [List.length_drop, List.length_take]; rfl)) ?_; (with_reducible refine (spec_l1In.calls ((rd_T41 l1 x6_1).f0) 3 5 false _ A23.out).mono ?_); rintro e w' ⟨rfl, ⟨nd, rfl⟩⟩; refine ⟨_, rfl, ?_⟩))
                go_ret
                exact ⟨by first | rfl | (simp; done) | (simp [*]; done), by repeat (first | exact Drawn0.refl _ | apply Drawn0.step)⟩
              ·rw [if_neg c22] at H
               exact absurd H (by simp)
             ·rw [if_neg c21] at H
              exact absurd H (by simp)
   ·rw [if_neg c3] at H
    have c3b0 : decide (x6_1 < (l1.length : Int)) = false := decide_eq_false c3
    clear c3
    replace H := Option.bind_eq_some_iff.mp H
    obtain ⟨t136, A270, H⟩ := H
    replace H : (if t136 = true then (if x5_1 = 1 then (some (decide ((l1.length : Int) ≤ 15))) else (some false)) else (some false)) = some r := H
    have A27 := Aside0.mk A270
    clear A270
    by_cases c28 : t136 = true
    ·subst c28
     have H1 : (if x5_1 = 1 then (some (decide ((l1.length : Int) ≤ 15))) else (some false)) = some r := by rw [if_pos rfl] at H; exact H
     clear H
     have H := H1
     clear H1
     by_cases c29 : x5_1 = 1
     ·rw [if_pos c29] at H
      have c29b0 : (x5_1 == 1) = true := beq_iff_eq.mpr c29
      have c29b1 : (x5_1 != 1) = false := bne_eq_false_iff_eq.mpr c29
      clear c29
      obtain rfl := Option.some.inj H
      go_wp2_with (first | ((with_reducible refine gate_callee (f := 63) rfl ?_); refine goesL_ (some 108) rfl rfl Try.func63 (by kernel_rfl) rfl #[.int .i64 a0, .int .i64 1, .int .i64 4] rfl (by (try simp only [List.map_toArray, List.map_cons, List.map_nil]); first | done | rfl | (simp only [List.length_drop, List.length_take]; rfl)) ?_; (with_reducible refine (spec_l1In.calls a0 1 4 true _ A27.out).mono ?_); rintro e w' ⟨rfl, ⟨nd, rfl⟩⟩; refine ⟨_, rfl, ?_⟩))
      go_ret
      exact ⟨by first | rfl | (simp; done) | (simp [*]; done), by repeat (first | exact Drawn0.refl _ | apply Drawn0.step)⟩
     ·rw [if_neg c29] at H
      have c29b0 : (x5_1 == 1) = false := beq_eq_false_iff_ne.mpr c29
      have c29b1 : (x5_1 != 1) = true := bne_iff_ne.mpr c29
      obtain rfl := Option.some.inj H
      go_wp2_with (first | ((with_reducible refine gate_callee (f := 63) rfl ?_); refine goesL_ (some 108) rfl rfl Try.func63 (by kernel_rfl) rfl #[.int .i64 a0, .int .i64 1, .int .i64 4] rfl (by (try simp only [List.map_toArray, List.map_cons, List.map_nil]); first | done | rfl | (simp only [List.length_drop, List.length_take]; rfl)) ?_; (with_reducible refine (spec_l1In.calls a0 1 4 true _ A27.out).mono ?_); rintro e w' ⟨rfl, ⟨nd, rfl⟩⟩; refine ⟨_, rfl, ?_⟩))
      go_ret
      exact ⟨by first | rfl | (simp; done) | (simp [*]; done), by repeat (first | exact Drawn0.refl _ | apply Drawn0.step)⟩
    ·replace c28 := Bool.eq_false_iff.mpr c28
     subst c28
     have H1 : (some false) = some r := by rw [if_neg (show ¬ (false = true) by decide)] at H; exact H
     clear H
     have H := H1
     clear H1
     obtain rfl := Option.some.inj H
     go_wp2_with (first | ((with_reducible refine gate_callee (f := 63) rfl ?_); refine goesL_ (some 108) rfl rfl Try.func63 (by kernel_rfl) rfl #[.int .i64 a0, .int .i64 1, .int .i64 4] rfl (by (try simp only [List.map_toArray, List.map_cons, List.map_nil]); first | done | rfl | (simp only [List.length_drop, List.length_take]; rfl)) ?_; (with_reducible refine (spec_l1In.calls a0 1 4 false _ A27.out).mono ?_); rintro e w' ⟨rfl, ⟨nd, rfl⟩⟩; refine ⟨_, rfl, ?_⟩))
     go_ret
     exact ⟨by first | rfl | (simp; done) | (simp [*]; done), by repeat (first | exact Drawn0.refl _ | apply Drawn0.step)⟩

end Go.Proofs.Ytigkmppgbaoafaa.PFnAlwaysOk
