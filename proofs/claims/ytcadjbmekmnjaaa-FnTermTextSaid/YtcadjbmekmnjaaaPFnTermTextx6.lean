-- Made by a program of this session (wip/tools/patchprint.py), not by the kit itself.
import Derived.Test.YtcadjbmekmnjaaaPFnTermTextx0
import Derived.Test.YtcadjbmekmnjaaaPFnTermTextx1
import Derived.Test.YtcadjbmekmnjaaaPFnTermTextx4
import Derived.Test.YtcadjbmekmnjaaaPFnTermTextx5
namespace Go.Proofs.Ytcadjbmekmnjaaa.PFnTermText
open Go.RowKit Go.Proofs.YtcadjbmekmnjaaaW.PrintWords Go.Proofs.YtcadjbmekmnjaaaW.PrintLast Go.Proofs.YtcadjbmekmnjaaaW.PrintMore
attribute [local go_sem] max2_int min2_int max_two min_two max_three min_three max_four min_four   -- for this text's walks alone
set_option linter.unusedVariables false
set_option linter.unusedSimpArgs false

attribute [local go_sem] setCell_isSome
attribute [local go_sem high] eqA39
/-! ### impl_TermText: function 5 -/
def impl_TermText.f (k : Nat) (a0 : Int) (l1 : List (S39)) : Option (ByteArray) := (impl_TermOk.f k a0 l1).bind fun t311 => (if t311 = true then ((impl_textOf.f k l1).bind fun t312 => (some t312)) else (some (⟨#[]⟩ : ByteArray)))
theorem impl_TermText.mono : ∀ a0 a1 k, LeO (impl_TermText.f k a0 a1) (impl_TermText.f (k + 1) a0 a1) := by
 intro a0 a1 k
 unfold impl_TermText.f
 repeat' first
   | (with_reducible exact impl_TermOk.mono _ _ _)
   | (with_reducible exact impl_textOf.mono _ _)
   | (with_reducible exact LeO.refl _)
   | (with_reducible exact LeO.none _)
   | (with_reducible refine LeO.ite ?_ ?_)
   | (with_reducible refine LeO.bind ?_ (fun _ => ?_))
   | exact impl_TermOk.mono _ _ _
   | exact impl_textOf.mono _ _
   | exact LeO.none _
   | refine LeO.ite ?_ ?_
   | refine LeO.bind ?_ (fun _ => ?_)
set_option maxHeartbeats 8000000 in
set_option maxRecDepth 100000 in
theorem impl_TermText.calls (k : Nat) (a0 : Int) (A1 : Option Addr) (c1 : Nat) (l1 : List (S39)) (r : ByteArray) (w : World) (hr1 : Kd.C k39 w A1 l1.length l1) (hc1 : l1.length ≤ c1) (h : impl_TermText.f k a0 l1 = some r) :
  Calls Try.prog 5 #[.int .i64 a0, .slice A1 l1.length c1] w fun e w' => e = .returned (.string r) ∧ Below w.heap.size w w' := by
 have HR1 := Aside0.mk hr1
 have HC1 := Aside0.mk hc1
 clear hr1 hc1
 have HB := Aside0.mk (Below.refl w.heap.size w)
 have H : ((impl_TermOk.f k a0 l1).bind fun t311 => (if t311 = true then ((impl_textOf.f k l1).bind fun t312 => (some t312)) else (some (⟨#[]⟩ : ByteArray)))) = some r := h
 clear h
 replace H := Option.bind_eq_some_iff.mp H
 obtain ⟨t311, A30, H⟩ := H
 replace H : (if t311 = true then ((impl_textOf.f k l1).bind fun t312 => (some t312)) else (some (⟨#[]⟩ : ByteArray))) = some r := H
 have A3 := Aside0.mk A30
 clear A30
 by_cases c4 : t311 = true
 ·subst c4
  have H1 : ((impl_textOf.f k l1).bind fun t312 => (some t312)) = some r := by rw [if_pos rfl] at H; exact H
  clear H
  have H := H1
  clear H1
  replace H := Option.bind_eq_some_iff.mp H
  obtain ⟨t312, A50, H⟩ := H
  replace H : (some t312) = some r := H
  have A5 := Aside0.mk A50
  clear A50
  obtain rfl := Option.some.inj H
  go_enter Try.func5, Try.ntmps5
  go_wp2_with (first | ((with_reducible refine gate_callee (f := 7) rfl ?_); refine goesL_ (some 7) rfl rfl Try.func7 (by kernel_rfl) rfl #[.int .i64 a0, .slice A1 l1.length c1] rfl pwi_ ?_; (with_reducible refine (impl_TermOk.calls k a0 _ _ l1 true _ ?side1 ?side2 A3.out).mono ?_); (case side1 => repeat (first | exact HR1.out | (with_reducible refine Kd.C_alloc ?_ _) | (with_reducible refine Kd.C_drewN ?_ _) | (with_reducible refine Kd.C_drew ?_))); (case side2 => exact HC1.out); rintro e w6 ⟨rfl, hb⟩; refine ⟨_, rfl, ?_⟩; have n0_ := Aside0.mk (below_step pwg_ hb); clear HB; have HB := n0_; clear n0_; (try clear hb); (try clear hb2); (try clear hk); (try clear hi)) | ((with_reducible refine gate_callee (f := 13) rfl ?_); refine goesL_ (some 10) rfl rfl Try.func13 (by kernel_rfl) rfl #[.slice A1 l1.length c1] rfl pwi_ ?_; (with_reducible refine (impl_textOf.calls k _ _ l1 t312 _ ?side1 ?side2 A5.out).mono ?_); (case side1 => repeat (first | exact (Kd.C_below HR1.out HB.out) | (with_reducible refine Kd.C_alloc ?_ _) | (with_reducible refine Kd.C_drewN ?_ _) | (with_reducible refine Kd.C_drew ?_))); (case side2 => exact HC1.out); rintro e w7 ⟨rfl, hb⟩; refine ⟨_, rfl, ?_⟩; have n0_ := Aside0.mk (below_step pwg_ hb); clear HB; have HB := n0_; clear n0_; (try clear hb); (try clear hb2); (try clear hk); (try clear hi)))
  go_ret
  exact ⟨by first | rfl | (simp [errW_none, errW_some] <;> rfl) | (simp [*, errW_none, errW_some] <;> rfl), pwg_⟩
 ·replace c4 := Bool.eq_false_iff.mpr c4
  subst c4
  have H1 : (some (⟨#[]⟩ : ByteArray)) = some r := by rw [if_neg (show ¬ (false = true) by decide)] at H; exact H
  clear H
  have H := H1
  clear H1
  obtain rfl := Option.some.inj H
  go_enter Try.func5, Try.ntmps5
  go_wp2_with (first | ((with_reducible refine gate_callee (f := 7) rfl ?_); refine goesL_ (some 7) rfl rfl Try.func7 (by kernel_rfl) rfl #[.int .i64 a0, .slice A1 l1.length c1] rfl pwi_ ?_; (with_reducible refine (impl_TermOk.calls k a0 _ _ l1 false _ ?side1 ?side2 A3.out).mono ?_); (case side1 => repeat (first | exact HR1.out | (with_reducible refine Kd.C_alloc ?_ _) | (with_reducible refine Kd.C_drewN ?_ _) | (with_reducible refine Kd.C_drew ?_))); (case side2 => exact HC1.out); rintro e w8 ⟨rfl, hb⟩; refine ⟨_, rfl, ?_⟩; have n0_ := Aside0.mk (below_step pwg_ hb); clear HB; have HB := n0_; clear n0_; (try clear hb); (try clear hb2); (try clear hk); (try clear hi)))
  go_ret
  exact ⟨by first | rfl | (simp [errW_none, errW_some] <;> rfl) | (simp [*, errW_none, errW_some] <;> rfl), pwg_⟩

/-! ### spec_l1In: function 23 -/
def spec_l1In.f (a0 : Int) (a1 : Int) (a2 : Int) : Option (Bool) := if a0 ≥ a1 then (some (decide (a0 ≤ a2))) else (some false)
set_option maxHeartbeats 8000000 in
set_option maxRecDepth 100000 in
theorem spec_l1In.calls (a0 : Int) (a1 : Int) (a2 : Int) (r : Bool) (w : World) (h : spec_l1In.f a0 a1 a2 = some r) :
  Calls Try.prog 23 #[.int .i64 a0, .int .i64 a1, .int .i64 a2] w fun e w' => e = .returned (.bool r) ∧ Drawn0 w w' := by
 have H : (if a0 ≥ a1 then (some (decide (a0 ≤ a2))) else (some false)) = some r := h
 clear h
 by_cases c4 : a0 ≥ a1
 ·rw [if_pos c4] at H
  have c4b0 : decide (a1 ≤ a0) = true := decide_eq_true c4
  clear c4
  obtain rfl := Option.some.inj H
  go_enter Try.func23, Try.ntmps23
  go_wp2
  go_ret
  exact ⟨pwa_, by repeat (first | exact Drawn0.refl _ | apply Drawn0.step)⟩
 ·rw [if_neg c4] at H
  have c4b0 : decide (a1 ≤ a0) = false := decide_eq_false c4
  clear c4
  obtain rfl := Option.some.inj H
  go_enter Try.func23, Try.ntmps23
  go_wp2
  go_ret
  exact ⟨pwa_, by repeat (first | exact Drawn0.refl _ | apply Drawn0.step)⟩

/-! ### spec_TermOk: function 14 -/
mutual
def spec_TermOk.l0 : Nat → Int → List (S39) → Int → Int → Option (Bool)
 | 0, _, _, _, _ => none
 | k + 1, x0, x1, x5, x6 => if x6 < (x1.length : Int) then (if 0 ≤ x6 then (if ((rd_T39 x1 x6).f0) = 0 then (if ((rd_T39 x1 x6).f1) ≥ 0 then (spec_TermOk.j1 k x0 x1 x5 x6 (decide (((rd_T39 x1 x6).f1) < x0))) else (spec_TermOk.j1 k x0 x1 x5 x6 false)) else (spec_TermOk.j1 k x0 x1 x5 x6 false)) else (none)) else ((spec_l1In.f x0 1 4).bind fun t313 => (if t313 = true then (if x5 = 1 then (some (decide ((x1.length : Int) ≤ 15))) else (some false)) else (some false)))
def spec_TermOk.j1 : Nat → Int → List (S39) → Int → Int → Bool → Option (Bool)
 | 0, _, _, _, _, _ => none
 | k + 1, x0, x1, x5, x6, x13 => if x13 = true then (spec_TermOk.l0 k x0 x1 (wrap64 (x5 + 1)) (wrap64 (x6 + 1))) else (if 0 ≤ x6 then (if x6 < (x1.length : Int) then (if ((rd_T39 x1 x6).f0) = 1 then (if ((rd_T39 x1 x6).f1) ≥ 0 then (if ((rd_T39 x1 x6).f1) ≤ x0 then (spec_TermOk.j2 k x0 x1 x5 x6 true) else (spec_TermOk.j2 k x0 x1 x5 x6 ((wrap64 (((rd_T39 x1 x6).f1) - 1)) == x0))) else (spec_TermOk.j2 k x0 x1 x5 x6 false)) else (spec_TermOk.j2 k x0 x1 x5 x6 false)) else (none)) else (none))
def spec_TermOk.j2 : Nat → Int → List (S39) → Int → Int → Bool → Option (Bool)
 | 0, _, _, _, _, _ => none
 | k + 1, x0, x1, x5, x6, x39 => if x39 = true then (spec_TermOk.l0 k x0 x1 (wrap64 (x5 + 1)) (wrap64 (x6 + 1))) else (if 0 ≤ x6 then (if x6 < (x1.length : Int) then (if (((rd_T39 x1 x6).f0) == 2 && (((rd_T39 x1 x6).f1) == 0)) = true then (spec_TermOk.j3 k x0 x1 x5 x6 (decide (x5 ≥ 1))) else (spec_TermOk.j3 k x0 x1 x5 x6 false)) else (none)) else (none))
def spec_TermOk.j3 : Nat → Int → List (S39) → Int → Int → Bool → Option (Bool)
 | 0, _, _, _, _, _ => none
 | k + 1, x0, x1, x5, x6, x75 => if x75 = true then (spec_TermOk.l0 k x0 x1 x5 (wrap64 (x6 + 1))) else (if 0 ≤ x6 then (if x6 < (x1.length : Int) then ((spec_l1In.f ((rd_T39 x1 x6).f0) 3 5).bind fun t323 => (if t323 = true then (if ((rd_T39 x1 x6).f1) = 0 then (if x5 ≥ 2 then (spec_TermOk.l0 k x0 x1 (wrap64 (x5 - 1)) (wrap64 (x6 + 1))) else (some false)) else (some false)) else (some false))) else (none)) else (none))
end
def spec_TermOk.f (k : Nat) (a0 : Int) (l1 : List (S39)) : Option (Bool) := spec_TermOk.l0 k a0 l1 0 0
theorem spec_TermOk.mono_l : ∀ k, (∀ y0 y1 y2 y3, LeO (spec_TermOk.l0 k y0 y1 y2 y3) (spec_TermOk.l0 (k + 1) y0 y1 y2 y3)) ∧ (∀ y0 y1 y2 y3 y4, LeO (spec_TermOk.j1 k y0 y1 y2 y3 y4) (spec_TermOk.j1 (k + 1) y0 y1 y2 y3 y4)) ∧ (∀ y0 y1 y2 y3 y4, LeO (spec_TermOk.j2 k y0 y1 y2 y3 y4) (spec_TermOk.j2 (k + 1) y0 y1 y2 y3 y4)) ∧ (∀ y0 y1 y2 y3 y4, LeO (spec_TermOk.j3 k y0 y1 y2 y3 y4) (spec_TermOk.j3 (k + 1) y0 y1 y2 y3 y4))
 | 0 => ⟨fun _ _ _ _ r h => by simp [spec_TermOk.l0] at h, fun _ _ _ _ _ r h => by simp [spec_TermOk.j1] at h, fun _ _ _ _ _ r h => by simp [spec_TermOk.j2] at h, fun _ _ _ _ _ r h => by simp [spec_TermOk.j3] at h⟩
 | k + 1 => by
  obtain ⟨ih0, ih1, ih2, ih3⟩ := spec_TermOk.mono_l k
  refine ⟨?_, ?_, ?_, ?_⟩
  ·intro y0 y1 y2 y3
   unfold spec_TermOk.l0
   repeat' first
   | (with_reducible exact ih0 _ _ _ _)
   | (with_reducible exact ih1 _ _ _ _ _)
   | (with_reducible exact ih2 _ _ _ _ _)
   | (with_reducible exact ih3 _ _ _ _ _)
   | (with_reducible exact LeO.refl _)
   | (with_reducible exact LeO.none _)
   | (with_reducible refine LeO.ite ?_ ?_)
   | (with_reducible refine LeO.bind ?_ (fun _ => ?_))
   | exact ih0 _ _ _ _
   | exact ih1 _ _ _ _ _
   | exact ih2 _ _ _ _ _
   | exact ih3 _ _ _ _ _
   | exact LeO.none _
   | refine LeO.ite ?_ ?_
   | refine LeO.bind ?_ (fun _ => ?_)
  ·intro y0 y1 y2 y3 y4
   unfold spec_TermOk.j1
   repeat' first
   | (with_reducible exact ih0 _ _ _ _)
   | (with_reducible exact ih1 _ _ _ _ _)
   | (with_reducible exact ih2 _ _ _ _ _)
   | (with_reducible exact ih3 _ _ _ _ _)
   | (with_reducible exact LeO.refl _)
   | (with_reducible exact LeO.none _)
   | (with_reducible refine LeO.ite ?_ ?_)
   | (with_reducible refine LeO.bind ?_ (fun _ => ?_))
   | exact ih0 _ _ _ _
   | exact ih1 _ _ _ _ _
   | exact ih2 _ _ _ _ _
   | exact ih3 _ _ _ _ _
   | exact LeO.none _
   | refine LeO.ite ?_ ?_
   | refine LeO.bind ?_ (fun _ => ?_)
  ·intro y0 y1 y2 y3 y4
   unfold spec_TermOk.j2
   repeat' first
   | (with_reducible exact ih0 _ _ _ _)
   | (with_reducible exact ih1 _ _ _ _ _)
   | (with_reducible exact ih2 _ _ _ _ _)
   | (with_reducible exact ih3 _ _ _ _ _)
   | (with_reducible exact LeO.refl _)
   | (with_reducible exact LeO.none _)
   | (with_reducible refine LeO.ite ?_ ?_)
   | (with_reducible refine LeO.bind ?_ (fun _ => ?_))
   | exact ih0 _ _ _ _
   | exact ih1 _ _ _ _ _
   | exact ih2 _ _ _ _ _
   | exact ih3 _ _ _ _ _
   | exact LeO.none _
   | refine LeO.ite ?_ ?_
   | refine LeO.bind ?_ (fun _ => ?_)
  ·intro y0 y1 y2 y3 y4
   unfold spec_TermOk.j3
   repeat' first
   | (with_reducible exact ih0 _ _ _ _)
   | (with_reducible exact ih1 _ _ _ _ _)
   | (with_reducible exact ih2 _ _ _ _ _)
   | (with_reducible exact ih3 _ _ _ _ _)
   | (with_reducible exact LeO.refl _)
   | (with_reducible exact LeO.none _)
   | (with_reducible refine LeO.ite ?_ ?_)
   | (with_reducible refine LeO.bind ?_ (fun _ => ?_))
   | exact ih0 _ _ _ _
   | exact ih1 _ _ _ _ _
   | exact ih2 _ _ _ _ _
   | exact ih3 _ _ _ _ _
   | exact LeO.none _
   | refine LeO.ite ?_ ?_
   | refine LeO.bind ?_ (fun _ => ?_)
theorem spec_TermOk.mono : ∀ a0 a1 k, LeO (spec_TermOk.f k a0 a1) (spec_TermOk.f (k + 1) a0 a1) := by
 intro a0 a1 k
 obtain ⟨ih0, ih1, ih2, ih3⟩ := spec_TermOk.mono_l k
 unfold spec_TermOk.f
 repeat' first
   | (with_reducible exact ih0 _ _ _ _)
   | (with_reducible exact ih1 _ _ _ _ _)
   | (with_reducible exact ih2 _ _ _ _ _)
   | (with_reducible exact ih3 _ _ _ _ _)
   | (with_reducible exact LeO.refl _)
   | (with_reducible exact LeO.none _)
   | (with_reducible refine LeO.ite ?_ ?_)
   | (with_reducible refine LeO.bind ?_ (fun _ => ?_))
   | exact ih0 _ _ _ _
   | exact ih1 _ _ _ _ _
   | exact ih2 _ _ _ _ _
   | exact ih3 _ _ _ _ _
   | exact LeO.none _
   | refine LeO.ite ?_ ?_
   | refine LeO.bind ?_ (fun _ => ?_)
set_option maxHeartbeats 8000000 in
set_option maxRecDepth 100000 in
theorem spec_TermOk.calls (k : Nat) (a0 : Int) (A1 : Option Addr) (c1 : Nat) (l1 : List (S39)) (r : Bool) (w : World) (hr1 : Kd.C k39 w A1 l1.length l1) (hc1 : l1.length ≤ c1) (h : spec_TermOk.f k a0 l1 = some r) :
  Calls Try.prog 14 #[.int .i64 a0, .slice A1 l1.length c1] w fun e w' => e = .returned (.bool r) ∧ Drawn0 w w' := by
 have hu39 := Try.underlying39
 have HR1 := Aside0.mk hr1
 have HC1 := Aside0.mk hc1
 clear hr1 hc1
 have H : (spec_TermOk.l0 k a0 l1 0 0) = some r := h
 clear h
 have H' := Aside0.mk H
 clear H
 go_enter Try.func14, Try.ntmps14
 go_wp2
 go_loopg [5, 6] k (fun kq v5 v6 w' => ∃ (x5_1 : Int) (x6_1 : Int), v5 = .int .i64 x5_1 ∧ v6 = .int .i64 x6_1 ∧ Aside0 (spec_TermOk.l0 kq a0 l1 x5_1 x6_1 = some r) ∧ Aside0 (kq ≤ k) ∧ Drawn0 w w')
 case atStart => exact ⟨(0), (0), pwa_, pwa_, H', ⟨Nat.le_refl _⟩, by repeat (first | exact Drawn0.refl _ | apply Drawn0.step)⟩
 case round =>
  clear H'
  try clear c1
  try clear p2
  obtain ⟨x5_1, x6_1, rfl, rfl, HA, HK1, ⟨m1, rfl⟩⟩ := hrel
  cases gk with
  | zero => exact absurd HA.out (by simp [spec_TermOk.l0])
  | succ k1 =>
   have H := HA.out
   clear HA
   simp only [spec_TermOk.l0] at H
   by_cases c3 : x6_1 < (l1.length : Int)
   ·rw [if_pos c3] at H
    have c3b0 : decide (x6_1 < (l1.length : Int)) = true := decide_eq_true c3
    clear c3
    have HC4 := Aside0.mk H
    clear H
    go_upto_region 6 with (fail)
    go_cut [13] (fun v13 wc => ∃ (kq : Nat) (x13_3 : Bool), v13 = .bool x13_3 ∧ Aside0 (spec_TermOk.j1 kq a0 l1 x5_1 x6_1 x13_3 = some r) ∧ Aside0 (kq ≤ k1) ∧ Drawn0 w wc)
    case first =>
     have H := HC4.out
     clear HC4
     by_cases c5 : 0 ≤ x6_1
     ·rw [if_pos c5] at H
      have c5b0 : decide (0 ≤ x6_1) = true := decide_eq_true c5
      clear c5
      (first | rw [c5b0] | (simp only [i64_w, i32_w]; rw [c5b0]) | skip)
      by_cases c6 : ((rd_T39 l1 x6_1).f0) = 0
      ·rw [if_pos c6] at H
       have c6b0 : (((rd_T39 l1 x6_1).f0) == 0) = true := beq_iff_eq.mpr c6
       have c6b1 : (((rd_T39 l1 x6_1).f0) != 0) = false := bne_eq_false_iff_eq.mpr c6
       clear c6
       by_cases c7 : ((rd_T39 l1 x6_1).f1) ≥ 0
       ·rw [if_pos c7] at H
        have c7b0 : decide (0 ≤ ((rd_T39 l1 x6_1).f1)) = true := decide_eq_true c7
        clear c7
        have H' := Aside0.mk H
        clear H
        have p314 : 0 ≤ (x6_1 : Int) := of_decide_eq_true pwb_
        have q314 : x6_1 < (l1.length : Int) := of_decide_eq_true pwb_
        obtain ⟨ad314, e314, hx314_0, hx314_1⟩ := at_T39 HR1.out x6_1 p314 q314
        cases e314
        replace p314 := eq_true p314
        replace q314 := eq_true q314
        have p315 : 0 ≤ (x6_1 : Int) := of_decide_eq_true pwb_
        have q315 : x6_1 < (l1.length : Int) := of_decide_eq_true pwb_
        obtain ⟨ad315, e315, hx315_0, hx315_1⟩ := at_T39 HR1.out x6_1 p315 q315
        obtain rfl : ad314 = ad315 := (by injection e315)
        replace p315 := eq_true p315
        replace q315 := eq_true q315
        have p316 : 0 ≤ (x6_1 : Int) := of_decide_eq_true pwb_
        have q316 : x6_1 < (l1.length : Int) := of_decide_eq_true pwb_
        obtain ⟨ad316, e316, hx316_0, hx316_1⟩ := at_T39 HR1.out x6_1 p316 q316
        obtain rfl : ad314 = ad316 := (by injection e316)
        replace p316 := eq_true p316
        replace q316 := eq_true q316
        go_wp2
        go_meet
        case rel => exact ⟨_, (decide (((rd_T39 l1 x6_1).f1) < a0)), pwa_, H', ⟨by have := HK1.out; first | omega | exact Nat.le_refl _⟩, by repeat (first | exact Drawn0.refl _ | apply Drawn0.step)⟩
       ·rw [if_neg c7] at H
        have c7b0 : decide (0 ≤ ((rd_T39 l1 x6_1).f1)) = false := decide_eq_false c7
        clear c7
        have H' := Aside0.mk H
        clear H
        have p314 : 0 ≤ (x6_1 : Int) := of_decide_eq_true pwb_
        have q314 : x6_1 < (l1.length : Int) := of_decide_eq_true pwb_
        obtain ⟨ad314, e314, hx314_0, hx314_1⟩ := at_T39 HR1.out x6_1 p314 q314
        cases e314
        replace p314 := eq_true p314
        replace q314 := eq_true q314
        have p315 : 0 ≤ (x6_1 : Int) := of_decide_eq_true pwb_
        have q315 : x6_1 < (l1.length : Int) := of_decide_eq_true pwb_
        obtain ⟨ad315, e315, hx315_0, hx315_1⟩ := at_T39 HR1.out x6_1 p315 q315
        obtain rfl : ad314 = ad315 := (by injection e315)
        replace p315 := eq_true p315
        replace q315 := eq_true q315
        go_wp2
        go_meet
        case rel => exact ⟨_, (false), pwa_, H', ⟨by have := HK1.out; first | omega | exact Nat.le_refl _⟩, by repeat (first | exact Drawn0.refl _ | apply Drawn0.step)⟩
      ·rw [if_neg c6] at H
       have c6b0 : (((rd_T39 l1 x6_1).f0) == 0) = false := beq_eq_false_iff_ne.mpr c6
       have c6b1 : (((rd_T39 l1 x6_1).f0) != 0) = true := bne_iff_ne.mpr c6
       have H' := Aside0.mk H
       clear H
       have p314 : 0 ≤ (x6_1 : Int) := of_decide_eq_true pwb_
       have q314 : x6_1 < (l1.length : Int) := of_decide_eq_true pwb_
       obtain ⟨ad314, e314, hx314_0, hx314_1⟩ := at_T39 HR1.out x6_1 p314 q314
       cases e314
       replace p314 := eq_true p314
       replace q314 := eq_true q314
       go_wp2
       go_meet
       case rel => exact ⟨_, (false), pwa_, H', ⟨by have := HK1.out; first | omega | exact Nat.le_refl _⟩, by repeat (first | exact Drawn0.refl _ | apply Drawn0.step)⟩
     ·rw [if_neg c5] at H
      exact absurd H (by simp)
    case rest =>
     clear HC4
     try clear c1
     try clear p2
     try clear c3
     try clear c3b0
     try clear p3
     try clear q3
     try clear hx3
     try clear c5
     try clear c5b0
     try clear c6
     try clear c6b0
     try clear c6b1
     try clear c7
     try clear c7b0
     try clear hx314_0
     try clear hx314_1
     try clear hx315_0
     try clear hx315_1
     try clear hx316_0
     try clear hx316_1
     try clear p2
     try clear p314
     try clear p315
     try clear p316
     try clear q314
     try clear q315
     try clear q316
     obtain ⟨kq, x13_3, rfl, HA, HJ3, ⟨mc3, rfl⟩⟩ := hcut
     cases kq with
     | zero => exact absurd HA.out (by simp [spec_TermOk.j1])
     | succ kj3 =>
      have H := HA.out
      clear HA
      simp only [spec_TermOk.j1] at H
      by_cases c8 : x13_3 = true
      ·subst c8
       have H1 : (spec_TermOk.l0 kj3 a0 l1 (wrap64 (x5_1 + 1)) (wrap64 (x6_1 + 1))) = some r := by rw [if_pos rfl] at H; exact H
       clear H
       have H := H1
       clear H1
       have H' := Aside0.mk H
       clear H
       go_wp2
       go_roundg kj3
       case measure => have := HK1.out; have := HJ3.out; omega
       case rel => exact ⟨(wrap64 (x5_1 + 1)), (wrap64 (x6_1 + 1)), pwa_, pwa_, H', ⟨by have := HK1.out; have := HJ3.out; omega⟩, by repeat (first | exact Drawn0.refl _ | apply Drawn0.step)⟩
      ·replace c8 := Bool.eq_false_iff.mpr c8
       subst c8
       have H1 : (if 0 ≤ x6_1 then (if x6_1 < (l1.length : Int) then (if ((rd_T39 l1 x6_1).f0) = 1 then (if ((rd_T39 l1 x6_1).f1) ≥ 0 then (if ((rd_T39 l1 x6_1).f1) ≤ a0 then (spec_TermOk.j2 kj3 a0 l1 x5_1 x6_1 true) else (spec_TermOk.j2 kj3 a0 l1 x5_1 x6_1 ((wrap64 (((rd_T39 l1 x6_1).f1) - 1)) == a0))) else (spec_TermOk.j2 kj3 a0 l1 x5_1 x6_1 false)) else (spec_TermOk.j2 kj3 a0 l1 x5_1 x6_1 false)) else (none)) else (none)) = some r := by rw [if_neg (show ¬ (false = true) by decide)] at H; exact H
       clear H
       have H := H1
       clear H1
       have HC9 := Aside0.mk H
       clear H
       go_upto_region 8 with (fail)
       go_cut [39] (fun v39 wc => ∃ (kq : Nat) (x39_8 : Bool), v39 = .bool x39_8 ∧ Aside0 (spec_TermOk.j2 kq a0 l1 x5_1 x6_1 x39_8 = some r) ∧ Aside0 (kq ≤ kj3) ∧ Drawn0 w wc)
       case first =>
        have H := HC9.out
        clear HC9
        by_cases c10 : 0 ≤ x6_1
        ·rw [if_pos c10] at H
         have c10b0 : decide (0 ≤ x6_1) = true := decide_eq_true c10
         clear c10
         (first | rw [c10b0] | (simp only [i64_w, i32_w]; rw [c10b0]) | skip)
         by_cases c11 : x6_1 < (l1.length : Int)
         ·rw [if_pos c11] at H
          have c11b0 : decide (x6_1 < (l1.length : Int)) = true := decide_eq_true c11
          clear c11
          by_cases c12 : ((rd_T39 l1 x6_1).f0) = 1
          ·rw [if_pos c12] at H
           have c12b0 : (((rd_T39 l1 x6_1).f0) == 1) = true := beq_iff_eq.mpr c12
           have c12b1 : (((rd_T39 l1 x6_1).f0) != 1) = false := bne_eq_false_iff_eq.mpr c12
           clear c12
           by_cases c13 : ((rd_T39 l1 x6_1).f1) ≥ 0
           ·rw [if_pos c13] at H
            have c13b0 : decide (0 ≤ ((rd_T39 l1 x6_1).f1)) = true := decide_eq_true c13
            clear c13
            by_cases c14 : ((rd_T39 l1 x6_1).f1) ≤ a0
            ·rw [if_pos c14] at H
             have c14b0 : decide (((rd_T39 l1 x6_1).f1) ≤ a0) = true := decide_eq_true c14
             clear c14
             have H' := Aside0.mk H
             clear H
             have p317 : 0 ≤ (x6_1 : Int) := of_decide_eq_true pwb_
             have q317 : x6_1 < (l1.length : Int) := of_decide_eq_true pwb_
             obtain ⟨ad317, e317, hx317_0, hx317_1⟩ := at_T39 HR1.out x6_1 p317 q317
             cases e317
             replace p317 := eq_true p317
             replace q317 := eq_true q317
             have p318 : 0 ≤ (x6_1 : Int) := of_decide_eq_true pwb_
             have q318 : x6_1 < (l1.length : Int) := of_decide_eq_true pwb_
             obtain ⟨ad318, e318, hx318_0, hx318_1⟩ := at_T39 HR1.out x6_1 p318 q318
             obtain rfl : ad317 = ad318 := (by injection e318)
             replace p318 := eq_true p318
             replace q318 := eq_true q318
             have p319 : 0 ≤ (x6_1 : Int) := of_decide_eq_true pwb_
             have q319 : x6_1 < (l1.length : Int) := of_decide_eq_true pwb_
             obtain ⟨ad319, e319, hx319_0, hx319_1⟩ := at_T39 HR1.out x6_1 p319 q319
             obtain rfl : ad317 = ad319 := (by injection e319)
             replace p319 := eq_true p319
             replace q319 := eq_true q319
             go_wp2
             go_meet
             case rel => exact ⟨_, (true), pwa_, H', ⟨by have := HK1.out; have := HJ3.out; first | omega | exact Nat.le_refl _⟩, by repeat (first | exact Drawn0.refl _ | apply Drawn0.step)⟩
            ·rw [if_neg c14] at H
             have c14b0 : decide (((rd_T39 l1 x6_1).f1) ≤ a0) = false := decide_eq_false c14
             clear c14
             have H' := Aside0.mk H
             clear H
             have p317 : 0 ≤ (x6_1 : Int) := of_decide_eq_true pwb_
             have q317 : x6_1 < (l1.length : Int) := of_decide_eq_true pwb_
             obtain ⟨ad317, e317, hx317_0, hx317_1⟩ := at_T39 HR1.out x6_1 p317 q317
             cases e317
             replace p317 := eq_true p317
             replace q317 := eq_true q317
             have p318 : 0 ≤ (x6_1 : Int) := of_decide_eq_true pwb_
             have q318 : x6_1 < (l1.length : Int) := of_decide_eq_true pwb_
             obtain ⟨ad318, e318, hx318_0, hx318_1⟩ := at_T39 HR1.out x6_1 p318 q318
             obtain rfl : ad317 = ad318 := (by injection e318)
             replace p318 := eq_true p318
             replace q318 := eq_true q318
             have p319 : 0 ≤ (x6_1 : Int) := of_decide_eq_true pwb_
             have q319 : x6_1 < (l1.length : Int) := of_decide_eq_true pwb_
             obtain ⟨ad319, e319, hx319_0, hx319_1⟩ := at_T39 HR1.out x6_1 p319 q319
             obtain rfl : ad317 = ad319 := (by injection e319)
             replace p319 := eq_true p319
             replace q319 := eq_true q319
             have p320 : 0 ≤ (x6_1 : Int) := of_decide_eq_true pwb_
             have q320 : x6_1 < (l1.length : Int) := of_decide_eq_true pwb_
             obtain ⟨ad320, e320, hx320_0, hx320_1⟩ := at_T39 HR1.out x6_1 p320 q320
             obtain rfl : ad317 = ad320 := (by injection e320)
             replace p320 := eq_true p320
             replace q320 := eq_true q320
             go_wp2
             go_meet
             case rel => exact ⟨_, (((wrap64 (((rd_T39 l1 x6_1).f1) - 1)) == a0)), pwa_, H', ⟨by have := HK1.out; have := HJ3.out; first | omega | exact Nat.le_refl _⟩, by repeat (first | exact Drawn0.refl _ | apply Drawn0.step)⟩
           ·rw [if_neg c13] at H
            have c13b0 : decide (0 ≤ ((rd_T39 l1 x6_1).f1)) = false := decide_eq_false c13
            clear c13
            have H' := Aside0.mk H
            clear H
            have p317 : 0 ≤ (x6_1 : Int) := of_decide_eq_true pwb_
            have q317 : x6_1 < (l1.length : Int) := of_decide_eq_true pwb_
            obtain ⟨ad317, e317, hx317_0, hx317_1⟩ := at_T39 HR1.out x6_1 p317 q317
            cases e317
            replace p317 := eq_true p317
            replace q317 := eq_true q317
            have p318 : 0 ≤ (x6_1 : Int) := of_decide_eq_true pwb_
            have q318 : x6_1 < (l1.length : Int) := of_decide_eq_true pwb_
            obtain ⟨ad318, e318, hx318_0, hx318_1⟩ := at_T39 HR1.out x6_1 p318 q318
            obtain rfl : ad317 = ad318 := (by injection e318)
            replace p318 := eq_true p318
            replace q318 := eq_true q318
            go_wp2
            go_meet
            case rel => exact ⟨_, (false), pwa_, H', ⟨by have := HK1.out; have := HJ3.out; first | omega | exact Nat.le_refl _⟩, by repeat (first | exact Drawn0.refl _ | apply Drawn0.step)⟩
          ·rw [if_neg c12] at H
           have c12b0 : (((rd_T39 l1 x6_1).f0) == 1) = false := beq_eq_false_iff_ne.mpr c12
           have c12b1 : (((rd_T39 l1 x6_1).f0) != 1) = true := bne_iff_ne.mpr c12
           have H' := Aside0.mk H
           clear H
           have p317 : 0 ≤ (x6_1 : Int) := of_decide_eq_true pwb_
           have q317 : x6_1 < (l1.length : Int) := of_decide_eq_true pwb_
           obtain ⟨ad317, e317, hx317_0, hx317_1⟩ := at_T39 HR1.out x6_1 p317 q317
           cases e317
           replace p317 := eq_true p317
           replace q317 := eq_true q317
           go_wp2
           go_meet
           case rel => exact ⟨_, (false), pwa_, H', ⟨by have := HK1.out; have := HJ3.out; first | omega | exact Nat.le_refl _⟩, by repeat (first | exact Drawn0.refl _ | apply Drawn0.step)⟩
         ·rw [if_neg c11] at H
          exact absurd H (by simp)
        ·rw [if_neg c10] at H
         exact absurd H (by simp)
       case rest =>
        clear HC9
        try clear c1
        try clear p2
        try clear c3
        try clear c3b0
        try clear p3
        try clear q3
        try clear hx3
        try clear c5
        try clear c5b0
        try clear c6
        try clear c6b0
        try clear c6b1
        try clear p6
        try clear c7
        try clear c7b0
        try clear c8
        try clear c10
        try clear c10b0
        try clear c11
        try clear c11b0
        try clear c12
        try clear c12b0
        try clear c12b1
        try clear c13
        try clear c13b0
        try clear c14
        try clear c14b0
        try clear hx314_0
        try clear hx314_1
        try clear hx315_0
        try clear hx315_1
        try clear hx316_0
        try clear hx316_1
        try clear hx317_0
        try clear hx317_1
        try clear hx318_0
        try clear hx318_1
        try clear hx319_0
        try clear hx319_1
        try clear hx320_0
        try clear hx320_1
        try clear p2
        try clear p3
        try clear p314
        try clear p315
        try clear p316
        try clear p317
        try clear p318
        try clear p319
        try clear p320
        try clear q3
        try clear q314
        try clear q315
        try clear q316
        try clear q317
        try clear q318
        try clear q319
        try clear q320
        obtain ⟨kq, x39_8, rfl, HA, HJ8, ⟨mc8, rfl⟩⟩ := hcut
        cases kq with
        | zero => exact absurd HA.out (by simp [spec_TermOk.j2])
        | succ kj8 =>
         have H := HA.out
         clear HA
         simp only [spec_TermOk.j2] at H
         by_cases c15 : x39_8 = true
         ·subst c15
          have H1 : (spec_TermOk.l0 kj8 a0 l1 (wrap64 (x5_1 + 1)) (wrap64 (x6_1 + 1))) = some r := by rw [if_pos rfl] at H; exact H
          clear H
          have H := H1
          clear H1
          have H' := Aside0.mk H
          clear H
          go_wp2
          go_roundg kj8
          case measure => have := HK1.out; have := HJ3.out; have := HJ8.out; omega
          case rel => exact ⟨(wrap64 (x5_1 + 1)), (wrap64 (x6_1 + 1)), pwa_, pwa_, H', ⟨by have := HK1.out; have := HJ3.out; have := HJ8.out; omega⟩, by repeat (first | exact Drawn0.refl _ | apply Drawn0.step)⟩
         ·replace c15 := Bool.eq_false_iff.mpr c15
          subst c15
          have H1 : (if 0 ≤ x6_1 then (if x6_1 < (l1.length : Int) then (if (((rd_T39 l1 x6_1).f0) == 2 && (((rd_T39 l1 x6_1).f1) == 0)) = true then (spec_TermOk.j3 kj8 a0 l1 x5_1 x6_1 (decide (x5_1 ≥ 1))) else (spec_TermOk.j3 kj8 a0 l1 x5_1 x6_1 false)) else (none)) else (none)) = some r := by rw [if_neg (show ¬ (false = true) by decide)] at H; exact H
          clear H
          have H := H1
          clear H1
          have HC16 := Aside0.mk H
          clear H
          go_upto_region 10 with (fail)
          go_cut [75] (fun v75 wc => ∃ (kq : Nat) (x75_15 : Bool), v75 = .bool x75_15 ∧ Aside0 (spec_TermOk.j3 kq a0 l1 x5_1 x6_1 x75_15 = some r) ∧ Aside0 (kq ≤ kj8) ∧ Drawn0 w wc)
          case first =>
           have H := HC16.out
           clear HC16
           by_cases c17 : 0 ≤ x6_1
           ·rw [if_pos c17] at H
            have c17b0 : decide (0 ≤ x6_1) = true := decide_eq_true c17
            clear c17
            (first | rw [c17b0] | (simp only [i64_w, i32_w]; rw [c17b0]) | skip)
            by_cases c18 : x6_1 < (l1.length : Int)
            ·rw [if_pos c18] at H
             have c18b0 : decide (x6_1 < (l1.length : Int)) = true := decide_eq_true c18
             clear c18
             by_cases c19 : (((rd_T39 l1 x6_1).f0) == 2 && (((rd_T39 l1 x6_1).f1) == 0)) = true
             ·rw [if_pos c19] at H
              have c19b0 : (((rd_T39 l1 x6_1).f0) == 2 && (((rd_T39 l1 x6_1).f1) == 0)) = true := c19
              (try (have c19b1 : decide (((rd_T39 l1 x6_1).f0) = 2 && (((rd_T39 l1 x6_1).f1) == 0)) = true := by simpa using c19))
              (try (have c19b2 : (((rd_T39 l1 x6_1).f0) == 2 && (((rd_T39 l1 x6_1).f1) == 0)) = true := by simpa using c19))
              clear c19
              have H' := Aside0.mk H
              clear H
              have p321 : 0 ≤ (x6_1 : Int) := of_decide_eq_true pwb_
              have q321 : x6_1 < (l1.length : Int) := of_decide_eq_true pwb_
              obtain ⟨ad321, e321, hx321_0, hx321_1⟩ := at_T39 HR1.out x6_1 p321 q321
              cases e321
              replace p321 := eq_true p321
              replace q321 := eq_true q321
              go_wp2
              go_meet
              case rel => exact ⟨_, (decide (x5_1 ≥ 1)), pwa_, H', ⟨by have := HK1.out; have := HJ3.out; have := HJ8.out; first | omega | exact Nat.le_refl _⟩, by repeat (first | exact Drawn0.refl _ | apply Drawn0.step)⟩
             ·rw [if_neg c19] at H
              have c19b0 : (((rd_T39 l1 x6_1).f0) == 2 && (((rd_T39 l1 x6_1).f1) == 0)) = false := by simpa using c19
              (try (have c19b1 : decide (((rd_T39 l1 x6_1).f0) = 2 && (((rd_T39 l1 x6_1).f1) == 0)) = false := by simpa using c19))
              (try (have c19b2 : (((rd_T39 l1 x6_1).f0) == 2 && (((rd_T39 l1 x6_1).f1) == 0)) = false := by simpa using c19))
              (try (have c19b3 : ¬ (((rd_T39 l1 x6_1).f0) = 2 && (((rd_T39 l1 x6_1).f1) == 0)) := by simpa using c19))
              clear c19
              have H' := Aside0.mk H
              clear H
              have p321 : 0 ≤ (x6_1 : Int) := of_decide_eq_true pwb_
              have q321 : x6_1 < (l1.length : Int) := of_decide_eq_true pwb_
              obtain ⟨ad321, e321, hx321_0, hx321_1⟩ := at_T39 HR1.out x6_1 p321 q321
              cases e321
              replace p321 := eq_true p321
              replace q321 := eq_true q321
              go_wp2
              go_meet
              case rel => exact ⟨_, (false), pwa_, H', ⟨by have := HK1.out; have := HJ3.out; have := HJ8.out; first | omega | exact Nat.le_refl _⟩, by repeat (first | exact Drawn0.refl _ | apply Drawn0.step)⟩
            ·rw [if_neg c18] at H
             exact absurd H (by simp)
           ·rw [if_neg c17] at H
            exact absurd H (by simp)
          case rest =>
           clear HC16
           try clear c1
           try clear p2
           try clear c3
           try clear c3b0
           try clear p3
           try clear q3
           try clear hx3
           try clear c5
           try clear c5b0
           try clear c6
           try clear c6b0
           try clear c6b1
           try clear p6
           try clear c7
           try clear c7b0
           try clear c8
           try clear c10
           try clear c10b0
           try clear c11
           try clear c11b0
           try clear c12
           try clear c12b0
           try clear c12b1
           try clear c13
           try clear c13b0
           try clear c14
           try clear c14b0
           try clear c15
           try clear c17
           try clear c17b0
           try clear c18
           try clear c18b0
           try clear c19
           try clear c19b0
           try clear c19b1
           try clear c19b2
           try clear hx314_0
           try clear hx314_1
           try clear hx315_0
           try clear hx315_1
           try clear hx316_0
           try clear hx316_1
           try clear hx317_0
           try clear hx317_1
           try clear hx318_0
           try clear hx318_1
           try clear hx319_0
           try clear hx319_1
           try clear hx320_0
           try clear hx320_1
           try clear hx321_0
           try clear hx321_1
           try clear p2
           try clear p3
           try clear p314
           try clear p315
           try clear p316
           try clear p317
           try clear p318
           try clear p319
           try clear p320
           try clear p321
           try clear p6
           try clear q3
           try clear q314
           try clear q315
           try clear q316
           try clear q317
           try clear q318
           try clear q319
           try clear q320
           try clear q321
           obtain ⟨kq, x75_15, rfl, HA, HJ15, ⟨mc15, rfl⟩⟩ := hcut
           cases kq with
           | zero => exact absurd HA.out (by simp [spec_TermOk.j3])
           | succ kj15 =>
            have H := HA.out
            clear HA
            simp only [spec_TermOk.j3] at H
            by_cases c20 : x75_15 = true
            ·subst c20
             have H1 : (spec_TermOk.l0 kj15 a0 l1 x5_1 (wrap64 (x6_1 + 1))) = some r := by rw [if_pos rfl] at H; exact H
             clear H
             have H := H1
             clear H1
             have H' := Aside0.mk H
             clear H
             go_wp2
             go_roundg kj15
             case measure => have := HK1.out; have := HJ3.out; have := HJ8.out; have := HJ15.out; omega
             case rel => exact ⟨(x5_1), (wrap64 (x6_1 + 1)), pwa_, pwa_, H', ⟨by have := HK1.out; have := HJ3.out; have := HJ8.out; have := HJ15.out; omega⟩, by repeat (first | exact Drawn0.refl _ | apply Drawn0.step)⟩
            ·replace c20 := Bool.eq_false_iff.mpr c20
             subst c20
             have H1 : (if 0 ≤ x6_1 then (if x6_1 < (l1.length : Int) then ((spec_l1In.f ((rd_T39 l1 x6_1).f0) 3 5).bind fun t323 => (if t323 = true then (if ((rd_T39 l1 x6_1).f1) = 0 then (if x5_1 ≥ 2 then (spec_TermOk.l0 kj15 a0 l1 (wrap64 (x5_1 - 1)) (wrap64 (x6_1 + 1))) else (some false)) else (some false)) else (some false))) else (none)) else (none)) = some r := by rw [if_neg (show ¬ (false = true) by decide)] at H; exact H
             clear H
             have H := H1
             clear H1
             by_cases c21 : 0 ≤ x6_1
             ·rw [if_pos c21] at H
              have c21b0 : decide (0 ≤ x6_1) = true := decide_eq_true c21
              clear c21
              by_cases c22 : x6_1 < (l1.length : Int)
              ·rw [if_pos c22] at H
               have c22b0 : decide (x6_1 < (l1.length : Int)) = true := decide_eq_true c22
               clear c22
               replace H := Option.bind_eq_some_iff.mp H
               obtain ⟨t323, A230, H⟩ := H
               replace H : (if t323 = true then (if ((rd_T39 l1 x6_1).f1) = 0 then (if x5_1 ≥ 2 then (spec_TermOk.l0 kj15 a0 l1 (wrap64 (x5_1 - 1)) (wrap64 (x6_1 + 1))) else (some false)) else (some false)) else (some false)) = some r := H
               have A23 := Aside0.mk A230
               clear A230
               by_cases c24 : t323 = true
               ·subst c24
                have H1 : (if ((rd_T39 l1 x6_1).f1) = 0 then (if x5_1 ≥ 2 then (spec_TermOk.l0 kj15 a0 l1 (wrap64 (x5_1 - 1)) (wrap64 (x6_1 + 1))) else (some false)) else (some false)) = some r := by rw [if_pos rfl] at H; exact H
                clear H
                have H := H1
                clear H1
                by_cases c25 : ((rd_T39 l1 x6_1).f1) = 0
                ·rw [if_pos c25] at H
                 have c25b0 : (((rd_T39 l1 x6_1).f1) == 0) = true := beq_iff_eq.mpr c25
                 have c25b1 : (((rd_T39 l1 x6_1).f1) != 0) = false := bne_eq_false_iff_eq.mpr c25
                 clear c25
                 by_cases c26 : x5_1 ≥ 2
                 ·rw [if_pos c26] at H
                  have c26b0 : decide (2 ≤ x5_1) = true := decide_eq_true c26
                  clear c26
                  have H' := Aside0.mk H
                  clear H
                  have p322 : 0 ≤ (x6_1 : Int) := of_decide_eq_true pwb_
                  have q322 : x6_1 < (l1.length : Int) := of_decide_eq_true pwb_
                  obtain ⟨ad322, e322, hx322_0, hx322_1⟩ := at_T39 HR1.out x6_1 p322 q322
                  cases e322
                  replace p322 := eq_true p322
                  replace q322 := eq_true q322
                  go_wp2_with (first | ((with_reducible refine gate_callee (f := 23) rfl ?_); refine goesL_ (some 92) rfl rfl Try.func23 (by kernel_rfl) rfl #[.int .i64 ((rd_T39 l1 x6_1).f0), .int .i64 3, .int .i64 5] rfl pwi_ ?_; (with_reducible refine (spec_l1In.calls ((rd_T39 l1 x6_1).f0) 3 5 true _ A23.out).mono ?_); rintro e w' ⟨rfl, ⟨nd, rfl⟩⟩; refine ⟨_, rfl, ?_⟩; have p324 : 0 ≤ (x6_1 : Int) := of_decide_eq_true pwb_; have q324 : x6_1 < (l1.length : Int) := of_decide_eq_true pwb_; obtain ⟨ad324, e324, hx324_0, hx324_1⟩ := at_T39 HR1.out x6_1 p324 q324; obtain rfl : ad322 = ad324 := (by injection e324); replace p324 := eq_true p324; replace q324 := eq_true q324))
                  go_roundg kj15
                  case measure => have := HK1.out; have := HJ3.out; have := HJ8.out; have := HJ15.out; omega
                  case rel => exact ⟨(wrap64 (x5_1 - 1)), (wrap64 (x6_1 + 1)), pwa_, pwa_, H', ⟨by have := HK1.out; have := HJ3.out; have := HJ8.out; have := HJ15.out; omega⟩, by repeat (first | exact Drawn0.refl _ | apply Drawn0.step)⟩
                 ·rw [if_neg c26] at H
                  have c26b0 : decide (2 ≤ x5_1) = false := decide_eq_false c26
                  clear c26
                  obtain rfl := Option.some.inj H
                  have p322 : 0 ≤ (x6_1 : Int) := of_decide_eq_true pwb_
                  have q322 : x6_1 < (l1.length : Int) := of_decide_eq_true pwb_
                  obtain ⟨ad322, e322, hx322_0, hx322_1⟩ := at_T39 HR1.out x6_1 p322 q322
                  cases e322
                  replace p322 := eq_true p322
                  replace q322 := eq_true q322
                  go_wp2_with (first | ((with_reducible refine gate_callee (f := 23) rfl ?_); refine goesL_ (some 92) rfl rfl Try.func23 (by kernel_rfl) rfl #[.int .i64 ((rd_T39 l1 x6_1).f0), .int .i64 3, .int .i64 5] rfl pwi_ ?_; (with_reducible refine (spec_l1In.calls ((rd_T39 l1 x6_1).f0) 3 5 true _ A23.out).mono ?_); rintro e w' ⟨rfl, ⟨nd, rfl⟩⟩; refine ⟨_, rfl, ?_⟩; have p324 : 0 ≤ (x6_1 : Int) := of_decide_eq_true pwb_; have q324 : x6_1 < (l1.length : Int) := of_decide_eq_true pwb_; obtain ⟨ad324, e324, hx324_0, hx324_1⟩ := at_T39 HR1.out x6_1 p324 q324; obtain rfl : ad322 = ad324 := (by injection e324); replace p324 := eq_true p324; replace q324 := eq_true q324))
                  go_ret
                  exact ⟨pwa_, by repeat (first | exact Drawn0.refl _ | apply Drawn0.step)⟩
                ·rw [if_neg c25] at H
                 have c25b0 : (((rd_T39 l1 x6_1).f1) == 0) = false := beq_eq_false_iff_ne.mpr c25
                 have c25b1 : (((rd_T39 l1 x6_1).f1) != 0) = true := bne_iff_ne.mpr c25
                 obtain rfl := Option.some.inj H
                 have p322 : 0 ≤ (x6_1 : Int) := of_decide_eq_true pwb_
                 have q322 : x6_1 < (l1.length : Int) := of_decide_eq_true pwb_
                 obtain ⟨ad322, e322, hx322_0, hx322_1⟩ := at_T39 HR1.out x6_1 p322 q322
                 cases e322
                 replace p322 := eq_true p322
                 replace q322 := eq_true q322
                 go_wp2_with (first | ((with_reducible refine gate_callee (f := 23) rfl ?_); refine goesL_ (some 92) rfl rfl Try.func23 (by kernel_rfl) rfl #[.int .i64 ((rd_T39 l1 x6_1).f0), .int .i64 3, .int .i64 5] rfl pwi_ ?_; (with_reducible refine (spec_l1In.calls ((rd_T39 l1 x6_1).f0) 3 5 true _ A23.out).mono ?_); rintro e w' ⟨rfl, ⟨nd, rfl⟩⟩; refine ⟨_, rfl, ?_⟩; have p324 : 0 ≤ (x6_1 : Int) := of_decide_eq_true pwb_; have q324 : x6_1 < (l1.length : Int) := of_decide_eq_true pwb_; obtain ⟨ad324, e324, hx324_0, hx324_1⟩ := at_T39 HR1.out x6_1 p324 q324; obtain rfl : ad322 = ad324 := (by injection e324); replace p324 := eq_true p324; replace q324 := eq_true q324))
                 go_ret
                 exact ⟨pwa_, by repeat (first | exact Drawn0.refl _ | apply Drawn0.step)⟩
               ·replace c24 := Bool.eq_false_iff.mpr c24
                subst c24
                have H1 : (some false) = some r := by rw [if_neg (show ¬ (false = true) by decide)] at H; exact H
                clear H
                have H := H1
                clear H1
                obtain rfl := Option.some.inj H
                have p322 : 0 ≤ (x6_1 : Int) := of_decide_eq_true pwb_
                have q322 : x6_1 < (l1.length : Int) := of_decide_eq_true pwb_
                obtain ⟨ad322, e322, hx322_0, hx322_1⟩ := at_T39 HR1.out x6_1 p322 q322
                cases e322
                replace p322 := eq_true p322
                replace q322 := eq_true q322
                go_wp2_with (first | ((with_reducible refine gate_callee (f := 23) rfl ?_); refine goesL_ (some 92) rfl rfl Try.func23 (by kernel_rfl) rfl #[.int .i64 ((rd_T39 l1 x6_1).f0), .int .i64 3, .int .i64 5] rfl pwi_ ?_; (with_reducible refine (spec_l1In.calls ((rd_T39 l1 x6_1).f0) 3 5 false _ A23.out).mono ?_); rintro e w' ⟨rfl, ⟨nd, rfl⟩⟩; refine ⟨_, rfl, ?_⟩))
                go_ret
                exact ⟨pwa_, by repeat (first | exact Drawn0.refl _ | apply Drawn0.step)⟩
              ·rw [if_neg c22] at H
               exact absurd H (by simp)
             ·rw [if_neg c21] at H
              exact absurd H (by simp)
   ·rw [if_neg c3] at H
    have c3b0 : decide (x6_1 < (l1.length : Int)) = false := decide_eq_false c3
    clear c3
    replace H := Option.bind_eq_some_iff.mp H
    obtain ⟨t313, A270, H⟩ := H
    replace H : (if t313 = true then (if x5_1 = 1 then (some (decide ((l1.length : Int) ≤ 15))) else (some false)) else (some false)) = some r := H
    have A27 := Aside0.mk A270
    clear A270
    by_cases c28 : t313 = true
    ·subst c28
     have H1 : (if x5_1 = 1 then (some (decide ((l1.length : Int) ≤ 15))) else (some false)) = some r := by rw [if_pos rfl] at H; exact H
     clear H
     have H := H1
     clear H1
     by_cases c29 : x5_1 = 1
     ·rw [if_pos c29] at H
      have c29b0 : (x5_1 == 1) = true := beq_iff_eq.mpr c29
      have c29b1 : (x5_1 != 1) = false := bne_eq_false_iff_eq.mpr c29
      clear c29
      obtain rfl := Option.some.inj H
      go_wp2_with (first | ((with_reducible refine gate_callee (f := 23) rfl ?_); refine goesL_ (some 108) rfl rfl Try.func23 (by kernel_rfl) rfl #[.int .i64 a0, .int .i64 1, .int .i64 4] rfl pwi_ ?_; (with_reducible refine (spec_l1In.calls a0 1 4 true _ A27.out).mono ?_); rintro e w' ⟨rfl, ⟨nd, rfl⟩⟩; refine ⟨_, rfl, ?_⟩))
      go_ret
      exact ⟨pwa_, by repeat (first | exact Drawn0.refl _ | apply Drawn0.step)⟩
     ·rw [if_neg c29] at H
      have c29b0 : (x5_1 == 1) = false := beq_eq_false_iff_ne.mpr c29
      have c29b1 : (x5_1 != 1) = true := bne_iff_ne.mpr c29
      obtain rfl := Option.some.inj H
      go_wp2_with (first | ((with_reducible refine gate_callee (f := 23) rfl ?_); refine goesL_ (some 108) rfl rfl Try.func23 (by kernel_rfl) rfl #[.int .i64 a0, .int .i64 1, .int .i64 4] rfl pwi_ ?_; (with_reducible refine (spec_l1In.calls a0 1 4 true _ A27.out).mono ?_); rintro e w' ⟨rfl, ⟨nd, rfl⟩⟩; refine ⟨_, rfl, ?_⟩))
      go_ret
      exact ⟨pwa_, by repeat (first | exact Drawn0.refl _ | apply Drawn0.step)⟩
    ·replace c28 := Bool.eq_false_iff.mpr c28
     subst c28
     have H1 : (some false) = some r := by rw [if_neg (show ¬ (false = true) by decide)] at H; exact H
     clear H
     have H := H1
     clear H1
     obtain rfl := Option.some.inj H
     go_wp2_with (first | ((with_reducible refine gate_callee (f := 23) rfl ?_); refine goesL_ (some 108) rfl rfl Try.func23 (by kernel_rfl) rfl #[.int .i64 a0, .int .i64 1, .int .i64 4] rfl pwi_ ?_; (with_reducible refine (spec_l1In.calls a0 1 4 false _ A27.out).mono ?_); rintro e w' ⟨rfl, ⟨nd, rfl⟩⟩; refine ⟨_, rfl, ?_⟩))
     go_ret
     exact ⟨pwa_, by repeat (first | exact Drawn0.refl _ | apply Drawn0.step)⟩

end Go.Proofs.Ytcadjbmekmnjaaa.PFnTermText
