-- Made by a program of this session (wip/tools/patchprint.py), not by the kit itself.
import Derived.Test.YtfhmafmfaoknlaaPFnReadTermx0
import Derived.Test.YtfhmafmfaoknlaaPFnReadTermx1
namespace Go.Proofs.Ytfhmafmfaoknlaa.PFnReadTerm
open Go.RowKit Go.Proofs.YtfhmafmfaoknlaaW.PrintWords Go.Proofs.YtfhmafmfaoknlaaW.PrintLast Go.Proofs.YtfhmafmfaoknlaaW.PrintMore
attribute [local go_sem] max2_int min2_int max_two min_two max_three min_three max_four min_four   -- for this text's walks alone
set_option linter.unusedVariables false
set_option linter.unusedSimpArgs false

attribute [local go_sem] setCell_isSome
attribute [local go_sem high] eqA62
/-! ### spec_l1In: function 73 -/
def spec_l1In.f (a0 : Int) (a1 : Int) (a2 : Int) : Option (Bool) := if a0 ≥ a1 then (some (decide (a0 ≤ a2))) else (some false)
set_option maxHeartbeats 8000000 in
set_option maxRecDepth 100000 in
theorem spec_l1In.calls (a0 : Int) (a1 : Int) (a2 : Int) (r : Bool) (w : World) (h : spec_l1In.f a0 a1 a2 = some r) :
  Calls Try.prog 73 #[.int .i64 a0, .int .i64 a1, .int .i64 a2] w fun e w' => e = .returned (.bool r) ∧ Drawn0 w w' := by
 have H : (if a0 ≥ a1 then (some (decide (a0 ≤ a2))) else (some false)) = some r := h
 clear h
 by_cases c4 : a0 ≥ a1
 ·rw [if_pos c4] at H
  have c4b0 : decide (a1 ≤ a0) = true := decide_eq_true c4
  clear c4
  obtain rfl := Option.some.inj H
  go_enter Try.func73, Try.ntmps73
  go_wp2
  go_ret
  exact ⟨pwa_, by repeat (first | exact Drawn0.refl _ | apply Drawn0.step)⟩
 ·rw [if_neg c4] at H
  have c4b0 : decide (a1 ≤ a0) = false := decide_eq_false c4
  clear c4
  obtain rfl := Option.some.inj H
  go_enter Try.func73, Try.ntmps73
  go_wp2
  go_ret
  exact ⟨pwa_, by repeat (first | exact Drawn0.refl _ | apply Drawn0.step)⟩

/-! ### spec_TermOk: function 65 -/
mutual
def spec_TermOk.l0 : Nat → Int → List (S62) → Int → Int → Option (Bool)
 | 0, _, _, _, _ => none
 | k + 1, x0, x1, x5, x6 => if x6 < (x1.length : Int) then (if 0 ≤ x6 then (if ((rd_T62 x1 x6).f0) = 0 then (if ((rd_T62 x1 x6).f1) ≥ 0 then (spec_TermOk.j1 k x0 x1 x5 x6 (decide (((rd_T62 x1 x6).f1) < x0))) else (spec_TermOk.j1 k x0 x1 x5 x6 false)) else (spec_TermOk.j1 k x0 x1 x5 x6 false)) else (none)) else ((spec_l1In.f x0 1 4).bind fun t101 => (if t101 = true then (if x5 = 1 then (some (decide ((x1.length : Int) ≤ 15))) else (some false)) else (some false)))
def spec_TermOk.j1 : Nat → Int → List (S62) → Int → Int → Bool → Option (Bool)
 | 0, _, _, _, _, _ => none
 | k + 1, x0, x1, x5, x6, x13 => if x13 = true then (spec_TermOk.l0 k x0 x1 (wrap64 (x5 + 1)) (wrap64 (x6 + 1))) else (if 0 ≤ x6 then (if x6 < (x1.length : Int) then (if ((rd_T62 x1 x6).f0) = 1 then (if ((rd_T62 x1 x6).f1) ≥ 0 then (if ((rd_T62 x1 x6).f1) ≤ x0 then (spec_TermOk.j2 k x0 x1 x5 x6 true) else (spec_TermOk.j2 k x0 x1 x5 x6 ((wrap64 (((rd_T62 x1 x6).f1) - 1)) == x0))) else (spec_TermOk.j2 k x0 x1 x5 x6 false)) else (spec_TermOk.j2 k x0 x1 x5 x6 false)) else (none)) else (none))
def spec_TermOk.j2 : Nat → Int → List (S62) → Int → Int → Bool → Option (Bool)
 | 0, _, _, _, _, _ => none
 | k + 1, x0, x1, x5, x6, x39 => if x39 = true then (spec_TermOk.l0 k x0 x1 (wrap64 (x5 + 1)) (wrap64 (x6 + 1))) else (if 0 ≤ x6 then (if x6 < (x1.length : Int) then (if (((rd_T62 x1 x6).f0) == 2 && (((rd_T62 x1 x6).f1) == 0)) = true then (spec_TermOk.j3 k x0 x1 x5 x6 (decide (x5 ≥ 1))) else (spec_TermOk.j3 k x0 x1 x5 x6 false)) else (none)) else (none))
def spec_TermOk.j3 : Nat → Int → List (S62) → Int → Int → Bool → Option (Bool)
 | 0, _, _, _, _, _ => none
 | k + 1, x0, x1, x5, x6, x75 => if x75 = true then (spec_TermOk.l0 k x0 x1 x5 (wrap64 (x6 + 1))) else (if 0 ≤ x6 then (if x6 < (x1.length : Int) then ((spec_l1In.f ((rd_T62 x1 x6).f0) 3 5).bind fun t111 => (if t111 = true then (if ((rd_T62 x1 x6).f1) = 0 then (if x5 ≥ 2 then (spec_TermOk.l0 k x0 x1 (wrap64 (x5 - 1)) (wrap64 (x6 + 1))) else (some false)) else (some false)) else (some false))) else (none)) else (none))
end
def spec_TermOk.f (k : Nat) (a0 : Int) (l1 : List (S62)) : Option (Bool) := spec_TermOk.l0 k a0 l1 0 0
theorem spec_TermOk.mono_l : ∀ k, (∀ y0 y1 y2 y3, LeO (spec_TermOk.l0 k y0 y1 y2 y3) (spec_TermOk.l0 (k + 1) y0 y1 y2 y3)) ∧ (∀ y0 y1 y2 y3 y4, LeO (spec_TermOk.j1 k y0 y1 y2 y3 y4) (spec_TermOk.j1 (k + 1) y0 y1 y2 y3 y4)) ∧ (∀ y0 y1 y2 y3 y4, LeO (spec_TermOk.j2 k y0 y1 y2 y3 y4) (spec_TermOk.j2 (k + 1) y0 y1 y2 y3 y4)) ∧ (∀ y0 y1 y2 y3 y4, LeO (spec_TermOk.j3 k y0 y1 y2 y3 y4) (spec_TermOk.j3 (k + 1) y0 y1 y2 y3 y4))
 | 0 => ⟨fun _ _ _ _ r h => by simp [spec_TermOk.l0] at h, fun _ _ _ _ _ r h => by simp [spec_TermOk.j1] at h, fun _ _ _ _ _ r h => by simp [spec_TermOk.j2] at h, fun _ _ _ _ _ r h => by simp [spec_TermOk.j3] at h⟩
 | k + 1 => by
  obtain ⟨ih0, ih1, ih2, ih3⟩ := spec_TermOk.mono_l k
  refine ⟨?_, ?_, ?_, ?_⟩
  ·intro y0 y1 y2 y3
   unfold spec_TermOk.l0
   repeat' first
   | (with_reducible exact ih0 _ _ _ _)
   | (with_reducible exact ih1 _ _ _ _ _)
   | (with_reducible exact ih2 _ _ _ _ _)
   | (with_reducible exact ih3 _ _ _ _ _)
   | (with_reducible exact LeO.refl _)
   | (with_reducible exact LeO.none _)
   | (with_reducible refine LeO.ite ?_ ?_)
   | (with_reducible refine LeO.bind ?_ (fun _ => ?_))
   | exact ih0 _ _ _ _
   | exact ih1 _ _ _ _ _
   | exact ih2 _ _ _ _ _
   | exact ih3 _ _ _ _ _
   | exact LeO.none _
   | refine LeO.ite ?_ ?_
   | refine LeO.bind ?_ (fun _ => ?_)
  ·intro y0 y1 y2 y3 y4
   unfold spec_TermOk.j1
   repeat' first
   | (with_reducible exact ih0 _ _ _ _)
   | (with_reducible exact ih1 _ _ _ _ _)
   | (with_reducible exact ih2 _ _ _ _ _)
   | (with_reducible exact ih3 _ _ _ _ _)
   | (with_reducible exact LeO.refl _)
   | (with_reducible exact LeO.none _)
   | (with_reducible refine LeO.ite ?_ ?_)
   | (with_reducible refine LeO.bind ?_ (fun _ => ?_))
   | exact ih0 _ _ _ _
   | exact ih1 _ _ _ _ _
   | exact ih2 _ _ _ _ _
   | exact ih3 _ _ _ _ _
   | exact LeO.none _
   | refine LeO.ite ?_ ?_
   | refine LeO.bind ?_ (fun _ => ?_)
  ·intro y0 y1 y2 y3 y4
   unfold spec_TermOk.j2
   repeat' first
   | (with_reducible exact ih0 _ _ _ _)
   | (with_reducible exact ih1 _ _ _ _ _)
   | (with_reducible exact ih2 _ _ _ _ _)
   | (with_reducible exact ih3 _ _ _ _ _)
   | (with_reducible exact LeO.refl _)
   | (with_reducible exact LeO.none _)
   | (with_reducible refine LeO.ite ?_ ?_)
   | (with_reducible refine LeO.bind ?_ (fun _ => ?_))
   | exact ih0 _ _ _ _
   | exact ih1 _ _ _ _ _
   | exact ih2 _ _ _ _ _
   | exact ih3 _ _ _ _ _
   | exact LeO.none _
   | refine LeO.ite ?_ ?_
   | refine LeO.bind ?_ (fun _ => ?_)
  ·intro y0 y1 y2 y3 y4
   unfold spec_TermOk.j3
   repeat' first
   | (with_reducible exact ih0 _ _ _ _)
   | (with_reducible exact ih1 _ _ _ _ _)
   | (with_reducible exact ih2 _ _ _ _ _)
   | (with_reducible exact ih3 _ _ _ _ _)
   | (with_reducible exact LeO.refl _)
   | (with_reducible exact LeO.none _)
   | (with_reducible refine LeO.ite ?_ ?_)
   | (with_reducible refine LeO.bind ?_ (fun _ => ?_))
   | exact ih0 _ _ _ _
   | exact ih1 _ _ _ _ _
   | exact ih2 _ _ _ _ _
   | exact ih3 _ _ _ _ _
   | exact LeO.none _
   | refine LeO.ite ?_ ?_
   | refine LeO.bind ?_ (fun _ => ?_)
theorem spec_TermOk.mono : ∀ a0 a1 k, LeO (spec_TermOk.f k a0 a1) (spec_TermOk.f (k + 1) a0 a1) := by
 intro a0 a1 k
 obtain ⟨ih0, ih1, ih2, ih3⟩ := spec_TermOk.mono_l k
 unfold spec_TermOk.f
 repeat' first
   | (with_reducible exact ih0 _ _ _ _)
   | (with_reducible exact ih1 _ _ _ _ _)
   | (with_reducible exact ih2 _ _ _ _ _)
   | (with_reducible exact ih3 _ _ _ _ _)
   | (with_reducible exact LeO.refl _)
   | (with_reducible exact LeO.none _)
   | (with_reducible refine LeO.ite ?_ ?_)
   | (with_reducible refine LeO.bind ?_ (fun _ => ?_))
   | exact ih0 _ _ _ _
   | exact ih1 _ _ _ _ _
   | exact ih2 _ _ _ _ _
   | exact ih3 _ _ _ _ _
   | exact LeO.none _
   | refine LeO.ite ?_ ?_
   | refine LeO.bind ?_ (fun _ => ?_)
set_option maxHeartbeats 8000000 in
set_option maxRecDepth 100000 in
theorem spec_TermOk.calls (k : Nat) (a0 : Int) (A1 : Option Addr) (c1 : Nat) (l1 : List (S62)) (r : Bool) (w : World) (hr1 : Kd.C k62 w A1 l1.length l1) (hc1 : l1.length ≤ c1) (h : spec_TermOk.f k a0 l1 = some r) :
  Calls Try.prog 65 #[.int .i64 a0, .slice A1 l1.length c1] w fun e w' => e = .returned (.bool r) ∧ Drawn0 w w' := by
 have hu62 := Try.underlying62
 have HR1 := Aside0.mk hr1
 have HC1 := Aside0.mk hc1
 clear hr1 hc1
 have H : (spec_TermOk.l0 k a0 l1 0 0) = some r := h
 clear h
 have H' := Aside0.mk H
 clear H
 go_enter Try.func65, Try.ntmps65
 go_wp2
 go_loopg [5, 6] k (fun kq v5 v6 w' => ∃ (x5_1 : Int) (x6_1 : Int), v5 = .int .i64 x5_1 ∧ v6 = .int .i64 x6_1 ∧ Aside0 (spec_TermOk.l0 kq a0 l1 x5_1 x6_1 = some r) ∧ Aside0 (kq ≤ k) ∧ Drawn0 w w')
 case atStart => exact ⟨(0), (0), pwa_, pwa_, H', ⟨Nat.le_refl _⟩, by repeat (first | exact Drawn0.refl _ | apply Drawn0.step)⟩
 case round =>
  clear H'
  try clear c1
  try clear p2
  obtain ⟨x5_1, x6_1, rfl, rfl, HA, HK1, ⟨m1, rfl⟩⟩ := hrel
  cases gk with
  | zero => exact absurd HA.out (by simp [spec_TermOk.l0])
  | succ k1 =>
   have H := HA.out
   clear HA
   simp only [spec_TermOk.l0] at H
   by_cases c3 : x6_1 < (l1.length : Int)
   ·rw [if_pos c3] at H
    have c3b0 : decide (x6_1 < (l1.length : Int)) = true := decide_eq_true c3
    clear c3
    have HC4 := Aside0.mk H
    clear H
    go_upto_region 6 with (fail)
    go_cut [13] (fun v13 wc => ∃ (kq : Nat) (x13_3 : Bool), v13 = .bool x13_3 ∧ Aside0 (spec_TermOk.j1 kq a0 l1 x5_1 x6_1 x13_3 = some r) ∧ Aside0 (kq ≤ k1) ∧ Drawn0 w wc)
    case first =>
     have H := HC4.out
     clear HC4
     by_cases c5 : 0 ≤ x6_1
     ·rw [if_pos c5] at H
      have c5b0 : decide (0 ≤ x6_1) = true := decide_eq_true c5
      clear c5
      (first | rw [c5b0] | (simp only [i64_w, i32_w]; rw [c5b0]) | skip)
      by_cases c6 : ((rd_T62 l1 x6_1).f0) = 0
      ·rw [if_pos c6] at H
       have c6b0 : (((rd_T62 l1 x6_1).f0) == 0) = true := beq_iff_eq.mpr c6
       have c6b1 : (((rd_T62 l1 x6_1).f0) != 0) = false := bne_eq_false_iff_eq.mpr c6
       clear c6
       by_cases c7 : ((rd_T62 l1 x6_1).f1) ≥ 0
       ·rw [if_pos c7] at H
        have c7b0 : decide (0 ≤ ((rd_T62 l1 x6_1).f1)) = true := decide_eq_true c7
        clear c7
        have H' := Aside0.mk H
        clear H
        have p102 : 0 ≤ (x6_1 : Int) := of_decide_eq_true pwb_
        have q102 : x6_1 < (l1.length : Int) := of_decide_eq_true pwb_
        obtain ⟨ad102, e102, hx102_0, hx102_1⟩ := at_T62 HR1.out x6_1 p102 q102
        cases e102
        replace p102 := eq_true p102
        replace q102 := eq_true q102
        have p103 : 0 ≤ (x6_1 : Int) := of_decide_eq_true pwb_
        have q103 : x6_1 < (l1.length : Int) := of_decide_eq_true pwb_
        obtain ⟨ad103, e103, hx103_0, hx103_1⟩ := at_T62 HR1.out x6_1 p103 q103
        obtain rfl : ad102 = ad103 := (by injection e103)
        replace p103 := eq_true p103
        replace q103 := eq_true q103
        have p104 : 0 ≤ (x6_1 : Int) := of_decide_eq_true pwb_
        have q104 : x6_1 < (l1.length : Int) := of_decide_eq_true pwb_
        obtain ⟨ad104, e104, hx104_0, hx104_1⟩ := at_T62 HR1.out x6_1 p104 q104
        obtain rfl : ad102 = ad104 := (by injection e104)
        replace p104 := eq_true p104
        replace q104 := eq_true q104
        go_wp2
        go_meet
        case rel => exact ⟨_, (decide (((rd_T62 l1 x6_1).f1) < a0)), pwa_, H', ⟨by have := HK1.out; first | omega | exact Nat.le_refl _⟩, by repeat (first | exact Drawn0.refl _ | apply Drawn0.step)⟩
       ·rw [if_neg c7] at H
        have c7b0 : decide (0 ≤ ((rd_T62 l1 x6_1).f1)) = false := decide_eq_false c7
        clear c7
        have H' := Aside0.mk H
        clear H
        have p102 : 0 ≤ (x6_1 : Int) := of_decide_eq_true pwb_
        have q102 : x6_1 < (l1.length : Int) := of_decide_eq_true pwb_
        obtain ⟨ad102, e102, hx102_0, hx102_1⟩ := at_T62 HR1.out x6_1 p102 q102
        cases e102
        replace p102 := eq_true p102
        replace q102 := eq_true q102
        have p103 : 0 ≤ (x6_1 : Int) := of_decide_eq_true pwb_
        have q103 : x6_1 < (l1.length : Int) := of_decide_eq_true pwb_
        obtain ⟨ad103, e103, hx103_0, hx103_1⟩ := at_T62 HR1.out x6_1 p103 q103
        obtain rfl : ad102 = ad103 := (by injection e103)
        replace p103 := eq_true p103
        replace q103 := eq_true q103
        go_wp2
        go_meet
        case rel => exact ⟨_, (false), pwa_, H', ⟨by have := HK1.out; first | omega | exact Nat.le_refl _⟩, by repeat (first | exact Drawn0.refl _ | apply Drawn0.step)⟩
      ·rw [if_neg c6] at H
       have c6b0 : (((rd_T62 l1 x6_1).f0) == 0) = false := beq_eq_false_iff_ne.mpr c6
       have c6b1 : (((rd_T62 l1 x6_1).f0) != 0) = true := bne_iff_ne.mpr c6
       have H' := Aside0.mk H
       clear H
       have p102 : 0 ≤ (x6_1 : Int) := of_decide_eq_true pwb_
       have q102 : x6_1 < (l1.length : Int) := of_decide_eq_true pwb_
       obtain ⟨ad102, e102, hx102_0, hx102_1⟩ := at_T62 HR1.out x6_1 p102 q102
       cases e102
       replace p102 := eq_true p102
       replace q102 := eq_true q102
       go_wp2
       go_meet
       case rel => exact ⟨_, (false), pwa_, H', ⟨by have := HK1.out; first | omega | exact Nat.le_refl _⟩, by repeat (first | exact Drawn0.refl _ | apply Drawn0.step)⟩
     ·rw [if_neg c5] at H
      exact absurd H (by simp)
    case rest =>
     clear HC4
     try clear c1
     try clear p1
     try clear q1
     try clear hx1
     try clear p2
     try clear c3
     try clear c3b0
     try clear c5
     try clear c5b0
     try clear c6
     try clear c6b0
     try clear c6b1
     try clear c7
     try clear c7b0
     try clear hx102_0
     try clear hx102_1
     try clear hx103_0
     try clear hx103_1
     try clear hx104_0
     try clear hx104_1
     try clear p102
     try clear p103
     try clear p104
     try clear p2
     try clear q102
     try clear q103
     try clear q104
     obtain ⟨kq, x13_3, rfl, HA, HJ3, ⟨mc3, rfl⟩⟩ := hcut
     cases kq with
     | zero => exact absurd HA.out (by simp [spec_TermOk.j1])
     | succ kj3 =>
      have H := HA.out
      clear HA
      simp only [spec_TermOk.j1] at H
      by_cases c8 : x13_3 = true
      ·subst c8
       have H1 : (spec_TermOk.l0 kj3 a0 l1 (wrap64 (x5_1 + 1)) (wrap64 (x6_1 + 1))) = some r := by rw [if_pos rfl] at H; exact H
       clear H
       have H := H1
       clear H1
       have H' := Aside0.mk H
       clear H
       go_wp2
       go_roundg kj3
       case measure => have := HK1.out; have := HJ3.out; omega
       case rel => exact ⟨(wrap64 (x5_1 + 1)), (wrap64 (x6_1 + 1)), pwa_, pwa_, H', ⟨by have := HK1.out; have := HJ3.out; omega⟩, by repeat (first | exact Drawn0.refl _ | apply Drawn0.step)⟩
      ·replace c8 := Bool.eq_false_iff.mpr c8
       subst c8
       have H1 : (if 0 ≤ x6_1 then (if x6_1 < (l1.length : Int) then (if ((rd_T62 l1 x6_1).f0) = 1 then (if ((rd_T62 l1 x6_1).f1) ≥ 0 then (if ((rd_T62 l1 x6_1).f1) ≤ a0 then (spec_TermOk.j2 kj3 a0 l1 x5_1 x6_1 true) else (spec_TermOk.j2 kj3 a0 l1 x5_1 x6_1 ((wrap64 (((rd_T62 l1 x6_1).f1) - 1)) == a0))) else (spec_TermOk.j2 kj3 a0 l1 x5_1 x6_1 false)) else (spec_TermOk.j2 kj3 a0 l1 x5_1 x6_1 false)) else (none)) else (none)) = some r := by rw [if_neg (show ¬ (false = true) by decide)] at H; exact H
       clear H
       have H := H1
       clear H1
       have HC9 := Aside0.mk H
       clear H
       go_upto_region 8 with (fail)
       go_cut [39] (fun v39 wc => ∃ (kq : Nat) (x39_8 : Bool), v39 = .bool x39_8 ∧ Aside0 (spec_TermOk.j2 kq a0 l1 x5_1 x6_1 x39_8 = some r) ∧ Aside0 (kq ≤ kj3) ∧ Drawn0 w wc)
       case first =>
        have H := HC9.out
        clear HC9
        by_cases c10 : 0 ≤ x6_1
        ·rw [if_pos c10] at H
         have c10b0 : decide (0 ≤ x6_1) = true := decide_eq_true c10
         clear c10
         (first | rw [c10b0] | (simp only [i64_w, i32_w]; rw [c10b0]) | skip)
         by_cases c11 : x6_1 < (l1.length : Int)
         ·rw [if_pos c11] at H
          have c11b0 : decide (x6_1 < (l1.length : Int)) = true := decide_eq_true c11
          clear c11
          by_cases c12 : ((rd_T62 l1 x6_1).f0) = 1
          ·rw [if_pos c12] at H
           have c12b0 : (((rd_T62 l1 x6_1).f0) == 1) = true := beq_iff_eq.mpr c12
           have c12b1 : (((rd_T62 l1 x6_1).f0) != 1) = false := bne_eq_false_iff_eq.mpr c12
           clear c12
           by_cases c13 : ((rd_T62 l1 x6_1).f1) ≥ 0
           ·rw [if_pos c13] at H
            have c13b0 : decide (0 ≤ ((rd_T62 l1 x6_1).f1)) = true := decide_eq_true c13
            clear c13
            by_cases c14 : ((rd_T62 l1 x6_1).f1) ≤ a0
            ·rw [if_pos c14] at H
             have c14b0 : decide (((rd_T62 l1 x6_1).f1) ≤ a0) = true := decide_eq_true c14
             clear c14
             have H' := Aside0.mk H
             clear H
             have p105 : 0 ≤ (x6_1 : Int) := of_decide_eq_true pwb_
             have q105 : x6_1 < (l1.length : Int) := of_decide_eq_true pwb_
             obtain ⟨ad105, e105, hx105_0, hx105_1⟩ := at_T62 HR1.out x6_1 p105 q105
             cases e105
             replace p105 := eq_true p105
             replace q105 := eq_true q105
             have p106 : 0 ≤ (x6_1 : Int) := of_decide_eq_true pwb_
             have q106 : x6_1 < (l1.length : Int) := of_decide_eq_true pwb_
             obtain ⟨ad106, e106, hx106_0, hx106_1⟩ := at_T62 HR1.out x6_1 p106 q106
             obtain rfl : ad105 = ad106 := (by injection e106)
             replace p106 := eq_true p106
             replace q106 := eq_true q106
             have p107 : 0 ≤ (x6_1 : Int) := of_decide_eq_true pwb_
             have q107 : x6_1 < (l1.length : Int) := of_decide_eq_true pwb_
             obtain ⟨ad107, e107, hx107_0, hx107_1⟩ := at_T62 HR1.out x6_1 p107 q107
             obtain rfl : ad105 = ad107 := (by injection e107)
             replace p107 := eq_true p107
             replace q107 := eq_true q107
             go_wp2
             go_meet
             case rel => exact ⟨_, (true), pwa_, H', ⟨by have := HK1.out; have := HJ3.out; first | omega | exact Nat.le_refl _⟩, by repeat (first | exact Drawn0.refl _ | apply Drawn0.step)⟩
            ·rw [if_neg c14] at H
             have c14b0 : decide (((rd_T62 l1 x6_1).f1) ≤ a0) = false := decide_eq_false c14
             clear c14
             have H' := Aside0.mk H
             clear H
             have p105 : 0 ≤ (x6_1 : Int) := of_decide_eq_true pwb_
             have q105 : x6_1 < (l1.length : Int) := of_decide_eq_true pwb_
             obtain ⟨ad105, e105, hx105_0, hx105_1⟩ := at_T62 HR1.out x6_1 p105 q105
             cases e105
             replace p105 := eq_true p105
             replace q105 := eq_true q105
             have p106 : 0 ≤ (x6_1 : Int) := of_decide_eq_true pwb_
             have q106 : x6_1 < (l1.length : Int) := of_decide_eq_true pwb_
             obtain ⟨ad106, e106, hx106_0, hx106_1⟩ := at_T62 HR1.out x6_1 p106 q106
             obtain rfl : ad105 = ad106 := (by injection e106)
             replace p106 := eq_true p106
             replace q106 := eq_true q106
             have p107 : 0 ≤ (x6_1 : Int) := of_decide_eq_true pwb_
             have q107 : x6_1 < (l1.length : Int) := of_decide_eq_true pwb_
             obtain ⟨ad107, e107, hx107_0, hx107_1⟩ := at_T62 HR1.out x6_1 p107 q107
             obtain rfl : ad105 = ad107 := (by injection e107)
             replace p107 := eq_true p107
             replace q107 := eq_true q107
             have p108 : 0 ≤ (x6_1 : Int) := of_decide_eq_true pwb_
             have q108 : x6_1 < (l1.length : Int) := of_decide_eq_true pwb_
             obtain ⟨ad108, e108, hx108_0, hx108_1⟩ := at_T62 HR1.out x6_1 p108 q108
             obtain rfl : ad105 = ad108 := (by injection e108)
             replace p108 := eq_true p108
             replace q108 := eq_true q108
             go_wp2
             go_meet
             case rel => exact ⟨_, (((wrap64 (((rd_T62 l1 x6_1).f1) - 1)) == a0)), pwa_, H', ⟨by have := HK1.out; have := HJ3.out; first | omega | exact Nat.le_refl _⟩, by repeat (first | exact Drawn0.refl _ | apply Drawn0.step)⟩
           ·rw [if_neg c13] at H
            have c13b0 : decide (0 ≤ ((rd_T62 l1 x6_1).f1)) = false := decide_eq_false c13
            clear c13
            have H' := Aside0.mk H
            clear H
            have p105 : 0 ≤ (x6_1 : Int) := of_decide_eq_true pwb_
            have q105 : x6_1 < (l1.length : Int) := of_decide_eq_true pwb_
            obtain ⟨ad105, e105, hx105_0, hx105_1⟩ := at_T62 HR1.out x6_1 p105 q105
            cases e105
            replace p105 := eq_true p105
            replace q105 := eq_true q105
            have p106 : 0 ≤ (x6_1 : Int) := of_decide_eq_true pwb_
            have q106 : x6_1 < (l1.length : Int) := of_decide_eq_true pwb_
            obtain ⟨ad106, e106, hx106_0, hx106_1⟩ := at_T62 HR1.out x6_1 p106 q106
            obtain rfl : ad105 = ad106 := (by injection e106)
            replace p106 := eq_true p106
            replace q106 := eq_true q106
            go_wp2
            go_meet
            case rel => exact ⟨_, (false), pwa_, H', ⟨by have := HK1.out; have := HJ3.out; first | omega | exact Nat.le_refl _⟩, by repeat (first | exact Drawn0.refl _ | apply Drawn0.step)⟩
          ·rw [if_neg c12] at H
           have c12b0 : (((rd_T62 l1 x6_1).f0) == 1) = false := beq_eq_false_iff_ne.mpr c12
           have c12b1 : (((rd_T62 l1 x6_1).f0) != 1) = true := bne_iff_ne.mpr c12
           have H' := Aside0.mk H
           clear H
           have p105 : 0 ≤ (x6_1 : Int) := of_decide_eq_true pwb_
           have q105 : x6_1 < (l1.length : Int) := of_decide_eq_true pwb_
           obtain ⟨ad105, e105, hx105_0, hx105_1⟩ := at_T62 HR1.out x6_1 p105 q105
           cases e105
           replace p105 := eq_true p105
           replace q105 := eq_true q105
           go_wp2
           go_meet
           case rel => exact ⟨_, (false), pwa_, H', ⟨by have := HK1.out; have := HJ3.out; first | omega | exact Nat.le_refl _⟩, by repeat (first | exact Drawn0.refl _ | apply Drawn0.step)⟩
         ·rw [if_neg c11] at H
          exact absurd H (by simp)
        ·rw [if_neg c10] at H
         exact absurd H (by simp)
       case rest =>
        clear HC9
        try clear c1
        try clear p1
        try clear q1
        try clear hx1
        try clear p2
        try clear c3
        try clear c3b0
        try clear c5
        try clear c5b0
        try clear c6
        try clear c6b0
        try clear c6b1
        try clear p6
        try clear c7
        try clear c7b0
        try clear c8
        try clear c10
        try clear c10b0
        try clear p10
        try clear q10
        try clear hx10
        try clear c11
        try clear c11b0
        try clear c12
        try clear c12b0
        try clear c12b1
        try clear c13
        try clear c13b0
        try clear c14
        try clear c14b0
        try clear hx102_0
        try clear hx102_1
        try clear hx103_0
        try clear hx103_1
        try clear hx104_0
        try clear hx104_1
        try clear hx105_0
        try clear hx105_1
        try clear hx106_0
        try clear hx106_1
        try clear hx107_0
        try clear hx107_1
        try clear hx108_0
        try clear hx108_1
        try clear p1
        try clear p102
        try clear p103
        try clear p104
        try clear p105
        try clear p106
        try clear p107
        try clear p108
        try clear p2
        try clear q1
        try clear q102
        try clear q103
        try clear q104
        try clear q105
        try clear q106
        try clear q107
        try clear q108
        obtain ⟨kq, x39_8, rfl, HA, HJ8, ⟨mc8, rfl⟩⟩ := hcut
        cases kq with
        | zero => exact absurd HA.out (by simp [spec_TermOk.j2])
        | succ kj8 =>
         have H := HA.out
         clear HA
         simp only [spec_TermOk.j2] at H
         by_cases c15 : x39_8 = true
         ·subst c15
          have H1 : (spec_TermOk.l0 kj8 a0 l1 (wrap64 (x5_1 + 1)) (wrap64 (x6_1 + 1))) = some r := by rw [if_pos rfl] at H; exact H
          clear H
          have H := H1
          clear H1
          have H' := Aside0.mk H
          clear H
          go_wp2
          go_roundg kj8
          case measure => have := HK1.out; have := HJ3.out; have := HJ8.out; omega
          case rel => exact ⟨(wrap64 (x5_1 + 1)), (wrap64 (x6_1 + 1)), pwa_, pwa_, H', ⟨by have := HK1.out; have := HJ3.out; have := HJ8.out; omega⟩, by repeat (first | exact Drawn0.refl _ | apply Drawn0.step)⟩
         ·replace c15 := Bool.eq_false_iff.mpr c15
          subst c15
          have H1 : (if 0 ≤ x6_1 then (if x6_1 < (l1.length : Int) then (if (((rd_T62 l1 x6_1).f0) == 2 && (((rd_T62 l1 x6_1).f1) == 0)) = true then (spec_TermOk.j3 kj8 a0 l1 x5_1 x6_1 (decide (x5_1 ≥ 1))) else (spec_TermOk.j3 kj8 a0 l1 x5_1 x6_1 false)) else (none)) else (none)) = some r := by rw [if_neg (show ¬ (false = true) by decide)] at H; exact H
          clear H
          have H := H1
          clear H1
          have HC16 := Aside0.mk H
          clear H
          go_upto_region 10 with (fail)
          go_cut [75] (fun v75 wc => ∃ (kq : Nat) (x75_15 : Bool), v75 = .bool x75_15 ∧ Aside0 (spec_TermOk.j3 kq a0 l1 x5_1 x6_1 x75_15 = some r) ∧ Aside0 (kq ≤ kj8) ∧ Drawn0 w wc)
          case first =>
           have H := HC16.out
           clear HC16
           by_cases c17 : 0 ≤ x6_1
           ·rw [if_pos c17] at H
            have c17b0 : decide (0 ≤ x6_1) = true := decide_eq_true c17
            clear c17
            (first | rw [c17b0] | (simp only [i64_w, i32_w]; rw [c17b0]) | skip)
            by_cases c18 : x6_1 < (l1.length : Int)
            ·rw [if_pos c18] at H
             have c18b0 : decide (x6_1 < (l1.length : Int)) = true := decide_eq_true c18
             clear c18
             by_cases c19 : (((rd_T62 l1 x6_1).f0) == 2 && (((rd_T62 l1 x6_1).f1) == 0)) = true
             ·rw [if_pos c19] at H
              have c19b0 : (((rd_T62 l1 x6_1).f0) == 2 && (((rd_T62 l1 x6_1).f1) == 0)) = true := c19
              (try (have c19b1 : decide (((rd_T62 l1 x6_1).f0) = 2 && (((rd_T62 l1 x6_1).f1) == 0)) = true := by simpa using c19))
              (try (have c19b2 : (((rd_T62 l1 x6_1).f0) == 2 && (((rd_T62 l1 x6_1).f1) == 0)) = true := by simpa using c19))
              clear c19
              have H' := Aside0.mk H
              clear H
              have p109 : 0 ≤ (x6_1 : Int) := of_decide_eq_true pwb_
              have q109 : x6_1 < (l1.length : Int) := of_decide_eq_true pwb_
              obtain ⟨ad109, e109, hx109_0, hx109_1⟩ := at_T62 HR1.out x6_1 p109 q109
              cases e109
              replace p109 := eq_true p109
              replace q109 := eq_true q109
              go_wp2
              go_meet
              case rel => exact ⟨_, (decide (x5_1 ≥ 1)), pwa_, H', ⟨by have := HK1.out; have := HJ3.out; have := HJ8.out; first | omega | exact Nat.le_refl _⟩, by repeat (first | exact Drawn0.refl _ | apply Drawn0.step)⟩
             ·rw [if_neg c19] at H
              have c19b0 : (((rd_T62 l1 x6_1).f0) == 2 && (((rd_T62 l1 x6_1).f1) == 0)) = false := by simpa using c19
              (try (have c19b1 : decide (((rd_T62 l1 x6_1).f0) = 2 && (((rd_T62 l1 x6_1).f1) == 0)) = false := by simpa using c19))
              (try (have c19b2 : (((rd_T62 l1 x6_1).f0) == 2 && (((rd_T62 l1 x6_1).f1) == 0)) = false := by simpa using c19))
              (try (have c19b3 : ¬ (((rd_T62 l1 x6_1).f0) = 2 && (((rd_T62 l1 x6_1).f1) == 0)) := by simpa using c19))
              clear c19
              have H' := Aside0.mk H
              clear H
              have p109 : 0 ≤ (x6_1 : Int) := of_decide_eq_true pwb_
              have q109 : x6_1 < (l1.length : Int) := of_decide_eq_true pwb_
              obtain ⟨ad109, e109, hx109_0, hx109_1⟩ := at_T62 HR1.out x6_1 p109 q109
              cases e109
              replace p109 := eq_true p109
              replace q109 := eq_true q109
              go_wp2
              go_meet
              case rel => exact ⟨_, (false), pwa_, H', ⟨by have := HK1.out; have := HJ3.out; have := HJ8.out; first | omega | exact Nat.le_refl _⟩, by repeat (first | exact Drawn0.refl _ | apply Drawn0.step)⟩
            ·rw [if_neg c18] at H
             exact absurd H (by simp)
           ·rw [if_neg c17] at H
            exact absurd H (by simp)
          case rest =>
           clear HC16
           try clear c1
           try clear p1
           try clear q1
           try clear hx1
           try clear p2
           try clear c3
           try clear c3b0
           try clear c5
           try clear c5b0
           try clear c6
           try clear c6b0
           try clear c6b1
           try clear p6
           try clear c7
           try clear c7b0
           try clear c8
           try clear c10
           try clear c10b0
           try clear p10
           try clear q10
           try clear hx10
           try clear c11
           try clear c11b0
           try clear c12
           try clear c12b0
           try clear c12b1
           try clear c13
           try clear c13b0
           try clear c14
           try clear c14b0
           try clear c15
           try clear c17
           try clear c17b0
           try clear c18
           try clear c18b0
           try clear c19
           try clear c19b0
           try clear c19b1
           try clear c19b2
           try clear hx102_0
           try clear hx102_1
           try clear hx103_0
           try clear hx103_1
           try clear hx104_0
           try clear hx104_1
           try clear hx105_0
           try clear hx105_1
           try clear hx106_0
           try clear hx106_1
           try clear hx107_0
           try clear hx107_1
           try clear hx108_0
           try clear hx108_1
           try clear hx109_0
           try clear hx109_1
           try clear p1
           try clear p10
           try clear p102
           try clear p103
           try clear p104
           try clear p105
           try clear p106
           try clear p107
           try clear p108
           try clear p109
           try clear p2
           try clear p6
           try clear q1
           try clear q10
           try clear q102
           try clear q103
           try clear q104
           try clear q105
           try clear q106
           try clear q107
           try clear q108
           try clear q109
           obtain ⟨kq, x75_15, rfl, HA, HJ15, ⟨mc15, rfl⟩⟩ := hcut
           cases kq with
           | zero => exact absurd HA.out (by simp [spec_TermOk.j3])
           | succ kj15 =>
            have H := HA.out
            clear HA
            simp only [spec_TermOk.j3] at H
            by_cases c20 : x75_15 = true
            ·subst c20
             have H1 : (spec_TermOk.l0 kj15 a0 l1 x5_1 (wrap64 (x6_1 + 1))) = some r := by rw [if_pos rfl] at H; exact H
             clear H
             have H := H1
             clear H1
             have H' := Aside0.mk H
             clear H
             go_wp2
             go_roundg kj15
             case measure => have := HK1.out; have := HJ3.out; have := HJ8.out; have := HJ15.out; omega
             case rel => exact ⟨(x5_1), (wrap64 (x6_1 + 1)), pwa_, pwa_, H', ⟨by have := HK1.out; have := HJ3.out; have := HJ8.out; have := HJ15.out; omega⟩, by repeat (first | exact Drawn0.refl _ | apply Drawn0.step)⟩
            ·replace c20 := Bool.eq_false_iff.mpr c20
             subst c20
             have H1 : (if 0 ≤ x6_1 then (if x6_1 < (l1.length : Int) then ((spec_l1In.f ((rd_T62 l1 x6_1).f0) 3 5).bind fun t111 => (if t111 = true then (if ((rd_T62 l1 x6_1).f1) = 0 then (if x5_1 ≥ 2 then (spec_TermOk.l0 kj15 a0 l1 (wrap64 (x5_1 - 1)) (wrap64 (x6_1 + 1))) else (some false)) else (some false)) else (some false))) else (none)) else (none)) = some r := by rw [if_neg (show ¬ (false = true) by decide)] at H; exact H
             clear H
             have H := H1
             clear H1
             by_cases c21 : 0 ≤ x6_1
             ·rw [if_pos c21] at H
              have c21b0 : decide (0 ≤ x6_1) = true := decide_eq_true c21
              clear c21
              by_cases c22 : x6_1 < (l1.length : Int)
              ·rw [if_pos c22] at H
               have c22b0 : decide (x6_1 < (l1.length : Int)) = true := decide_eq_true c22
               clear c22
               replace H := Option.bind_eq_some_iff.mp H
               obtain ⟨t111, A230, H⟩ := H
               replace H : (if t111 = true then (if ((rd_T62 l1 x6_1).f1) = 0 then (if x5_1 ≥ 2 then (spec_TermOk.l0 kj15 a0 l1 (wrap64 (x5_1 - 1)) (wrap64 (x6_1 + 1))) else (some false)) else (some false)) else (some false)) = some r := H
               have A23 := Aside0.mk A230
               clear A230
               by_cases c24 : t111 = true
               ·subst c24
                have H1 : (if ((rd_T62 l1 x6_1).f1) = 0 then (if x5_1 ≥ 2 then (spec_TermOk.l0 kj15 a0 l1 (wrap64 (x5_1 - 1)) (wrap64 (x6_1 + 1))) else (some false)) else (some false)) = some r := by rw [if_pos rfl] at H; exact H
                clear H
                have H := H1
                clear H1
                by_cases c25 : ((rd_T62 l1 x6_1).f1) = 0
                ·rw [if_pos c25] at H
                 have c25b0 : (((rd_T62 l1 x6_1).f1) == 0) = true := beq_iff_eq.mpr c25
                 have c25b1 : (((rd_T62 l1 x6_1).f1) != 0) = false := bne_eq_false_iff_eq.mpr c25
                 clear c25
                 by_cases c26 : x5_1 ≥ 2
                 ·rw [if_pos c26] at H
                  have c26b0 : decide (2 ≤ x5_1) = true := decide_eq_true c26
                  clear c26
                  have H' := Aside0.mk H
                  clear H
                  have p110 : 0 ≤ (x6_1 : Int) := of_decide_eq_true pwb_
                  have q110 : x6_1 < (l1.length : Int) := of_decide_eq_true pwb_
                  obtain ⟨ad110, e110, hx110_0, hx110_1⟩ := at_T62 HR1.out x6_1 p110 q110
                  cases e110
                  replace p110 := eq_true p110
                  replace q110 := eq_true q110
                  go_wp2_with (first | ((with_reducible refine gate_callee (f := 73) rfl ?_); refine goesL_ (some 92) rfl rfl Try.func73 (by kernel_rfl) rfl #[.int .i64 ((rd_T62 l1 x6_1).f0), .int .i64 3, .int .i64 5] rfl pwk_ ?_; (with_reducible refine (spec_l1In.calls ((rd_T62 l1 x6_1).f0) 3 5 true _ A23.out).mono ?_); rintro e w' ⟨rfl, ⟨nd, rfl⟩⟩; refine ⟨_, rfl, ?_⟩; have p112 : 0 ≤ (x6_1 : Int) := of_decide_eq_true pwb_; have q112 : x6_1 < (l1.length : Int) := of_decide_eq_true pwb_; obtain ⟨ad112, e112, hx112_0, hx112_1⟩ := at_T62 HR1.out x6_1 p112 q112; obtain rfl : ad110 = ad112 := (by injection e112); replace p112 := eq_true p112; replace q112 := eq_true q112))
                  go_roundg kj15
                  case measure => have := HK1.out; have := HJ3.out; have := HJ8.out; have := HJ15.out; omega
                  case rel => exact ⟨(wrap64 (x5_1 - 1)), (wrap64 (x6_1 + 1)), pwa_, pwa_, H', ⟨by have := HK1.out; have := HJ3.out; have := HJ8.out; have := HJ15.out; omega⟩, by repeat (first | exact Drawn0.refl _ | apply Drawn0.step)⟩
                 ·rw [if_neg c26] at H
                  have c26b0 : decide (2 ≤ x5_1) = false := decide_eq_false c26
                  clear c26
                  obtain rfl := Option.some.inj H
                  have p110 : 0 ≤ (x6_1 : Int) := of_decide_eq_true pwb_
                  have q110 : x6_1 < (l1.length : Int) := of_decide_eq_true pwb_
                  obtain ⟨ad110, e110, hx110_0, hx110_1⟩ := at_T62 HR1.out x6_1 p110 q110
                  cases e110
                  replace p110 := eq_true p110
                  replace q110 := eq_true q110
                  go_wp2_with (first | ((with_reducible refine gate_callee (f := 73) rfl ?_); refine goesL_ (some 92) rfl rfl Try.func73 (by kernel_rfl) rfl #[.int .i64 ((rd_T62 l1 x6_1).f0), .int .i64 3, .int .i64 5] rfl pwk_ ?_; (with_reducible refine (spec_l1In.calls ((rd_T62 l1 x6_1).f0) 3 5 true _ A23.out).mono ?_); rintro e w' ⟨rfl, ⟨nd, rfl⟩⟩; refine ⟨_, rfl, ?_⟩; have p112 : 0 ≤ (x6_1 : Int) := of_decide_eq_true pwb_; have q112 : x6_1 < (l1.length : Int) := of_decide_eq_true pwb_; obtain ⟨ad112, e112, hx112_0, hx112_1⟩ := at_T62 HR1.out x6_1 p112 q112; obtain rfl : ad110 = ad112 := (by injection e112); replace p112 := eq_true p112; replace q112 := eq_true q112))
                  go_ret
                  exact ⟨pwa_, by repeat (first | exact Drawn0.refl _ | apply Drawn0.step)⟩
                ·rw [if_neg c25] at H
                 have c25b0 : (((rd_T62 l1 x6_1).f1) == 0) = false := beq_eq_false_iff_ne.mpr c25
                 have c25b1 : (((rd_T62 l1 x6_1).f1) != 0) = true := bne_iff_ne.mpr c25
                 obtain rfl := Option.some.inj H
                 have p110 : 0 ≤ (x6_1 : Int) := of_decide_eq_true pwb_
                 have q110 : x6_1 < (l1.length : Int) := of_decide_eq_true pwb_
                 obtain ⟨ad110, e110, hx110_0, hx110_1⟩ := at_T62 HR1.out x6_1 p110 q110
                 cases e110
                 replace p110 := eq_true p110
                 replace q110 := eq_true q110
                 go_wp2_with (first | ((with_reducible refine gate_callee (f := 73) rfl ?_); refine goesL_ (some 92) rfl rfl Try.func73 (by kernel_rfl) rfl #[.int .i64 ((rd_T62 l1 x6_1).f0), .int .i64 3, .int .i64 5] rfl pwk_ ?_; (with_reducible refine (spec_l1In.calls ((rd_T62 l1 x6_1).f0) 3 5 true _ A23.out).mono ?_); rintro e w' ⟨rfl, ⟨nd, rfl⟩⟩; refine ⟨_, rfl, ?_⟩; have p112 : 0 ≤ (x6_1 : Int) := of_decide_eq_true pwb_; have q112 : x6_1 < (l1.length : Int) := of_decide_eq_true pwb_; obtain ⟨ad112, e112, hx112_0, hx112_1⟩ := at_T62 HR1.out x6_1 p112 q112; obtain rfl : ad110 = ad112 := (by injection e112); replace p112 := eq_true p112; replace q112 := eq_true q112))
                 go_ret
                 exact ⟨pwa_, by repeat (first | exact Drawn0.refl _ | apply Drawn0.step)⟩
               ·replace c24 := Bool.eq_false_iff.mpr c24
                subst c24
                have H1 : (some false) = some r := by rw [if_neg (show ¬ (false = true) by decide)] at H; exact H
                clear H
                have H := H1
                clear H1
                obtain rfl := Option.some.inj H
                have p110 : 0 ≤ (x6_1 : Int) := of_decide_eq_true pwb_
                have q110 : x6_1 < (l1.length : Int) := of_decide_eq_true pwb_
                obtain ⟨ad110, e110, hx110_0, hx110_1⟩ := at_T62 HR1.out x6_1 p110 q110
                cases e110
                replace p110 := eq_true p110
                replace q110 := eq_true q110
                go_wp2_with (first | ((with_reducible refine gate_callee (f := 73) rfl ?_); refine goesL_ (some 92) rfl rfl Try.func73 (by kernel_rfl) rfl #[.int .i64 ((rd_T62 l1 x6_1).f0), .int .i64 3, .int .i64 5] rfl pwk_ ?_; (with_reducible refine (spec_l1In.calls ((rd_T62 l1 x6_1).f0) 3 5 false _ A23.out).mono ?_); rintro e w' ⟨rfl, ⟨nd, rfl⟩⟩; refine ⟨_, rfl, ?_⟩))
                go_ret
                exact ⟨pwa_, by repeat (first | exact Drawn0.refl _ | apply Drawn0.step)⟩
              ·rw [if_neg c22] at H
               exact absurd H (by simp)
             ·rw [if_neg c21] at H
              exact absurd H (by simp)
   ·rw [if_neg c3] at H
    have c3b0 : decide (x6_1 < (l1.length : Int)) = false := decide_eq_false c3
    clear c3
    replace H := Option.bind_eq_some_iff.mp H
    obtain ⟨t101, A270, H⟩ := H
    replace H : (if t101 = true then (if x5_1 = 1 then (some (decide ((l1.length : Int) ≤ 15))) else (some false)) else (some false)) = some r := H
    have A27 := Aside0.mk A270
    clear A270
    by_cases c28 : t101 = true
    ·subst c28
     have H1 : (if x5_1 = 1 then (some (decide ((l1.length : Int) ≤ 15))) else (some false)) = some r := by rw [if_pos rfl] at H; exact H
     clear H
     have H := H1
     clear H1
     by_cases c29 : x5_1 = 1
     ·rw [if_pos c29] at H
      have c29b0 : (x5_1 == 1) = true := beq_iff_eq.mpr c29
      have c29b1 : (x5_1 != 1) = false := bne_eq_false_iff_eq.mpr c29
      clear c29
      obtain rfl := Option.some.inj H
      go_wp2_with (first | ((with_reducible refine gate_callee (f := 73) rfl ?_); refine goesL_ (some 108) rfl rfl Try.func73 (by kernel_rfl) rfl #[.int .i64 a0, .int .i64 1, .int .i64 4] rfl pwk_ ?_; (with_reducible refine (spec_l1In.calls a0 1 4 true _ A27.out).mono ?_); rintro e w' ⟨rfl, ⟨nd, rfl⟩⟩; refine ⟨_, rfl, ?_⟩))
      go_ret
      exact ⟨pwa_, by repeat (first | exact Drawn0.refl _ | apply Drawn0.step)⟩
     ·rw [if_neg c29] at H
      have c29b0 : (x5_1 == 1) = false := beq_eq_false_iff_ne.mpr c29
      have c29b1 : (x5_1 != 1) = true := bne_iff_ne.mpr c29
      obtain rfl := Option.some.inj H
      go_wp2_with (first | ((with_reducible refine gate_callee (f := 73) rfl ?_); refine goesL_ (some 108) rfl rfl Try.func73 (by kernel_rfl) rfl #[.int .i64 a0, .int .i64 1, .int .i64 4] rfl pwk_ ?_; (with_reducible refine (spec_l1In.calls a0 1 4 true _ A27.out).mono ?_); rintro e w' ⟨rfl, ⟨nd, rfl⟩⟩; refine ⟨_, rfl, ?_⟩))
      go_ret
      exact ⟨pwa_, by repeat (first | exact Drawn0.refl _ | apply Drawn0.step)⟩
    ·replace c28 := Bool.eq_false_iff.mpr c28
     subst c28
     have H1 : (some false) = some r := by rw [if_neg (show ¬ (false = true) by decide)] at H; exact H
     clear H
     have H := H1
     clear H1
     obtain rfl := Option.some.inj H
     go_wp2_with (first | ((with_reducible refine gate_callee (f := 73) rfl ?_); refine goesL_ (some 108) rfl rfl Try.func73 (by kernel_rfl) rfl #[.int .i64 a0, .int .i64 1, .int .i64 4] rfl pwk_ ?_; (with_reducible refine (spec_l1In.calls a0 1 4 false _ A27.out).mono ?_); rintro e w' ⟨rfl, ⟨nd, rfl⟩⟩; refine ⟨_, rfl, ?_⟩))
     go_ret
     exact ⟨pwa_, by repeat (first | exact Drawn0.refl _ | apply Drawn0.step)⟩

end Go.Proofs.Ytfhmafmfaoknlaa.PFnReadTerm
