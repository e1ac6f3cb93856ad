-- Made by a program of this session (wip/tools/patchprint.py), not by the kit itself.
import Derived.Test.YtfhmafmfaoknlaaPFnReadTermx0
import Derived.Test.YtfhmafmfaoknlaaPFnReadTermx8
import Derived.Test.YtfhmafmfaoknlaaPFnReadTermx7
namespace Go.Proofs.Ytfhmafmfaoknlaa.PFnReadTerm
open Go.RowKit Go.Proofs.YtfhmafmfaoknlaaW.PrintWords Go.Proofs.YtfhmafmfaoknlaaW.PrintLast Go.Proofs.YtfhmafmfaoknlaaW.PrintMore
attribute [local go_sem] max2_int min2_int max_two min_two max_three min_three max_four min_four   -- for this text's walks alone
set_option linter.unusedVariables false
set_option linter.unusedSimpArgs false

attribute [local go_sem] setCell_isSome
/-! ### impl_lastPart: function 97 -/
mutual
def impl_lastPart.l0 : Nat → List (S62) → Int → Int → Option (Int)
 | 0, _, _, _ => none
 | k + 1, x0, x3, x4 => if 0 ≤ x4 then (if x4 < (x0.length : Int) then (if ((rd_T62 x0 x4).f0) = 0 then (impl_lastPart.j1 k x0 x3 x4 ((rd_T62 x0 x4).f0) (((rd_T62 x0 x4).f0) == 0)) else (impl_lastPart.j1 k x0 x3 x4 ((rd_T62 x0 x4).f0) (((rd_T62 x0 x4).f0) == 1))) else (none)) else (none)
def impl_lastPart.j1 : Nat → List (S62) → Int → Int → Int → Bool → Option (Int)
 | 0, _, _, _, _, _ => none
 | k + 1, x0, x3, x4, x14, x15 => if x15 = true then (if (wrap64 (x3 - 1)) = 0 then (some x4) else (impl_lastPart.l0 k x0 (wrap64 (x3 - 1)) (wrap64 (x4 - 1)))) else (if x14 = 3 then (impl_lastPart.j2 k x0 x3 x4 (x14 == 3)) else (if x14 = 4 then (impl_lastPart.j2 k x0 x3 x4 (x14 == 4)) else (impl_lastPart.j2 k x0 x3 x4 (x14 == 5))))
def impl_lastPart.j2 : Nat → List (S62) → Int → Int → Bool → Option (Int)
 | 0, _, _, _, _ => none
 | k + 1, x0, x3, x4, x20 => if x20 = true then (if (wrap64 (x3 + 1)) = 0 then (some x4) else (impl_lastPart.l0 k x0 (wrap64 (x3 + 1)) (wrap64 (x4 - 1)))) else (if x3 = 0 then (some x4) else (impl_lastPart.l0 k x0 x3 (wrap64 (x4 - 1))))
end
def impl_lastPart.f (k : Nat) (l0 : List (S62)) : Option (Int) := impl_lastPart.l0 k l0 1 (wrap64 ((l0.length : Int) - 1))
theorem impl_lastPart.mono_l : ∀ k, (∀ y0 y1 y2, LeO (impl_lastPart.l0 k y0 y1 y2) (impl_lastPart.l0 (k + 1) y0 y1 y2)) ∧ (∀ y0 y1 y2 y3 y4, LeO (impl_lastPart.j1 k y0 y1 y2 y3 y4) (impl_lastPart.j1 (k + 1) y0 y1 y2 y3 y4)) ∧ (∀ y0 y1 y2 y3, LeO (impl_lastPart.j2 k y0 y1 y2 y3) (impl_lastPart.j2 (k + 1) y0 y1 y2 y3))
 | 0 => ⟨fun _ _ _ r h => by simp [impl_lastPart.l0] at h, fun _ _ _ _ _ r h => by simp [impl_lastPart.j1] at h, fun _ _ _ _ r h => by simp [impl_lastPart.j2] at h⟩
 | k + 1 => by
  obtain ⟨ih0, ih1, ih2⟩ := impl_lastPart.mono_l k
  refine ⟨?_, ?_, ?_⟩
  ·intro y0 y1 y2
   unfold impl_lastPart.l0
   repeat' first
   | (with_reducible exact ih0 _ _ _)
   | (with_reducible exact ih1 _ _ _ _ _)
   | (with_reducible exact ih2 _ _ _ _)
   | (with_reducible exact LeO.refl _)
   | (with_reducible exact LeO.none _)
   | (with_reducible refine LeO.ite ?_ ?_)
   | (with_reducible refine LeO.bind ?_ (fun _ => ?_))
   | exact ih0 _ _ _
   | exact ih1 _ _ _ _ _
   | exact ih2 _ _ _ _
   | exact LeO.none _
   | refine LeO.ite ?_ ?_
   | refine LeO.bind ?_ (fun _ => ?_)
  ·intro y0 y1 y2 y3 y4
   unfold impl_lastPart.j1
   repeat' first
   | (with_reducible exact ih0 _ _ _)
   | (with_reducible exact ih1 _ _ _ _ _)
   | (with_reducible exact ih2 _ _ _ _)
   | (with_reducible exact LeO.refl _)
   | (with_reducible exact LeO.none _)
   | (with_reducible refine LeO.ite ?_ ?_)
   | (with_reducible refine LeO.bind ?_ (fun _ => ?_))
   | exact ih0 _ _ _
   | exact ih1 _ _ _ _ _
   | exact ih2 _ _ _ _
   | exact LeO.none _
   | refine LeO.ite ?_ ?_
   | refine LeO.bind ?_ (fun _ => ?_)
  ·intro y0 y1 y2 y3
   unfold impl_lastPart.j2
   repeat' first
   | (with_reducible exact ih0 _ _ _)
   | (with_reducible exact ih1 _ _ _ _ _)
   | (with_reducible exact ih2 _ _ _ _)
   | (with_reducible exact LeO.refl _)
   | (with_reducible exact LeO.none _)
   | (with_reducible refine LeO.ite ?_ ?_)
   | (with_reducible refine LeO.bind ?_ (fun _ => ?_))
   | exact ih0 _ _ _
   | exact ih1 _ _ _ _ _
   | exact ih2 _ _ _ _
   | exact LeO.none _
   | refine LeO.ite ?_ ?_
   | refine LeO.bind ?_ (fun _ => ?_)
theorem impl_lastPart.mono : ∀ a0 k, LeO (impl_lastPart.f k a0) (impl_lastPart.f (k + 1) a0) := by
 intro a0 k
 obtain ⟨ih0, ih1, ih2⟩ := impl_lastPart.mono_l k
 unfold impl_lastPart.f
 repeat' first
   | (with_reducible exact ih0 _ _ _)
   | (with_reducible exact ih1 _ _ _ _ _)
   | (with_reducible exact ih2 _ _ _ _)
   | (with_reducible exact LeO.refl _)
   | (with_reducible exact LeO.none _)
   | (with_reducible refine LeO.ite ?_ ?_)
   | (with_reducible refine LeO.bind ?_ (fun _ => ?_))
   | exact ih0 _ _ _
   | exact ih1 _ _ _ _ _
   | exact ih2 _ _ _ _
   | exact LeO.none _
   | refine LeO.ite ?_ ?_
   | refine LeO.bind ?_ (fun _ => ?_)
set_option maxHeartbeats 8000000 in
set_option maxRecDepth 100000 in
theorem impl_lastPart.calls (k : Nat) (A0 : Option Addr) (c0 : Nat) (l0 : List (S62)) (r : Int) (w : World) (hr0 : Kd.C k62 w A0 l0.length l0) (hc0 : l0.length ≤ c0) (h : impl_lastPart.f k l0 = some r) :
  Calls Try.prog 97 #[.slice A0 l0.length c0] w fun e w' => e = .returned (.int .i64 r) ∧ Drawn0 w w' := by
 have HR0 := Aside0.mk hr0
 have HC0 := Aside0.mk hc0
 clear hr0 hc0
 have H : (impl_lastPart.l0 k l0 1 (wrap64 ((l0.length : Int) - 1))) = some r := h
 clear h
 have H' := Aside0.mk H
 clear H
 go_enter Try.func97, Try.ntmps97
 go_wp2
 go_loopg [3, 4] k (fun kq v3 v4 w' => ∃ (x3_1 : Int) (x4_1 : Int), v3 = .int .i64 x3_1 ∧ v4 = .int .i64 x4_1 ∧ Aside0 (impl_lastPart.l0 kq l0 x3_1 x4_1 = some r) ∧ Aside0 (kq ≤ k) ∧ Drawn0 w w')
 case atStart => exact ⟨(1), (wrap64 ((l0.length : Int) - 1)), pwa_, pwa_, H', ⟨Nat.le_refl _⟩, by repeat (first | exact Drawn0.refl _ | apply Drawn0.step)⟩
 case round =>
  clear H'
  obtain ⟨x3_1, x4_1, rfl, rfl, HA, HK1, ⟨m1, rfl⟩⟩ := hrel
  cases gk with
  | zero => exact absurd HA.out (by simp [impl_lastPart.l0])
  | succ k1 =>
   have H := HA.out
   clear HA
   simp only [impl_lastPart.l0] at H
   by_cases c2 : 0 ≤ x4_1
   ·rw [if_pos c2] at H
    have c2b0 : decide (0 ≤ x4_1) = true := decide_eq_true c2
    clear c2
    by_cases c3 : x4_1 < (l0.length : Int)
    ·rw [if_pos c3] at H
     have c3b0 : decide (x4_1 < (l0.length : Int)) = true := decide_eq_true c3
     clear c3
     have HC4 := Aside0.mk H
     clear H
     have p315 : 0 ≤ (x4_1 : Int) := of_decide_eq_true pwb_
     have q315 : x4_1 < (l0.length : Int) := of_decide_eq_true pwb_
     obtain ⟨ad315, e315, hx315_0, hx315_1⟩ := at_T62 HR0.out x4_1 p315 q315
     cases e315
     replace p315 := eq_true p315
     replace q315 := eq_true q315
     go_upto_if 15 with (fail)
     go_cut [15] (fun v15 wc => ∃ (kq : Nat) (x15_3 : Bool), v15 = .bool x15_3 ∧ Aside0 (impl_lastPart.j1 kq l0 x3_1 x4_1 ((rd_T62 l0 x4_1).f0) x15_3 = some r) ∧ Aside0 (kq ≤ k1) ∧ Drawn0 w wc)
     case first =>
      have H := HC4.out
      clear HC4
      by_cases c5 : ((rd_T62 l0 x4_1).f0) = 0
      ·rw [if_pos c5] at H
       have c5b0 : (((rd_T62 l0 x4_1).f0) == 0) = true := beq_iff_eq.mpr c5
       have c5b1 : (((rd_T62 l0 x4_1).f0) != 0) = false := bne_eq_false_iff_eq.mpr c5
       clear c5
       (first | rw [c5b0] | (simp only [i64_w, i32_w]; rw [c5b0]) | skip)
       have H' := Aside0.mk H
       clear H
       go_wp2
       go_meet
       case rel => exact ⟨_, ((((rd_T62 l0 x4_1).f0) == 0)), pwa_, H', ⟨by have := HK1.out; first | omega | exact Nat.le_refl _⟩, by repeat (first | exact Drawn0.refl _ | apply Drawn0.step)⟩
      ·rw [if_neg c5] at H
       have c5b0 : (((rd_T62 l0 x4_1).f0) == 0) = false := beq_eq_false_iff_ne.mpr c5
       have c5b1 : (((rd_T62 l0 x4_1).f0) != 0) = true := bne_iff_ne.mpr c5
       (first | rw [c5b0] | (simp only [i64_w, i32_w]; rw [c5b0]) | skip)
       have H' := Aside0.mk H
       clear H
       go_wp2
       go_meet
       case rel => exact ⟨_, ((((rd_T62 l0 x4_1).f0) == 1)), pwa_, H', ⟨by have := HK1.out; first | omega | exact Nat.le_refl _⟩, by repeat (first | exact Drawn0.refl _ | apply Drawn0.step)⟩
     case rest =>
      clear HC4
      try clear c2
      try clear c2b0
      try clear p2
      try clear c3
      try clear c3b0
      try clear p3
      try clear q3
      try clear hx3
      try clear c5
      try clear c5b0
      try clear c5b1
      try clear hx315_0
      try clear hx315_1
      try clear p315
      try clear q315
      obtain ⟨kq, x15_3, rfl, HA, HJ3, ⟨mc3, rfl⟩⟩ := hcut
      cases kq with
      | zero => exact absurd HA.out (by simp [impl_lastPart.j1])
      | succ kj3 =>
       have H := HA.out
       clear HA
       simp only [impl_lastPart.j1] at H
       by_cases c6 : x15_3 = true
       ·subst c6
        have H1 : (if (wrap64 (x3_1 - 1)) = 0 then (some x4_1) else (impl_lastPart.l0 kj3 l0 (wrap64 (x3_1 - 1)) (wrap64 (x4_1 - 1)))) = some r := by rw [if_pos rfl] at H; exact H
        clear H
        have H := H1
        clear H1
        by_cases c7 : (wrap64 (x3_1 - 1)) = 0
        ·rw [if_pos c7] at H
         have c7b0 : ((wrap64 (x3_1 - 1)) == 0) = true := beq_iff_eq.mpr c7
         have c7b1 : ((wrap64 (x3_1 - 1)) != 0) = false := bne_eq_false_iff_eq.mpr c7
         clear c7
         obtain rfl := Option.some.inj H
         go_wp2
         go_ret
         exact ⟨pwa_, by repeat (first | exact Drawn0.refl _ | apply Drawn0.step)⟩
        ·rw [if_neg c7] at H
         have c7b0 : ((wrap64 (x3_1 - 1)) == 0) = false := beq_eq_false_iff_ne.mpr c7
         have c7b1 : ((wrap64 (x3_1 - 1)) != 0) = true := bne_iff_ne.mpr c7
         have H' := Aside0.mk H
         clear H
         go_wp2
         go_roundg kj3
         case measure => have := HK1.out; have := HJ3.out; omega
         case rel => exact ⟨(wrap64 (x3_1 - 1)), (wrap64 (x4_1 - 1)), pwa_, pwa_, H', ⟨by have := HK1.out; have := HJ3.out; omega⟩, by repeat (first | exact Drawn0.refl _ | apply Drawn0.step)⟩
       ·replace c6 := Bool.eq_false_iff.mpr c6
        subst c6
        have H1 : (if ((rd_T62 l0 x4_1).f0) = 3 then (impl_lastPart.j2 kj3 l0 x3_1 x4_1 (((rd_T62 l0 x4_1).f0) == 3)) else (if ((rd_T62 l0 x4_1).f0) = 4 then (impl_lastPart.j2 kj3 l0 x3_1 x4_1 (((rd_T62 l0 x4_1).f0) == 4)) else (impl_lastPart.j2 kj3 l0 x3_1 x4_1 (((rd_T62 l0 x4_1).f0) == 5)))) = some r := by rw [if_neg (show ¬ (false = true) by decide)] at H; exact H
        clear H
        have H := H1
        clear H1
        have HC8 := Aside0.mk H
        clear H
        go_upto_if 20 with (fail)
        go_cut [20] (fun v20 wc => ∃ (kq : Nat) (x20_7 : Bool), v20 = .bool x20_7 ∧ Aside0 (impl_lastPart.j2 kq l0 x3_1 x4_1 x20_7 = some r) ∧ Aside0 (kq ≤ kj3) ∧ Drawn0 w wc)
        case first =>
         have H := HC8.out
         clear HC8
         by_cases c9 : ((rd_T62 l0 x4_1).f0) = 3
         ·rw [if_pos c9] at H
          have c9b0 : (((rd_T62 l0 x4_1).f0) == 3) = true := beq_iff_eq.mpr c9
          have c9b1 : (((rd_T62 l0 x4_1).f0) != 3) = false := bne_eq_false_iff_eq.mpr c9
          clear c9
          (first | rw [c9b0] | (simp only [i64_w, i32_w]; rw [c9b0]) | skip)
          have H' := Aside0.mk H
          clear H
          go_wp2
          go_meet
          case rel => exact ⟨_, ((((rd_T62 l0 x4_1).f0) == 3)), pwa_, H', ⟨by have := HK1.out; have := HJ3.out; first | omega | exact Nat.le_refl _⟩, by repeat (first | exact Drawn0.refl _ | apply Drawn0.step)⟩
         ·rw [if_neg c9] at H
          have c9b0 : (((rd_T62 l0 x4_1).f0) == 3) = false := beq_eq_false_iff_ne.mpr c9
          have c9b1 : (((rd_T62 l0 x4_1).f0) != 3) = true := bne_iff_ne.mpr c9
          (first | rw [c9b0] | (simp only [i64_w, i32_w]; rw [c9b0]) | skip)
          by_cases c10 : ((rd_T62 l0 x4_1).f0) = 4
          ·rw [if_pos c10] at H
           have c10b0 : (((rd_T62 l0 x4_1).f0) == 4) = true := beq_iff_eq.mpr c10
           have c10b1 : (((rd_T62 l0 x4_1).f0) != 4) = false := bne_eq_false_iff_eq.mpr c10
           clear c10
           have H' := Aside0.mk H
           clear H
           go_wp2
           go_meet
           case rel => exact ⟨_, ((((rd_T62 l0 x4_1).f0) == 4)), pwa_, H', ⟨by have := HK1.out; have := HJ3.out; first | omega | exact Nat.le_refl _⟩, by repeat (first | exact Drawn0.refl _ | apply Drawn0.step)⟩
          ·rw [if_neg c10] at H
           have c10b0 : (((rd_T62 l0 x4_1).f0) == 4) = false := beq_eq_false_iff_ne.mpr c10
           have c10b1 : (((rd_T62 l0 x4_1).f0) != 4) = true := bne_iff_ne.mpr c10
           have H' := Aside0.mk H
           clear H
           go_wp2
           go_meet
           case rel => exact ⟨_, ((((rd_T62 l0 x4_1).f0) == 5)), pwa_, H', ⟨by have := HK1.out; have := HJ3.out; first | omega | exact Nat.le_refl _⟩, by repeat (first | exact Drawn0.refl _ | apply Drawn0.step)⟩
        case rest =>
         clear HC8
         try clear c1
         try clear c2
         try clear c2b0
         try clear p2
         try clear c3
         try clear c3b0
         try clear p3
         try clear q3
         try clear hx3
         try clear c5
         try clear c5b0
         try clear c5b1
         try clear c6
         try clear p6
         try clear c7
         try clear c7b0
         try clear c7b1
         try clear c9
         try clear c9b0
         try clear c9b1
         try clear c10
         try clear c10b0
         try clear c10b1
         try clear hx315_0
         try clear hx315_1
         try clear p2
         try clear p3
         try clear p315
         try clear q3
         try clear q315
         obtain ⟨kq, x20_7, rfl, HA, HJ7, ⟨mc7, rfl⟩⟩ := hcut
         cases kq with
         | zero => exact absurd HA.out (by simp [impl_lastPart.j2])
         | succ kj7 =>
          have H := HA.out
          clear HA
          simp only [impl_lastPart.j2] at H
          by_cases c11 : x20_7 = true
          ·subst c11
           have H1 : (if (wrap64 (x3_1 + 1)) = 0 then (some x4_1) else (impl_lastPart.l0 kj7 l0 (wrap64 (x3_1 + 1)) (wrap64 (x4_1 - 1)))) = some r := by rw [if_pos rfl] at H; exact H
           clear H
           have H := H1
           clear H1
           by_cases c12 : (wrap64 (x3_1 + 1)) = 0
           ·rw [if_pos c12] at H
            have c12b0 : ((wrap64 (x3_1 + 1)) == 0) = true := beq_iff_eq.mpr c12
            have c12b1 : ((wrap64 (x3_1 + 1)) != 0) = false := bne_eq_false_iff_eq.mpr c12
            clear c12
            obtain rfl := Option.some.inj H
            go_wp2
            go_ret
            exact ⟨pwa_, by repeat (first | exact Drawn0.refl _ | apply Drawn0.step)⟩
           ·rw [if_neg c12] at H
            have c12b0 : ((wrap64 (x3_1 + 1)) == 0) = false := beq_eq_false_iff_ne.mpr c12
            have c12b1 : ((wrap64 (x3_1 + 1)) != 0) = true := bne_iff_ne.mpr c12
            have H' := Aside0.mk H
            clear H
            go_wp2
            go_roundg kj7
            case measure => have := HK1.out; have := HJ3.out; have := HJ7.out; omega
            case rel => exact ⟨(wrap64 (x3_1 + 1)), (wrap64 (x4_1 - 1)), pwa_, pwa_, H', ⟨by have := HK1.out; have := HJ3.out; have := HJ7.out; omega⟩, by repeat (first | exact Drawn0.refl _ | apply Drawn0.step)⟩
          ·replace c11 := Bool.eq_false_iff.mpr c11
           subst c11
           have H1 : (if x3_1 = 0 then (some x4_1) else (impl_lastPart.l0 kj7 l0 x3_1 (wrap64 (x4_1 - 1)))) = some r := by rw [if_neg (show ¬ (false = true) by decide)] at H; exact H
           clear H
           have H := H1
           clear H1
           by_cases c13 : x3_1 = 0
           ·rw [if_pos c13] at H
            have c13b0 : (x3_1 == 0) = true := beq_iff_eq.mpr c13
            have c13b1 : (x3_1 != 0) = false := bne_eq_false_iff_eq.mpr c13
            clear c13
            obtain rfl := Option.some.inj H
            go_wp2
            go_ret
            exact ⟨pwa_, by repeat (first | exact Drawn0.refl _ | apply Drawn0.step)⟩
           ·rw [if_neg c13] at H
            have c13b0 : (x3_1 == 0) = false := beq_eq_false_iff_ne.mpr c13
            have c13b1 : (x3_1 != 0) = true := bne_iff_ne.mpr c13
            have H' := Aside0.mk H
            clear H
            go_wp2
            go_roundg kj7
            case measure => have := HK1.out; have := HJ3.out; have := HJ7.out; omega
            case rel => exact ⟨(x3_1), (wrap64 (x4_1 - 1)), pwa_, pwa_, H', ⟨by have := HK1.out; have := HJ3.out; have := HJ7.out; omega⟩, by repeat (first | exact Drawn0.refl _ | apply Drawn0.step)⟩
    ·rw [if_neg c3] at H
     exact absurd H (by simp)
   ·rw [if_neg c2] at H
    exact absurd H (by simp)


/-! ### impl_held, impl_textOf, which call each other -/
mutual
def impl_held.l0 : Nat → List (S62) → ByteArray → List Int → Int → Int → Option (ByteArray)
 | 0, _, _, _, _, _ => none
 | k + 1, x0, x5, x10, x11, x12 => if x12 < x11 then (if 0 ≤ x12 then (if x12 < (x10.length : Int) then (if 0 ≤ (wrap64 ((x0.length : Int) - 1)) then (if (wrap64 ((x0.length : Int) - 1)) < (x0.length : Int) then (if ((rd_T62 x0 (wrap64 ((x0.length : Int) - 1))).f0) = (rd x10 x12) then (if 1 + x5.size ≤ 9223372036854775807 then (if ((⟨#[40]⟩ : ByteArray) ++ x5).size + 1 ≤ 9223372036854775807 then (some (((⟨#[40]⟩ : ByteArray) ++ x5) ++ (⟨#[41]⟩ : ByteArray))) else (none)) else (none)) else (impl_held.l0 k x0 x5 x10 x11 (wrap64 (x12 + 1)))) else (none)) else (none)) else (none)) else (none)) else (some x5)
def impl_held.f : Nat → List (S62) → List Int → Option (ByteArray)
 | 0, _, _ => none
 | k + 1, l0, l1 => (impl_textOf.f k l0).bind fun t312 => (impl_held.l0 k l0 t312 l1 (l1.length : Int) 0)
def impl_textOf.f : Nat → List (S62) → Option (ByteArray)
 | 0, _ => none
 | k + 1, l0 => if 0 ≤ (wrap64 ((l0.length : Int) - 1)) then (if (wrap64 ((l0.length : Int) - 1)) < (l0.length : Int) then (if ((rd_T62 l0 (wrap64 ((l0.length : Int) - 1))).f0) = 0 then (some (strOfNums (([(wrap64 (97 + ((rd_T62 l0 (wrap64 ((l0.length : Int) - 1))).f1))) % 256] : List Int)))) else (if ((rd_T62 l0 (wrap64 ((l0.length : Int) - 1))).f0) = 1 then (some (strOfNums (([(wrap64 (48 + ((rd_T62 l0 (wrap64 ((l0.length : Int) - 1))).f1))) % 256] : List Int)))) else (if ((rd_T62 l0 (wrap64 ((l0.length : Int) - 1))).f0) = 2 then (if (wrap64 ((l0.length : Int) - 1)) ≤ (l0.length : Int) then ((impl_held.f k (l0.take ((wrap64 ((l0.length : Int) - 1)) : Int).toNat) (([3, 4, 5] : List Int))).bind fun t331 => (if 1 + t331.size ≤ 9223372036854775807 then (some ((⟨#[33]⟩ : ByteArray) ++ t331)) else (none))) else (none)) else (if (wrap64 ((l0.length : Int) - 1)) ≤ (l0.length : Int) then ((impl_lastPart.f k (l0.take ((wrap64 ((l0.length : Int) - 1)) : Int).toNat)).bind fun t336 => (if 0 ≤ t336 then (if t336 ≤ (l0.length : Int) then ((some (l0.take (t336 : Int).toNat : List (S62))).bind fun y337 => (if t336 ≤ (wrap64 ((l0.length : Int) - 1)) then ((some ((l0.take ((wrap64 ((l0.length : Int) - 1)) : Int).toNat).drop (t336 : Int).toNat : List (S62))).bind fun y341 => (if ((rd_T62 l0 (wrap64 ((l0.length : Int) - 1))).f0) = 3 then ((impl_held.f k y337 (([4, 5] : List Int))).bind fun t348 => (if t348.size + 1 ≤ 9223372036854775807 then ((impl_held.f k y341 (([3, 4, 5] : List Int))).bind fun t352 => (if (t348 ++ (⟨#[38]⟩ : ByteArray)).size + t352.size ≤ 9223372036854775807 then (some ((t348 ++ (⟨#[38]⟩ : ByteArray)) ++ t352)) else (none))) else (none))) else (if ((rd_T62 l0 (wrap64 ((l0.length : Int) - 1))).f0) = 4 then ((impl_held.f k y337 (([5] : List Int))).bind fun t356 => (if t356.size + 1 ≤ 9223372036854775807 then ((impl_held.f k y341 (([4, 5] : List Int))).bind fun t360 => (if (t356 ++ (⟨#[124]⟩ : ByteArray)).size + t360.size ≤ 9223372036854775807 then (some ((t356 ++ (⟨#[124]⟩ : ByteArray)) ++ t360)) else (none))) else (none))) else ((impl_textOf.f k y337).bind fun t361 => (if t361.size + 1 ≤ 9223372036854775807 then ((impl_held.f k y341 (([5] : List Int))).bind fun t365 => (if (t361 ++ (⟨#[61]⟩ : ByteArray)).size + t365.size ≤ 9223372036854775807 then (some ((t361 ++ (⟨#[61]⟩ : ByteArray)) ++ t365)) else (none))) else (none)))))) else (none))) else (none)) else (none))) else (none))))) else (none)) else (none)
end
theorem textOf_held_c.mono_l : ∀ k, ((∀ y0 y1, LeO (impl_held.f k y0 y1) (impl_held.f (k + 1) y0 y1)) ∧ (∀ y0 y1 y2 y3 y4, LeO (impl_held.l0 k y0 y1 y2 y3 y4) (impl_held.l0 (k + 1) y0 y1 y2 y3 y4))) ∧ ((∀ y0, LeO (impl_textOf.f k y0) (impl_textOf.f (k + 1) y0)))
 | 0 => ⟨⟨fun _ _ r h => by simp [impl_held.f] at h, fun _ _ _ _ _ r h => by simp [impl_held.l0] at h⟩, fun _ r h => by simp [impl_textOf.f] at h⟩
 | k + 1 => by
  obtain ⟨g0_, g1_⟩ := textOf_held_c.mono_l k
  refine ⟨?_, ?_⟩
  case refine_1 =>
   obtain ⟨ih0, ih1⟩ := g0_
   refine ⟨?_, ?_⟩
   ·intro y0 y1
    unfold impl_held.f
    repeat' first
    | (with_reducible exact ih0 _ _)
    | (with_reducible exact ih1 _ _ _ _ _)
    | (with_reducible exact g1_ _)
    | (with_reducible exact LeO.refl _)
    | (with_reducible exact LeO.none _)
    | (with_reducible refine LeO.ite ?_ ?_)
    | (with_reducible refine LeO.bind ?_ (fun _ => ?_))
    | exact ih0 _ _
    | exact ih1 _ _ _ _ _
    | exact g1_ _
    | exact LeO.none _
    | refine LeO.ite ?_ ?_
    | refine LeO.bind ?_ (fun _ => ?_)
   ·intro y0 y1 y2 y3 y4
    unfold impl_held.l0
    repeat' first
    | (with_reducible exact ih0 _ _)
    | (with_reducible exact ih1 _ _ _ _ _)
    | (with_reducible exact g1_ _)
    | (with_reducible exact LeO.refl _)
    | (with_reducible exact LeO.none _)
    | (with_reducible refine LeO.ite ?_ ?_)
    | (with_reducible refine LeO.bind ?_ (fun _ => ?_))
    | exact ih0 _ _
    | exact ih1 _ _ _ _ _
    | exact g1_ _
    | exact LeO.none _
    | refine LeO.ite ?_ ?_
    | refine LeO.bind ?_ (fun _ => ?_)
  case refine_2 =>
   have ih0 := g1_
   ·intro y0
    unfold impl_textOf.f
    repeat' first
    | (with_reducible exact ih0 _)
    | (with_reducible exact g0_.1 _ _)
    | (with_reducible exact impl_lastPart.mono _ _)
    | (with_reducible exact LeO.refl _)
    | (with_reducible exact LeO.none _)
    | (with_reducible refine LeO.ite ?_ ?_)
    | (with_reducible refine LeO.bind ?_ (fun _ => ?_))
    | exact ih0 _
    | exact g0_.1 _ _
    | exact impl_lastPart.mono _ _
    | exact LeO.none _
    | refine LeO.ite ?_ ?_
    | refine LeO.bind ?_ (fun _ => ?_)
theorem impl_held.mono : ∀ a0 a1 k, LeO (impl_held.f k a0 a1) (impl_held.f (k + 1) a0 a1) := by
 intro a0 a1 k
 obtain ⟨ih0, ih1⟩ := (textOf_held_c.mono_l k).1
 exact ih0 a0 a1
theorem impl_textOf.mono : ∀ a0 k, LeO (impl_textOf.f k a0) (impl_textOf.f (k + 1) a0) := by
 intro a0 k
 have ih0 := (textOf_held_c.mono_l k).2
 exact ih0 a0
set_option maxHeartbeats 8000000 in
set_option maxRecDepth 100000 in
theorem impl_held.step (k : Nat) (h0_ : ∀ m_, m_ < k → ∀ (A0 : Option Addr) (c0 : Nat) (l0 : List (S62)) (A1 : Option Addr) (c1 : Nat) (l1 : List Int) (r : ByteArray) (w : World) (hr0 : Kd.C k62 w A0 l0.length l0) (hc0 : l0.length ≤ c0) (hr1 : Kd.C (Kd.int .i64) w A1 l1.length l1) (hc1 : l1.length ≤ c1) (h : impl_held.f m_ l0 l1 = some r),
  Calls Try.prog 96 #[.slice A0 l0.length c0, .slice A1 l1.length c1] w fun e w' => e = .returned (.string r) ∧ Below w.heap.size w w') (h1_ : ∀ m_, m_ < k → ∀ (A0 : Option Addr) (c0 : Nat) (l0 : List (S62)) (r : ByteArray) (w : World) (hr0 : Kd.C k62 w A0 l0.length l0) (hc0 : l0.length ≤ c0) (h : impl_textOf.f m_ l0 = some r),
  Calls Try.prog 68 #[.slice A0 l0.length c0] w fun e w' => e = .returned (.string r) ∧ Below w.heap.size w w') : ∀ (A0 : Option Addr) (c0 : Nat) (l0 : List (S62)) (A1 : Option Addr) (c1 : Nat) (l1 : List Int) (r : ByteArray) (w : World) (hr0 : Kd.C k62 w A0 l0.length l0) (hc0 : l0.length ≤ c0) (hr1 : Kd.C (Kd.int .i64) w A1 l1.length l1) (hc1 : l1.length ≤ c1) (h : impl_held.f k l0 l1 = some r),
  Calls Try.prog 96 #[.slice A0 l0.length c0, .slice A1 l1.length c1] w fun e w' => e = .returned (.string r) ∧ Below w.heap.size w w' := by
 have ih := h0_
 intro A0 c0 l0 A1 c1 l1 r w hr0 hc0 hr1 hc1 h
 cases k with
 | zero => exact absurd h (by simp [impl_held.f])
 | succ k =>
 simp only [impl_held.f] at h
 have HR0 := Aside0.mk hr0
 have HC0 := Aside0.mk hc0
 clear hr0 hc0
 have HR1 := Aside0.mk hr1
 have HC1 := Aside0.mk hc1
 clear hr1 hc1
 have HB := Aside0.mk (Below.refl w.heap.size w)
 have H : ((impl_textOf.f k l0).bind fun t312 => (impl_held.l0 k l0 t312 l1 (l1.length : Int) 0)) = some r := h
 clear h
 replace H := Option.bind_eq_some_iff.mp H
 obtain ⟨t312, A30, H⟩ := H
 replace H : (impl_held.l0 k l0 t312 l1 (l1.length : Int) 0) = some r := H
 have A3 := Aside0.mk A30
 clear A30
 have H' := Aside0.mk H
 clear H
 go_enter Try.func96, Try.ntmps96
 go_wp2_with (first | ((with_reducible refine gate_callee (f := 68) rfl ?_); refine goesL_ (some 9) rfl rfl Try.func68 (by kernel_rfl) rfl #[.slice A0 l0.length c0] rfl pwk_ ?_; (with_reducible refine (h1_ k (by omega) _ _ l0 t312 _ ?side1 ?side2 A3.out).mono ?_); (case side1 => repeat (first | exact HR0.out | (with_reducible refine Kd.C_alloc ?_ _) | (with_reducible refine Kd.C_drewN ?_ _) | (with_reducible refine Kd.C_drew ?_))); (case side2 => exact HC0.out); rintro e w4 ⟨rfl, hb⟩; refine ⟨_, rfl, ?_⟩; have n0_ := Aside0.mk (below_step pwi_ hb); clear HB; have HB := n0_; clear n0_; (try clear hb); (try clear hb2); (try clear hk); (try clear hi)))
 go_loopg [12] k (fun kq v12 w' => ∃ (x12_1 : Int), v12 = .int .i64 x12_1 ∧ Aside0 (impl_held.l0 kq l0 t312 l1 (l1.length : Int) x12_1 = some r) ∧ Aside0 (kq ≤ k) ∧ Aside0 (Below w.heap.size w w'))
 case atStart => exact ⟨(0), pwa_, H', ⟨Nat.le_refl _⟩, ⟨pwi_⟩⟩
 case round =>
  clear H'
  try clear c1
  try clear p2
  obtain ⟨x12_1, rfl, HA, HK1, HB⟩ := hrel
  cases gk with
  | zero => exact absurd HA.out (by simp [impl_held.l0])
  | succ k1 =>
   have H := HA.out
   clear HA
   simp only [impl_held.l0] at H
   by_cases c5 : x12_1 < (l1.length : Int)
   ·rw [if_pos c5] at H
    have c5b0 : decide (x12_1 < (l1.length : Int)) = true := decide_eq_true c5
    clear c5
    by_cases c6 : 0 ≤ x12_1
    ·rw [if_pos c6] at H
     have c6b0 : decide (0 ≤ x12_1) = true := decide_eq_true c6
     clear c6
     by_cases c7 : x12_1 < (l1.length : Int)
     ·rw [if_pos c7] at H
      have c7b0 : decide (x12_1 < (l1.length : Int)) = true := decide_eq_true c7
      clear c7
      obtain ⟨ji8, hji8⟩ : ∃ j_ : Int, (wrap64 ((l0.length : Int) - 1)) = j_ := ⟨_, rfl⟩
      replace H : (if 0 ≤ (ji8) then (if (ji8) < (l0.length : Int) then (if ((rd_T62 l0 (ji8)).f0) = (rd l1 x12_1) then (if 1 + t312.size ≤ 9223372036854775807 then (if ((⟨#[40]⟩ : ByteArray) ++ t312).size + 1 ≤ 9223372036854775807 then (some (((⟨#[40]⟩ : ByteArray) ++ t312) ++ (⟨#[41]⟩ : ByteArray))) else (none)) else (none)) else (impl_held.l0 k1 l0 t312 l1 (l1.length : Int) (wrap64 (x12_1 + 1)))) else (none)) else (none)) = some r := by first | (rw [hji8] at H; exact H) | (simp only [hji8] at H ⊢; exact H)
      have hji8w : (IntKind.i64.wrap ((l0.length : Int) - 1)) = ji8 := (i64_w _).trans hji8
      by_cases c9 : 0 ≤ (ji8)
      ·rw [if_pos c9] at H
       have c9b0 : decide (0 ≤ (ji8)) = true := decide_eq_true c9
       clear c9
       by_cases c10 : (ji8) < (l0.length : Int)
       ·rw [if_pos c10] at H
        have c10b0 : decide ((ji8) < (l0.length : Int)) = true := decide_eq_true c10
        clear c10
        by_cases c11 : ((rd_T62 l0 (ji8)).f0) = (rd l1 x12_1)
        ·rw [if_pos c11] at H
         have c11b0 : (((rd_T62 l0 (ji8)).f0) == (rd l1 x12_1)) = true := beq_iff_eq.mpr c11
         have c11b1 : (((rd_T62 l0 (ji8)).f0) != (rd l1 x12_1)) = false := bne_eq_false_iff_eq.mpr c11
         clear c11
         by_cases c12 : 1 + t312.size ≤ 9223372036854775807
         ·rw [if_pos c12] at H
          have c12b0 := eq_true c12
          have c12b1 : decide (1 + t312.size ≤ 9223372036854775807) = true := decide_eq_true c12
          try have c12b2 : (9223372036854775807 < 1 + t312.size) = False := eq_false (Nat.not_lt.2 c12)
          by_cases c13 : ((⟨#[40]⟩ : ByteArray) ++ t312).size + 1 ≤ 9223372036854775807
          ·rw [if_pos c13] at H
           have c13b0 := eq_true c13
           have c13b1 : decide (((⟨#[40]⟩ : ByteArray) ++ t312).size + 1 ≤ 9223372036854775807) = true := decide_eq_true c13
           try have c13b2 : (9223372036854775807 < ((⟨#[40]⟩ : ByteArray) ++ t312).size + 1) = False := eq_false (Nat.not_lt.2 c13)
           try have c13b3 : (9223372036854775807 < 1 + t312.size + 1) = False := eq_false (by have z_ := c13; simp only [ByteArray.size_append] at z_; have e0_ : (⟨#[40]⟩ : ByteArray).size = 1 := rfl; omega)
           obtain rfl := Option.some.inj H
           have p313 : 0 ≤ (x12_1 : Int) := of_decide_eq_true pwb_
           have q313 : x12_1 < (l1.length : Int) := of_decide_eq_true pwb_
           obtain ⟨ad313, e313, hx313_0⟩ := Kd.at_int HR1.out x12_1 p313 q313
           cases e313
           replace hx313_0 := (HB.out.cell (World.block_lt_of_cell? w _ hx313_0)).trans hx313_0
           replace p313 := eq_true p313
           replace q313 := eq_true q313
           have p314 : 0 ≤ ((ji8) : Int) := of_decide_eq_true pwb_
           have q314 : (ji8) < (l0.length : Int) := of_decide_eq_true pwb_
           obtain ⟨ad314, e314, hx314_0, hx314_1⟩ := at_T62 HR0.out (ji8) p314 q314
           cases e314
           replace hx314_0 := (HB.out.cell (World.block_lt_of_cell? w _ hx314_0)).trans hx314_0
           replace hx314_1 := (HB.out.cell (World.block_lt_of_cell? w _ hx314_1)).trans hx314_1
           replace p314 := eq_true p314
           replace q314 := eq_true q314
           go_wp2
           go_ret
           exact ⟨by first | rfl | (simp [errW_none, errW_some] <;> rfl) | (simp only [← hji8]; first | rfl | (simp [errW_none, errW_some] <;> rfl)) | (simp [*, errW_none, errW_some] <;> rfl), pwi_⟩
          ·rw [if_neg c13] at H
           exact absurd H (by simp)
         ·rw [if_neg c12] at H
          exact absurd H (by simp)
        ·rw [if_neg c11] at H
         have c11b0 : (((rd_T62 l0 (ji8)).f0) == (rd l1 x12_1)) = false := beq_eq_false_iff_ne.mpr c11
         have c11b1 : (((rd_T62 l0 (ji8)).f0) != (rd l1 x12_1)) = true := bne_iff_ne.mpr c11
         have H' := Aside0.mk H
         clear H
         have p313 : 0 ≤ (x12_1 : Int) := of_decide_eq_true pwb_
         have q313 : x12_1 < (l1.length : Int) := of_decide_eq_true pwb_
         obtain ⟨ad313, e313, hx313_0⟩ := Kd.at_int HR1.out x12_1 p313 q313
         cases e313
         replace hx313_0 := (HB.out.cell (World.block_lt_of_cell? w _ hx313_0)).trans hx313_0
         replace p313 := eq_true p313
         replace q313 := eq_true q313
         have p314 : 0 ≤ ((ji8) : Int) := of_decide_eq_true pwb_
         have q314 : (ji8) < (l0.length : Int) := of_decide_eq_true pwb_
         obtain ⟨ad314, e314, hx314_0, hx314_1⟩ := at_T62 HR0.out (ji8) p314 q314
         cases e314
         replace hx314_0 := (HB.out.cell (World.block_lt_of_cell? w _ hx314_0)).trans hx314_0
         replace hx314_1 := (HB.out.cell (World.block_lt_of_cell? w _ hx314_1)).trans hx314_1
         replace p314 := eq_true p314
         replace q314 := eq_true q314
         go_wp2
         go_roundg k1
         case measure => have := HK1.out; omega
         case rel => exact ⟨(wrap64 (x12_1 + 1)), pwa_, H', ⟨by have := HK1.out; omega⟩, ⟨pwi_⟩⟩
       ·rw [if_neg c10] at H
        exact absurd H (by simp)
      ·rw [if_neg c9] at H
       exact absurd H (by simp)
     ·rw [if_neg c7] at H
      exact absurd H (by simp)
    ·rw [if_neg c6] at H
     exact absurd H (by simp)
   ·rw [if_neg c5] at H
    have c5b0 : decide (x12_1 < (l1.length : Int)) = false := decide_eq_false c5
    clear c5
    obtain rfl := Option.some.inj H
    go_wp2
    go_ret
    exact ⟨by first | rfl | (simp [errW_none, errW_some] <;> rfl) | (simp [*, errW_none, errW_some] <;> rfl), pwi_⟩
set_option maxHeartbeats 8000000 in
set_option maxRecDepth 100000 in
theorem impl_textOf.step (k : Nat) (h0_ : ∀ m_, m_ < k → ∀ (A0 : Option Addr) (c0 : Nat) (l0 : List (S62)) (A1 : Option Addr) (c1 : Nat) (l1 : List Int) (r : ByteArray) (w : World) (hr0 : Kd.C k62 w A0 l0.length l0) (hc0 : l0.length ≤ c0) (hr1 : Kd.C (Kd.int .i64) w A1 l1.length l1) (hc1 : l1.length ≤ c1) (h : impl_held.f m_ l0 l1 = some r),
  Calls Try.prog 96 #[.slice A0 l0.length c0, .slice A1 l1.length c1] w fun e w' => e = .returned (.string r) ∧ Below w.heap.size w w') (h1_ : ∀ m_, m_ < k → ∀ (A0 : Option Addr) (c0 : Nat) (l0 : List (S62)) (r : ByteArray) (w : World) (hr0 : Kd.C k62 w A0 l0.length l0) (hc0 : l0.length ≤ c0) (h : impl_textOf.f m_ l0 = some r),
  Calls Try.prog 68 #[.slice A0 l0.length c0] w fun e w' => e = .returned (.string r) ∧ Below w.heap.size w w') : ∀ (A0 : Option Addr) (c0 : Nat) (l0 : List (S62)) (r : ByteArray) (w : World) (hr0 : Kd.C k62 w A0 l0.length l0) (hc0 : l0.length ≤ c0) (h : impl_textOf.f k l0 = some r),
  Calls Try.prog 68 #[.slice A0 l0.length c0] w fun e w' => e = .returned (.string r) ∧ Below w.heap.size w w' := by
 have ih := h1_
 intro A0 c0 l0 r w hr0 hc0 h
 cases k with
 | zero => exact absurd h (by simp [impl_textOf.f])
 | succ k =>
 simp only [impl_textOf.f] at h
 have hu62 := Try.underlying62
 have HR0 := Aside0.mk hr0
 have HC0 := Aside0.mk hc0
 clear hr0 hc0
 have HB := Aside0.mk (Below.refl w.heap.size w)
 have H : (if 0 ≤ (wrap64 ((l0.length : Int) - 1)) then (if (wrap64 ((l0.length : Int) - 1)) < (l0.length : Int) then (if ((rd_T62 l0 (wrap64 ((l0.length : Int) - 1))).f0) = 0 then (some (strOfNums (([(wrap64 (97 + ((rd_T62 l0 (wrap64 ((l0.length : Int) - 1))).f1))) % 256] : List Int)))) else (if ((rd_T62 l0 (wrap64 ((l0.length : Int) - 1))).f0) = 1 then (some (strOfNums (([(wrap64 (48 + ((rd_T62 l0 (wrap64 ((l0.length : Int) - 1))).f1))) % 256] : List Int)))) else (if ((rd_T62 l0 (wrap64 ((l0.length : Int) - 1))).f0) = 2 then (if (wrap64 ((l0.length : Int) - 1)) ≤ (l0.length : Int) then ((impl_held.f k (l0.take ((wrap64 ((l0.length : Int) - 1)) : Int).toNat) (([3, 4, 5] : List Int))).bind fun t331 => (if 1 + t331.size ≤ 9223372036854775807 then (some ((⟨#[33]⟩ : ByteArray) ++ t331)) else (none))) else (none)) else (if (wrap64 ((l0.length : Int) - 1)) ≤ (l0.length : Int) then ((impl_lastPart.f k (l0.take ((wrap64 ((l0.length : Int) - 1)) : Int).toNat)).bind fun t336 => (if 0 ≤ t336 then (if t336 ≤ (l0.length : Int) then ((some (l0.take (t336 : Int).toNat : List (S62))).bind fun y337 => (if t336 ≤ (wrap64 ((l0.length : Int) - 1)) then ((some ((l0.take ((wrap64 ((l0.length : Int) - 1)) : Int).toNat).drop (t336 : Int).toNat : List (S62))).bind fun y341 => (if ((rd_T62 l0 (wrap64 ((l0.length : Int) - 1))).f0) = 3 then ((impl_held.f k y337 (([4, 5] : List Int))).bind fun t348 => (if t348.size + 1 ≤ 9223372036854775807 then ((impl_held.f k y341 (([3, 4, 5] : List Int))).bind fun t352 => (if (t348 ++ (⟨#[38]⟩ : ByteArray)).size + t352.size ≤ 9223372036854775807 then (some ((t348 ++ (⟨#[38]⟩ : ByteArray)) ++ t352)) else (none))) else (none))) else (if ((rd_T62 l0 (wrap64 ((l0.length : Int) - 1))).f0) = 4 then ((impl_held.f k y337 (([5] : List Int))).bind fun t356 => (if t356.size + 1 ≤ 9223372036854775807 then ((impl_held.f k y341 (([4, 5] : List Int))).bind fun t360 => (if (t356 ++ (⟨#[124]⟩ : ByteArray)).size + t360.size ≤ 9223372036854775807 then (some ((t356 ++ (⟨#[124]⟩ : ByteArray)) ++ t360)) else (none))) else (none))) else ((impl_textOf.f k y337).bind fun t361 => (if t361.size + 1 ≤ 9223372036854775807 then ((impl_held.f k y341 (([5] : List Int))).bind fun t365 => (if (t361 ++ (⟨#[61]⟩ : ByteArray)).size + t365.size ≤ 9223372036854775807 then (some ((t361 ++ (⟨#[61]⟩ : ByteArray)) ++ t365)) else (none))) else (none)))))) else (none))) else (none)) else (none))) else (none))))) else (none)) else (none)) = some r := h
 clear h
 obtain ⟨ji2, hji2⟩ : ∃ j_ : Int, (wrap64 ((l0.length : Int) - 1)) = j_ := ⟨_, rfl⟩
 replace H : (if 0 ≤ (ji2) then (if (ji2) < (l0.length : Int) then (if ((rd_T62 l0 (ji2)).f0) = 0 then (some (strOfNums (([(wrap64 (97 + ((rd_T62 l0 (ji2)).f1))) % 256] : List Int)))) else (if ((rd_T62 l0 (ji2)).f0) = 1 then (some (strOfNums (([(wrap64 (48 + ((rd_T62 l0 (ji2)).f1))) % 256] : List Int)))) else (if ((rd_T62 l0 (ji2)).f0) = 2 then (if (ji2) ≤ (l0.length : Int) then ((impl_held.f k (l0.take ((ji2) : Int).toNat) (([3, 4, 5] : List Int))).bind fun t331 => (if 1 + t331.size ≤ 9223372036854775807 then (some ((⟨#[33]⟩ : ByteArray) ++ t331)) else (none))) else (none)) else (if (ji2) ≤ (l0.length : Int) then ((impl_lastPart.f k (l0.take ((ji2) : Int).toNat)).bind fun t336 => (if 0 ≤ t336 then (if t336 ≤ (l0.length : Int) then ((some (l0.take (t336 : Int).toNat : List (S62))).bind fun y337 => (if t336 ≤ (ji2) then ((some ((l0.take ((ji2) : Int).toNat).drop (t336 : Int).toNat : List (S62))).bind fun y341 => (if ((rd_T62 l0 (ji2)).f0) = 3 then ((impl_held.f k y337 (([4, 5] : List Int))).bind fun t348 => (if t348.size + 1 ≤ 9223372036854775807 then ((impl_held.f k y341 (([3, 4, 5] : List Int))).bind fun t352 => (if (t348 ++ (⟨#[38]⟩ : ByteArray)).size + t352.size ≤ 9223372036854775807 then (some ((t348 ++ (⟨#[38]⟩ : ByteArray)) ++ t352)) else (none))) else (none))) else (if ((rd_T62 l0 (ji2)).f0) = 4 then ((impl_held.f k y337 (([5] : List Int))).bind fun t356 => (if t356.size + 1 ≤ 9223372036854775807 then ((impl_held.f k y341 (([4, 5] : List Int))).bind fun t360 => (if (t356 ++ (⟨#[124]⟩ : ByteArray)).size + t360.size ≤ 9223372036854775807 then (some ((t356 ++ (⟨#[124]⟩ : ByteArray)) ++ t360)) else (none))) else (none))) else ((impl_textOf.f k y337).bind fun t361 => (if t361.size + 1 ≤ 9223372036854775807 then ((impl_held.f k y341 (([5] : List Int))).bind fun t365 => (if (t361 ++ (⟨#[61]⟩ : ByteArray)).size + t365.size ≤ 9223372036854775807 then (some ((t361 ++ (⟨#[61]⟩ : ByteArray)) ++ t365)) else (none))) else (none)))))) else (none))) else (none)) else (none))) else (none))))) else (none)) else (none)) = some r := by first | (rw [hji2] at H; exact H) | (simp only [hji2] at H ⊢; exact H)
 have hji2w : (IntKind.i64.wrap ((l0.length : Int) - 1)) = ji2 := (i64_w _).trans hji2
 by_cases c3 : 0 ≤ (ji2)
 ·rw [if_pos c3] at H
  have c3b0 : decide (0 ≤ (ji2)) = true := decide_eq_true c3
  clear c3
  by_cases c4 : (ji2) < (l0.length : Int)
  ·rw [if_pos c4] at H
   have c4b0 : decide ((ji2) < (l0.length : Int)) = true := decide_eq_true c4
   clear c4
   by_cases c5 : ((rd_T62 l0 (ji2)).f0) = 0
   ·rw [if_pos c5] at H
    have c5b0 : (((rd_T62 l0 (ji2)).f0) == 0) = true := beq_iff_eq.mpr c5
    have c5b1 : (((rd_T62 l0 (ji2)).f0) != 0) = false := bne_eq_false_iff_eq.mpr c5
    clear c5
    obtain ⟨y318, hy318⟩ : ∃ y_ : List Int, y_ = (([(wrap64 (97 + ((rd_T62 l0 (ji2)).f1))) % 256] : List Int)) := ⟨_, rfl⟩
    replace H : (some (strOfNums y318)) = some r := by first | (rw [hy318]; with_reducible exact H) | (have H2_ := (Option.bind_some _ _).symm.trans H; rw [hy318]; with_reducible exact H2_) | (have H2_ := (Option.bind_some _ _).symm.trans H; with_reducible exact H2_) | with_reducible exact H | (rw [hy318]; exact H) | exact H
    have Ny318 := Aside0.mk hy318
    clear hy318
    obtain rfl := Option.some.inj H
    have p316 : 0 ≤ ((ji2) : Int) := of_decide_eq_true pwb_
    have q316 : (ji2) < (l0.length : Int) := of_decide_eq_true pwb_
    obtain ⟨ad316, e316, hx316_0, hx316_1⟩ := at_T62 HR0.out (ji2) p316 q316
    cases e316
    replace p316 := eq_true p316
    replace q316 := eq_true q316
    go_enter Try.func68, Try.ntmps68
    go_wp2_with (first | ((with_reducible refine gate_dst (N := 4) rfl ?_); refine box_event ?hg (N := 4) ?hd (cs := #[.int .i64 0, .int .i64 0]) (t := 62) ?hr ?_; (case hd => rfl); (case hg => rfl); (case hr => first | (go_simp; done) | (go_simp; rfl)); intro gb317 hg w6 hbox hb; have n0_ := Aside0.mk (below_step pwi_ hb); have n1_ := Aside0.mk (hbox); have n2_ := Aside0.mk ((by rw [hg]; exact (below_size pwi_) : w.heap.size ≤ gb317)); have n3_ := Aside0.mk ((by rw [hg]; exact (below_size pwi_) : w.heap.size ≤ gb317)); clear HB; have HB := n0_; have BK317 := n1_; have GW317 := n2_; have GE317 := n3_; clear n0_ n1_ n2_ n3_; clear hb hbox hg; have hcz7_0 : w6.cell? ⟨gb317, 0, none⟩ = some (.int .i64 0) := (blk_cell BK317.out 0).trans rfl; have hcz7_1 : w6.cell? ⟨gb317, 1, none⟩ = some (.int .i64 0) := (blk_cell BK317.out 1).trans rfl; have hfz7_0 := blk_frozen BK317.out 0; have hfz7_1 := blk_frozen BK317.out 1) | ((with_reducible refine gate_dst (N := 23) rfl ?_); refine Kd.R_lit (Kd.int .u8) _ 5 ?hg (N := 23) ?hd (xs := ([(wrap64 (97 + ((rd_T62 l0 (ji2)).f1))) % 256] : List Int)) (inner := [.int .u8 ((wrap64 (97 + ((rd_T62 l0 (ji2)).f1))) % 256)]) (ok := fun _ => True) (okp := fun _ => True) ?hr ?hp (fun _ hk => hk) trivial (Below.refl _ _) (Nat.le_refl _) (by simp) ?_; (case hd => rfl); (case hg => rfl); (case hr => first | (go_simp; done) | (go_simp; rfl)); (case hp => exact (Reps.one (show Kd.M (Kd.int .u8) _ _ _ ((wrap64 (97 + ((rd_T62 l0 (ji2)).f1))) % 256) [.int .u8 ((wrap64 (97 + ((rd_T62 l0 (ji2)).f1))) % 256)] from rfl) (Reps.none _ _))); intro v319 w8 ho9 hb hg_ hnew_; clear hg_ hnew_; (first | rw [← Ny318.out] at ho9 | (simp only [Int.reduceToNat] at ho9; rw [← Ny318.out] at ho9)); have n0_ := Aside0.mk (Kd.R_lower ho9 (below_size pwn_)); have n1_ := Aside0.mk (blk_below (g := gb317) (o := .cells #[.int .i64 ((rd_T62 l0 (ji2)).f0), .int .i64 ((rd_T62 l0 (ji2)).f1)] 62 (0, 0)) pwp_ hb); have n2_ := Aside0.mk (below_step pwn_ hb); clear BK317; clear HB; have HO320 := n0_; have BK317 := n1_; have HB := n2_; clear n0_ n1_ n2_; clear hb ho9; have hcv10 := own_string (P := Try.prog) Try.underlying22 Try.underlying5 Try.underlying9 (Kd.own_of_R HO320.out)))
    repeat (go_quiet (first | ((with_reducible refine gate_dst (N := 4) rfl ?_); refine box_event ?hg (N := 4) ?hd (cs := #[.int .i64 0, .int .i64 0]) (t := 62) ?hr ?_; (case hd => rfl); (case hg => rfl); (case hr => first | (go_simp; done) | (go_simp; rfl)); intro gb317 hg w6 hbox hb; have n0_ := Aside0.mk (below_step pwi_ hb); have n1_ := Aside0.mk (hbox); have n2_ := Aside0.mk ((by rw [hg]; exact (below_size pwi_) : w.heap.size ≤ gb317)); have n3_ := Aside0.mk ((by rw [hg]; exact (below_size pwi_) : w.heap.size ≤ gb317)); clear HB; have HB := n0_; have BK317 := n1_; have GW317 := n2_; have GE317 := n3_; clear n0_ n1_ n2_ n3_; clear hb hbox hg; have hcz7_0 : w6.cell? ⟨gb317, 0, none⟩ = some (.int .i64 0) := (blk_cell BK317.out 0).trans rfl; have hcz7_1 : w6.cell? ⟨gb317, 1, none⟩ = some (.int .i64 0) := (blk_cell BK317.out 1).trans rfl; have hfz7_0 := blk_frozen BK317.out 0; have hfz7_1 := blk_frozen BK317.out 1) | ((with_reducible refine gate_dst (N := 23) rfl ?_); refine Kd.R_lit (Kd.int .u8) _ 5 ?hg (N := 23) ?hd (xs := ([(wrap64 (97 + ((rd_T62 l0 (ji2)).f1))) % 256] : List Int)) (inner := [.int .u8 ((wrap64 (97 + ((rd_T62 l0 (ji2)).f1))) % 256)]) (ok := fun _ => True) (okp := fun _ => True) ?hr ?hp (fun _ hk => hk) trivial (Below.refl _ _) (Nat.le_refl _) (by simp) ?_; (case hd => rfl); (case hg => rfl); (case hr => first | (go_simp; done) | (go_simp; rfl)); (case hp => exact (Reps.one (show Kd.M (Kd.int .u8) _ _ _ ((wrap64 (97 + ((rd_T62 l0 (ji2)).f1))) % 256) [.int .u8 ((wrap64 (97 + ((rd_T62 l0 (ji2)).f1))) % 256)] from rfl) (Reps.none _ _))); intro v319 w8 ho9 hb hg_ hnew_; clear hg_ hnew_; (first | rw [← Ny318.out] at ho9 | (simp only [Int.reduceToNat] at ho9; rw [← Ny318.out] at ho9)); have n0_ := Aside0.mk (Kd.R_lower ho9 (below_size pwn_)); have n1_ := Aside0.mk (blk_below (g := gb317) (o := .cells #[.int .i64 ((rd_T62 l0 (ji2)).f0), .int .i64 ((rd_T62 l0 (ji2)).f1)] 62 (0, 0)) pwp_ hb); have n2_ := Aside0.mk (below_step pwn_ hb); clear BK317; clear HB; have HO320 := n0_; have BK317 := n1_; have HB := n2_; clear n0_ n1_ n2_; clear hb ho9; have hcv10 := own_string (P := Try.prog) Try.underlying22 Try.underlying5 Try.underlying9 (Kd.own_of_R HO320.out))); try go_wp2_with (first | ((with_reducible refine gate_dst (N := 4) rfl ?_); refine box_event ?hg (N := 4) ?hd (cs := #[.int .i64 0, .int .i64 0]) (t := 62) ?hr ?_; (case hd => rfl); (case hg => rfl); (case hr => first | (go_simp; done) | (go_simp; rfl)); intro gb317 hg w6 hbox hb; have n0_ := Aside0.mk (below_step pwi_ hb); have n1_ := Aside0.mk (hbox); have n2_ := Aside0.mk ((by rw [hg]; exact (below_size pwi_) : w.heap.size ≤ gb317)); have n3_ := Aside0.mk ((by rw [hg]; exact (below_size pwi_) : w.heap.size ≤ gb317)); clear HB; have HB := n0_; have BK317 := n1_; have GW317 := n2_; have GE317 := n3_; clear n0_ n1_ n2_ n3_; clear hb hbox hg; have hcz7_0 : w6.cell? ⟨gb317, 0, none⟩ = some (.int .i64 0) := (blk_cell BK317.out 0).trans rfl; have hcz7_1 : w6.cell? ⟨gb317, 1, none⟩ = some (.int .i64 0) := (blk_cell BK317.out 1).trans rfl; have hfz7_0 := blk_frozen BK317.out 0; have hfz7_1 := blk_frozen BK317.out 1) | ((with_reducible refine gate_dst (N := 23) rfl ?_); refine Kd.R_lit (Kd.int .u8) _ 5 ?hg (N := 23) ?hd (xs := ([(wrap64 (97 + ((rd_T62 l0 (ji2)).f1))) % 256] : List Int)) (inner := [.int .u8 ((wrap64 (97 + ((rd_T62 l0 (ji2)).f1))) % 256)]) (ok := fun _ => True) (okp := fun _ => True) ?hr ?hp (fun _ hk => hk) trivial (Below.refl _ _) (Nat.le_refl _) (by simp) ?_; (case hd => rfl); (case hg => rfl); (case hr => first | (go_simp; done) | (go_simp; rfl)); (case hp => exact (Reps.one (show Kd.M (Kd.int .u8) _ _ _ ((wrap64 (97 + ((rd_T62 l0 (ji2)).f1))) % 256) [.int .u8 ((wrap64 (97 + ((rd_T62 l0 (ji2)).f1))) % 256)] from rfl) (Reps.none _ _))); intro v319 w8 ho9 hb hg_ hnew_; clear hg_ hnew_; (first | rw [← Ny318.out] at ho9 | (simp only [Int.reduceToNat] at ho9; rw [← Ny318.out] at ho9)); have n0_ := Aside0.mk (Kd.R_lower ho9 (below_size pwn_)); have n1_ := Aside0.mk (blk_below (g := gb317) (o := .cells #[.int .i64 ((rd_T62 l0 (ji2)).f0), .int .i64 ((rd_T62 l0 (ji2)).f1)] 62 (0, 0)) pwp_ hb); have n2_ := Aside0.mk (below_step pwn_ hb); clear BK317; clear HB; have HO320 := n0_; have BK317 := n1_; have HB := n2_; clear n0_ n1_ n2_; clear hb ho9; have hcv10 := own_string (P := Try.prog) Try.underlying22 Try.underlying5 Try.underlying9 (Kd.own_of_R HO320.out))))
    go_ret
    exact ⟨by first | rfl | (simp [errW_none, errW_some] <;> rfl) | (simp only [← hji2]; first | rfl | (simp [errW_none, errW_some] <;> rfl)) | (simp [*, errW_none, errW_some] <;> rfl), pwn_⟩
   ·rw [if_neg c5] at H
    have c5b0 : (((rd_T62 l0 (ji2)).f0) == 0) = false := beq_eq_false_iff_ne.mpr c5
    have c5b1 : (((rd_T62 l0 (ji2)).f0) != 0) = true := bne_iff_ne.mpr c5
    by_cases c11 : ((rd_T62 l0 (ji2)).f0) = 1
    ·rw [if_pos c11] at H
     have c11b0 : (((rd_T62 l0 (ji2)).f0) == 1) = true := beq_iff_eq.mpr c11
     have c11b1 : (((rd_T62 l0 (ji2)).f0) != 1) = false := bne_eq_false_iff_eq.mpr c11
     clear c11
     obtain ⟨y321, hy321⟩ : ∃ y_ : List Int, y_ = (([(wrap64 (48 + ((rd_T62 l0 (ji2)).f1))) % 256] : List Int)) := ⟨_, rfl⟩
     replace H : (some (strOfNums y321)) = some r := by first | (rw [hy321]; with_reducible exact H) | (have H2_ := (Option.bind_some _ _).symm.trans H; rw [hy321]; with_reducible exact H2_) | (have H2_ := (Option.bind_some _ _).symm.trans H; with_reducible exact H2_) | with_reducible exact H | (rw [hy321]; exact H) | exact H
     have Ny321 := Aside0.mk hy321
     clear hy321
     obtain rfl := Option.some.inj H
     have p316 : 0 ≤ ((ji2) : Int) := of_decide_eq_true pwb_
     have q316 : (ji2) < (l0.length : Int) := of_decide_eq_true pwb_
     obtain ⟨ad316, e316, hx316_0, hx316_1⟩ := at_T62 HR0.out (ji2) p316 q316
     cases e316
     replace p316 := eq_true p316
     replace q316 := eq_true q316
     go_enter Try.func68, Try.ntmps68
     go_wp2_with (first | ((with_reducible refine gate_dst (N := 4) rfl ?_); refine box_event ?hg (N := 4) ?hd (cs := #[.int .i64 0, .int .i64 0]) (t := 62) ?hr ?_; (case hd => rfl); (case hg => rfl); (case hr => first | (go_simp; done) | (go_simp; rfl)); intro gb317 hg w12 hbox hb; have n0_ := Aside0.mk (below_step pwi_ hb); have n1_ := Aside0.mk (hbox); have n2_ := Aside0.mk ((by rw [hg]; exact (below_size pwi_) : w.heap.size ≤ gb317)); have n3_ := Aside0.mk ((by rw [hg]; exact (below_size pwi_) : w.heap.size ≤ gb317)); clear HB; have HB := n0_; have BK317 := n1_; have GW317 := n2_; have GE317 := n3_; clear n0_ n1_ n2_ n3_; clear hb hbox hg; have hcz13_0 : w12.cell? ⟨gb317, 0, none⟩ = some (.int .i64 0) := (blk_cell BK317.out 0).trans rfl; have hcz13_1 : w12.cell? ⟨gb317, 1, none⟩ = some (.int .i64 0) := (blk_cell BK317.out 1).trans rfl; have hfz13_0 := blk_frozen BK317.out 0; have hfz13_1 := blk_frozen BK317.out 1) | ((with_reducible refine gate_dst (N := 31) rfl ?_); refine Kd.R_lit (Kd.int .u8) _ 5 ?hg (N := 31) ?hd (xs := ([(wrap64 (48 + ((rd_T62 l0 (ji2)).f1))) % 256] : List Int)) (inner := [.int .u8 ((wrap64 (48 + ((rd_T62 l0 (ji2)).f1))) % 256)]) (ok := fun _ => True) (okp := fun _ => True) ?hr ?hp (fun _ hk => hk) trivial (Below.refl _ _) (Nat.le_refl _) (by simp) ?_; (case hd => rfl); (case hg => rfl); (case hr => first | (go_simp; done) | (go_simp; rfl)); (case hp => exact (Reps.one (show Kd.M (Kd.int .u8) _ _ _ ((wrap64 (48 + ((rd_T62 l0 (ji2)).f1))) % 256) [.int .u8 ((wrap64 (48 + ((rd_T62 l0 (ji2)).f1))) % 256)] from rfl) (Reps.none _ _))); intro v322 w14 ho15 hb hg_ hnew_; clear hg_ hnew_; (first | rw [← Ny321.out] at ho15 | (simp only [Int.reduceToNat] at ho15; rw [← Ny321.out] at ho15)); have n0_ := Aside0.mk (Kd.R_lower ho15 (below_size pwn_)); have n1_ := Aside0.mk (blk_below (g := gb317) (o := .cells #[.int .i64 ((rd_T62 l0 (ji2)).f0), .int .i64 ((rd_T62 l0 (ji2)).f1)] 62 (0, 0)) pwp_ hb); have n2_ := Aside0.mk (below_step pwn_ hb); clear BK317; clear HB; have HO323 := n0_; have BK317 := n1_; have HB := n2_; clear n0_ n1_ n2_; clear hb ho15; have hcv16 := own_string (P := Try.prog) Try.underlying22 Try.underlying5 Try.underlying9 (Kd.own_of_R HO323.out)))
     repeat (go_quiet (first | ((with_reducible refine gate_dst (N := 4) rfl ?_); refine box_event ?hg (N := 4) ?hd (cs := #[.int .i64 0, .int .i64 0]) (t := 62) ?hr ?_; (case hd => rfl); (case hg => rfl); (case hr => first | (go_simp; done) | (go_simp; rfl)); intro gb317 hg w12 hbox hb; have n0_ := Aside0.mk (below_step pwi_ hb); have n1_ := Aside0.mk (hbox); have n2_ := Aside0.mk ((by rw [hg]; exact (below_size pwi_) : w.heap.size ≤ gb317)); have n3_ := Aside0.mk ((by rw [hg]; exact (below_size pwi_) : w.heap.size ≤ gb317)); clear HB; have HB := n0_; have BK317 := n1_; have GW317 := n2_; have GE317 := n3_; clear n0_ n1_ n2_ n3_; clear hb hbox hg; have hcz13_0 : w12.cell? ⟨gb317, 0, none⟩ = some (.int .i64 0) := (blk_cell BK317.out 0).trans rfl; have hcz13_1 : w12.cell? ⟨gb317, 1, none⟩ = some (.int .i64 0) := (blk_cell BK317.out 1).trans rfl; have hfz13_0 := blk_frozen BK317.out 0; have hfz13_1 := blk_frozen BK317.out 1) | ((with_reducible refine gate_dst (N := 31) rfl ?_); refine Kd.R_lit (Kd.int .u8) _ 5 ?hg (N := 31) ?hd (xs := ([(wrap64 (48 + ((rd_T62 l0 (ji2)).f1))) % 256] : List Int)) (inner := [.int .u8 ((wrap64 (48 + ((rd_T62 l0 (ji2)).f1))) % 256)]) (ok := fun _ => True) (okp := fun _ => True) ?hr ?hp (fun _ hk => hk) trivial (Below.refl _ _) (Nat.le_refl _) (by simp) ?_; (case hd => rfl); (case hg => rfl); (case hr => first | (go_simp; done) | (go_simp; rfl)); (case hp => exact (Reps.one (show Kd.M (Kd.int .u8) _ _ _ ((wrap64 (48 + ((rd_T62 l0 (ji2)).f1))) % 256) [.int .u8 ((wrap64 (48 + ((rd_T62 l0 (ji2)).f1))) % 256)] from rfl) (Reps.none _ _))); intro v322 w14 ho15 hb hg_ hnew_; clear hg_ hnew_; (first | rw [← Ny321.out] at ho15 | (simp only [Int.reduceToNat] at ho15; rw [← Ny321.out] at ho15)); have n0_ := Aside0.mk (Kd.R_lower ho15 (below_size pwn_)); have n1_ := Aside0.mk (blk_below (g := gb317) (o := .cells #[.int .i64 ((rd_T62 l0 (ji2)).f0), .int .i64 ((rd_T62 l0 (ji2)).f1)] 62 (0, 0)) pwp_ hb); have n2_ := Aside0.mk (below_step pwn_ hb); clear BK317; clear HB; have HO323 := n0_; have BK317 := n1_; have HB := n2_; clear n0_ n1_ n2_; clear hb ho15; have hcv16 := own_string (P := Try.prog) Try.underlying22 Try.underlying5 Try.underlying9 (Kd.own_of_R HO323.out))); try go_wp2_with (first | ((with_reducible refine gate_dst (N := 4) rfl ?_); refine box_event ?hg (N := 4) ?hd (cs := #[.int .i64 0, .int .i64 0]) (t := 62) ?hr ?_; (case hd => rfl); (case hg => rfl); (case hr => first | (go_simp; done) | (go_simp; rfl)); intro gb317 hg w12 hbox hb; have n0_ := Aside0.mk (below_step pwi_ hb); have n1_ := Aside0.mk (hbox); have n2_ := Aside0.mk ((by rw [hg]; exact (below_size pwi_) : w.heap.size ≤ gb317)); have n3_ := Aside0.mk ((by rw [hg]; exact (below_size pwi_) : w.heap.size ≤ gb317)); clear HB; have HB := n0_; have BK317 := n1_; have GW317 := n2_; have GE317 := n3_; clear n0_ n1_ n2_ n3_; clear hb hbox hg; have hcz13_0 : w12.cell? ⟨gb317, 0, none⟩ = some (.int .i64 0) := (blk_cell BK317.out 0).trans rfl; have hcz13_1 : w12.cell? ⟨gb317, 1, none⟩ = some (.int .i64 0) := (blk_cell BK317.out 1).trans rfl; have hfz13_0 := blk_frozen BK317.out 0; have hfz13_1 := blk_frozen BK317.out 1) | ((with_reducible refine gate_dst (N := 31) rfl ?_); refine Kd.R_lit (Kd.int .u8) _ 5 ?hg (N := 31) ?hd (xs := ([(wrap64 (48 + ((rd_T62 l0 (ji2)).f1))) % 256] : List Int)) (inner := [.int .u8 ((wrap64 (48 + ((rd_T62 l0 (ji2)).f1))) % 256)]) (ok := fun _ => True) (okp := fun _ => True) ?hr ?hp (fun _ hk => hk) trivial (Below.refl _ _) (Nat.le_refl _) (by simp) ?_; (case hd => rfl); (case hg => rfl); (case hr => first | (go_simp; done) | (go_simp; rfl)); (case hp => exact (Reps.one (show Kd.M (Kd.int .u8) _ _ _ ((wrap64 (48 + ((rd_T62 l0 (ji2)).f1))) % 256) [.int .u8 ((wrap64 (48 + ((rd_T62 l0 (ji2)).f1))) % 256)] from rfl) (Reps.none _ _))); intro v322 w14 ho15 hb hg_ hnew_; clear hg_ hnew_; (first | rw [← Ny321.out] at ho15 | (simp only [Int.reduceToNat] at ho15; rw [← Ny321.out] at ho15)); have n0_ := Aside0.mk (Kd.R_lower ho15 (below_size pwn_)); have n1_ := Aside0.mk (blk_below (g := gb317) (o := .cells #[.int .i64 ((rd_T62 l0 (ji2)).f0), .int .i64 ((rd_T62 l0 (ji2)).f1)] 62 (0, 0)) pwp_ hb); have n2_ := Aside0.mk (below_step pwn_ hb); clear BK317; clear HB; have HO323 := n0_; have BK317 := n1_; have HB := n2_; clear n0_ n1_ n2_; clear hb ho15; have hcv16 := own_string (P := Try.prog) Try.underlying22 Try.underlying5 Try.underlying9 (Kd.own_of_R HO323.out))))
     go_ret
     exact ⟨by first | rfl | (simp [errW_none, errW_some] <;> rfl) | (simp only [← hji2]; first | rfl | (simp [errW_none, errW_some] <;> rfl)) | (simp [*, errW_none, errW_some] <;> rfl), pwn_⟩
    ·rw [if_neg c11] at H
     have c11b0 : (((rd_T62 l0 (ji2)).f0) == 1) = false := beq_eq_false_iff_ne.mpr c11
     have c11b1 : (((rd_T62 l0 (ji2)).f0) != 1) = true := bne_iff_ne.mpr c11
     by_cases c17 : ((rd_T62 l0 (ji2)).f0) = 2
     ·rw [if_pos c17] at H
      have c17b0 : (((rd_T62 l0 (ji2)).f0) == 2) = true := beq_iff_eq.mpr c17
      have c17b1 : (((rd_T62 l0 (ji2)).f0) != 2) = false := bne_eq_false_iff_eq.mpr c17
      clear c17
      have c18b0 := eq_true (of_decide_eq_true pwb_ : 0 ≤ (ji2))
      by_cases c19 : (ji2) ≤ (l0.length : Int)
      ·rw [if_pos c19] at H
       have c19b0 := eq_true c19
       have c19b1 : decide ((ji2) ≤ (l0.length : Int)) = true := decide_eq_true c19
       clear c19
       obtain ⟨y324, hy324⟩ : ∃ y_ : List (S62), y_ = (l0.take ((ji2) : Int).toNat) := ⟨_, rfl⟩
       replace H : ((impl_held.f k y324 (([3, 4, 5] : List Int))).bind fun t331 => (if 1 + t331.size ≤ 9223372036854775807 then (some ((⟨#[33]⟩ : ByteArray) ++ t331)) else (none))) = some r := by first | (rw [hy324]; with_reducible exact H) | (have H2_ := (Option.bind_some _ _).symm.trans H; rw [hy324]; with_reducible exact H2_) | (have H2_ := (Option.bind_some _ _).symm.trans H; with_reducible exact H2_) | with_reducible exact H | (rw [hy324]; exact H) | exact H
       have Ny324 := Aside0.mk hy324
       clear hy324
       obtain ⟨y328, hy328⟩ : ∃ y_ : List Int, y_ = (([3, 4, 5] : List Int)) := ⟨_, rfl⟩
       replace H : ((impl_held.f k y324 y328).bind fun t331 => (if 1 + t331.size ≤ 9223372036854775807 then (some ((⟨#[33]⟩ : ByteArray) ++ t331)) else (none))) = some r := by first | (rw [hy328]; with_reducible exact H) | (have H2_ := (Option.bind_some _ _).symm.trans H; rw [hy328]; with_reducible exact H2_) | (have H2_ := (Option.bind_some _ _).symm.trans H; with_reducible exact H2_) | with_reducible exact H | (rw [hy328]; exact H) | exact H
       have Ny328 := Aside0.mk hy328
       clear hy328
       replace H := Option.bind_eq_some_iff.mp H
       obtain ⟨t331, A200, H⟩ := H
       replace H : (if 1 + t331.size ≤ 9223372036854775807 then (some ((⟨#[33]⟩ : ByteArray) ++ t331)) else (none)) = some r := H
       have A20 := Aside0.mk A200
       clear A200
       by_cases c21 : 1 + t331.size ≤ 9223372036854775807
       ·rw [if_pos c21] at H
        have c21b0 := eq_true c21
        have c21b1 : decide (1 + t331.size ≤ 9223372036854775807) = true := decide_eq_true c21
        try have c21b2 : (9223372036854775807 < 1 + t331.size) = False := eq_false (Nat.not_lt.2 c21)
        obtain rfl := Option.some.inj H
        have p316 : 0 ≤ ((ji2) : Int) := of_decide_eq_true pwb_
        have q316 : (ji2) < (l0.length : Int) := of_decide_eq_true pwb_
        obtain ⟨ad316, e316, hx316_0, hx316_1⟩ := at_T62 HR0.out (ji2) p316 q316
        cases e316
        replace p316 := eq_true p316
        replace q316 := eq_true q316
        go_enter Try.func68, Try.ntmps68
        go_wp2_with (first | ((with_reducible refine gate_dst (N := 4) rfl ?_); refine box_event ?hg (N := 4) ?hd (cs := #[.int .i64 0, .int .i64 0]) (t := 62) ?hr ?_; (case hd => rfl); (case hg => rfl); (case hr => first | (go_simp; done) | (go_simp; rfl)); intro gb317 hg w22 hbox hb; have n0_ := Aside0.mk (below_step pwi_ hb); have n1_ := Aside0.mk (hbox); have n2_ := Aside0.mk ((by rw [hg]; exact (below_size pwi_) : w.heap.size ≤ gb317)); have n3_ := Aside0.mk ((by rw [hg]; exact (below_size pwi_) : w.heap.size ≤ gb317)); clear HB; have HB := n0_; have BK317 := n1_; have GW317 := n2_; have GE317 := n3_; clear n0_ n1_ n2_ n3_; clear hb hbox hg; have hcz23_0 : w22.cell? ⟨gb317, 0, none⟩ = some (.int .i64 0) := (blk_cell BK317.out 0).trans rfl; have hcz23_1 : w22.cell? ⟨gb317, 1, none⟩ = some (.int .i64 0) := (blk_cell BK317.out 1).trans rfl; have hfz23_0 := blk_frozen BK317.out 0; have hfz23_1 := blk_frozen BK317.out 1) | ((with_reducible refine gate_store (t := 62) (p := 4) rfl ?_); (try (rw [drewN_self w22]; generalize hq_ : World.drewN w22 _ = w22; have n0_ := Aside0.mk (blk_at hq_ BK317.out); have n1_ := Aside0.mk (below_at hq_ HB.out); clear hq_ BK317 HB; have BK317 := n0_; have HB := n1_; clear n0_ n1_)); refine store_event (t := 62) (p := 4) (v := ?vo_w24) (w1 := ((w22.setCell ⟨gb317, 0, none⟩ (.int .i64 ((rd_T62 l0 (ji2)).f0))).setCell ⟨gb317, 1, none⟩ (.int .i64 ((rd_T62 l0 (ji2)).f1)))) ?hg ?ho ?hn ?hr ?_; (case ho => rfl); (case hg => rfl); (case hn => rfl); (case hr => first | (go_simp; done) | (go_simp; rfl)); intro w24 hw; have n0_ : Aside0 (w24.heap[gb317]? = some (.cells #[.int .i64 ((rd_T62 l0 (ji2)).f0), .int .i64 ((rd_T62 l0 (ji2)).f1)] 62 (0, 0))) := ⟨(by rw [hw]; exact pwp_)⟩; have n1_ : Aside0 (Below w.heap.size w w24) := ⟨(by rw [hw]; exact pwn_)⟩; clear hw; clear BK317; clear HB; have BK317 := n0_; have HB := n1_; clear n0_ n1_; have hcz25_0 : w24.cell? ⟨gb317, 0, none⟩ = some (.int .i64 ((rd_T62 l0 (ji2)).f0)) := (blk_cell BK317.out 0).trans rfl; have hcz25_1 : w24.cell? ⟨gb317, 1, none⟩ = some (.int .i64 ((rd_T62 l0 (ji2)).f1)) := (blk_cell BK317.out 1).trans rfl; have hfz25_0 := blk_frozen BK317.out 0; have hfz25_1 := blk_frozen BK317.out 1; have q26 : ((ji2) : Int) ≤ ((l0.length : Int) : Int) := of_decide_eq_true pwb_; obtain ⟨i026, hi026, _, hsz26, _⟩ := info_parts info62; have hroom26 : l0.length ≤ c0 := HC0.out; have hC26 : Kd.C k62 _ (some ad316) l0.length l0 := HR0.out; have hcut26 := cut_to (P := Try.prog) 25 62 .i64 Try.underlying25 hi026 (some ad316) l0.length c0 (ji2) (of_decide_eq_true pwb_) q26 hroom26; have hr26 := Kd.C_take (m := ((ji2) : Int).toNat) hC26 (by omega); have hy26 : y324.length = ((ji2) : Int).toNat := (by rw [Ny324.out, List.length_take]; omega); rw [← Ny324.out] at hr26; rw [← hy26] at hcut26; have HR327 := Aside0.mk hr26; have HC327 := Aside0.mk (show y324.length ≤ c0 from by omega); clear hr26 hC26 hroom26 hi026 hsz26; have KY26 := Aside0.mk hy26; clear hy26; replace q26 := eq_true q26) | ((with_reducible refine gate_dst (N := 38) rfl ?_); refine Kd.R_lit (Kd.int .i64) _ 3 ?hg (N := 38) ?hd (xs := ([3, 4, 5] : List Int)) (inner := [.int .i64 3, .int .i64 4, .int .i64 5]) (ok := fun _ => True) (okp := fun _ => True) ?hr ?hp (fun _ hk => hk) trivial (Below.refl _ _) (Nat.le_refl _) (by simp) ?_; (case hd => rfl); (case hg => rfl); (case hr => first | (go_simp; done) | (go_simp; rfl)); (case hp => exact (Reps.one (show Kd.M (Kd.int .i64) _ _ _ 3 [.int .i64 3] from rfl) (Reps.one (show Kd.M (Kd.int .i64) _ _ _ 4 [.int .i64 4] from rfl) (Reps.one (show Kd.M (Kd.int .i64) _ _ _ 5 [.int .i64 5] from rfl) (Reps.none _ _))))); intro v329 w27 ho28 hb hg_ hnew_; clear hg_ hnew_; (first | rw [← Ny328.out] at ho28 | (simp only [Int.reduceToNat] at ho28; rw [← Ny328.out] at ho28)); have n0_ := Aside0.mk (Kd.R_lower ho28 (below_size pwn_)); have n1_ := Aside0.mk (blk_below (g := gb317) (o := .cells #[.int .i64 ((rd_T62 l0 (ji2)).f0), .int .i64 ((rd_T62 l0 (ji2)).f1)] 62 (0, 0)) pwh_ hb); have n2_ := Aside0.mk (below_step pwn_ hb); clear BK317; clear HB; have HO330 := n0_; have BK317 := n1_; have HB := n2_; clear n0_ n1_ n2_; clear hb ho28; obtain ⟨Ao29, co29, eo29⟩ := Kd.R_slice HO330.out; subst eo29) | (go_at_call 96; (with_reducible refine (h0_ k (by omega) _ _ y324 _ _ y328 t331 _ ?side1 ?side2 ?side3 ?side4 A20.out).mono ?_); (case side1 => repeat (first | exact (Kd.C_below HR327.out HB.out) | (with_reducible refine Kd.C_alloc ?_ _) | (with_reducible refine Kd.C_drewN ?_ _) | (with_reducible refine Kd.C_drew ?_))); (case side2 => exact HC327.out); (case side3 => repeat (first | exact (Kd.R_reads' HO330.out).2.2 | (with_reducible refine Kd.C_alloc ?_ _) | (with_reducible refine Kd.C_drewN ?_ _) | (with_reducible refine Kd.C_drew ?_))); (case side4 => exact (Kd.R_reads' HO330.out).2.1); rintro e w30 ⟨rfl, hb⟩; have n0_ := Aside0.mk (Kd.R_below (by (with_reducible repeat apply Kd.R_alloc); exact HO330.out) hb); have n1_ := Aside0.mk (blk_below (g := gb317) (o := .cells #[.int .i64 ((rd_T62 l0 (ji2)).f0), .int .i64 ((rd_T62 l0 (ji2)).f1)] 62 (0, 0)) pwh_ hb); have n2_ := Aside0.mk (below_step pwn_ hb); clear HO330; clear BK317; clear HB; have HO330 := n0_; have BK317 := n1_; have HB := n2_; clear n0_ n1_ n2_; (try clear hb); (try clear hb2); (try clear hk); (try clear hi)))
        repeat (go_quiet (first | ((with_reducible refine gate_dst (N := 4) rfl ?_); refine box_event ?hg (N := 4) ?hd (cs := #[.int .i64 0, .int .i64 0]) (t := 62) ?hr ?_; (case hd => rfl); (case hg => rfl); (case hr => first | (go_simp; done) | (go_simp; rfl)); intro gb317 hg w22 hbox hb; have n0_ := Aside0.mk (below_step pwi_ hb); have n1_ := Aside0.mk (hbox); have n2_ := Aside0.mk ((by rw [hg]; exact (below_size pwi_) : w.heap.size ≤ gb317)); have n3_ := Aside0.mk ((by rw [hg]; exact (below_size pwi_) : w.heap.size ≤ gb317)); clear HB; have HB := n0_; have BK317 := n1_; have GW317 := n2_; have GE317 := n3_; clear n0_ n1_ n2_ n3_; clear hb hbox hg; have hcz23_0 : w22.cell? ⟨gb317, 0, none⟩ = some (.int .i64 0) := (blk_cell BK317.out 0).trans rfl; have hcz23_1 : w22.cell? ⟨gb317, 1, none⟩ = some (.int .i64 0) := (blk_cell BK317.out 1).trans rfl; have hfz23_0 := blk_frozen BK317.out 0; have hfz23_1 := blk_frozen BK317.out 1) | ((with_reducible refine gate_store (t := 62) (p := 4) rfl ?_); (try (rw [drewN_self w22]; generalize hq_ : World.drewN w22 _ = w22; have n0_ := Aside0.mk (blk_at hq_ BK317.out); have n1_ := Aside0.mk (below_at hq_ HB.out); clear hq_ BK317 HB; have BK317 := n0_; have HB := n1_; clear n0_ n1_)); refine store_event (t := 62) (p := 4) (v := ?vo_w24) (w1 := ((w22.setCell ⟨gb317, 0, none⟩ (.int .i64 ((rd_T62 l0 (ji2)).f0))).setCell ⟨gb317, 1, none⟩ (.int .i64 ((rd_T62 l0 (ji2)).f1)))) ?hg ?ho ?hn ?hr ?_; (case ho => rfl); (case hg => rfl); (case hn => rfl); (case hr => first | (go_simp; done) | (go_simp; rfl)); intro w24 hw; have n0_ : Aside0 (w24.heap[gb317]? = some (.cells #[.int .i64 ((rd_T62 l0 (ji2)).f0), .int .i64 ((rd_T62 l0 (ji2)).f1)] 62 (0, 0))) := ⟨(by rw [hw]; exact pwp_)⟩; have n1_ : Aside0 (Below w.heap.size w w24) := ⟨(by rw [hw]; exact pwn_)⟩; clear hw; clear BK317; clear HB; have BK317 := n0_; have HB := n1_; clear n0_ n1_; have hcz25_0 : w24.cell? ⟨gb317, 0, none⟩ = some (.int .i64 ((rd_T62 l0 (ji2)).f0)) := (blk_cell BK317.out 0).trans rfl; have hcz25_1 : w24.cell? ⟨gb317, 1, none⟩ = some (.int .i64 ((rd_T62 l0 (ji2)).f1)) := (blk_cell BK317.out 1).trans rfl; have hfz25_0 := blk_frozen BK317.out 0; have hfz25_1 := blk_frozen BK317.out 1; have q26 : ((ji2) : Int) ≤ ((l0.length : Int) : Int) := of_decide_eq_true pwb_; obtain ⟨i026, hi026, _, hsz26, _⟩ := info_parts info62; have hroom26 : l0.length ≤ c0 := HC0.out; have hC26 : Kd.C k62 _ (some ad316) l0.length l0 := HR0.out; have hcut26 := cut_to (P := Try.prog) 25 62 .i64 Try.underlying25 hi026 (some ad316) l0.length c0 (ji2) (of_decide_eq_true pwb_) q26 hroom26; have hr26 := Kd.C_take (m := ((ji2) : Int).toNat) hC26 (by omega); have hy26 : y324.length = ((ji2) : Int).toNat := (by rw [Ny324.out, List.length_take]; omega); rw [← Ny324.out] at hr26; rw [← hy26] at hcut26; have HR327 := Aside0.mk hr26; have HC327 := Aside0.mk (show y324.length ≤ c0 from by omega); clear hr26 hC26 hroom26 hi026 hsz26; have KY26 := Aside0.mk hy26; clear hy26; replace q26 := eq_true q26) | ((with_reducible refine gate_dst (N := 38) rfl ?_); refine Kd.R_lit (Kd.int .i64) _ 3 ?hg (N := 38) ?hd (xs := ([3, 4, 5] : List Int)) (inner := [.int .i64 3, .int .i64 4, .int .i64 5]) (ok := fun _ => True) (okp := fun _ => True) ?hr ?hp (fun _ hk => hk) trivial (Below.refl _ _) (Nat.le_refl _) (by simp) ?_; (case hd => rfl); (case hg => rfl); (case hr => first | (go_simp; done) | (go_simp; rfl)); (case hp => exact (Reps.one (show Kd.M (Kd.int .i64) _ _ _ 3 [.int .i64 3] from rfl) (Reps.one (show Kd.M (Kd.int .i64) _ _ _ 4 [.int .i64 4] from rfl) (Reps.one (show Kd.M (Kd.int .i64) _ _ _ 5 [.int .i64 5] from rfl) (Reps.none _ _))))); intro v329 w27 ho28 hb hg_ hnew_; clear hg_ hnew_; (first | rw [← Ny328.out] at ho28 | (simp only [Int.reduceToNat] at ho28; rw [← Ny328.out] at ho28)); have n0_ := Aside0.mk (Kd.R_lower ho28 (below_size pwn_)); have n1_ := Aside0.mk (blk_below (g := gb317) (o := .cells #[.int .i64 ((rd_T62 l0 (ji2)).f0), .int .i64 ((rd_T62 l0 (ji2)).f1)] 62 (0, 0)) pwh_ hb); have n2_ := Aside0.mk (below_step pwn_ hb); clear BK317; clear HB; have HO330 := n0_; have BK317 := n1_; have HB := n2_; clear n0_ n1_ n2_; clear hb ho28; obtain ⟨Ao29, co29, eo29⟩ := Kd.R_slice HO330.out; subst eo29) | (go_at_call 96; (with_reducible refine (h0_ k (by omega) _ _ y324 _ _ y328 t331 _ ?side1 ?side2 ?side3 ?side4 A20.out).mono ?_); (case side1 => repeat (first | exact (Kd.C_below HR327.out HB.out) | (with_reducible refine Kd.C_alloc ?_ _) | (with_reducible refine Kd.C_drewN ?_ _) | (with_reducible refine Kd.C_drew ?_))); (case side2 => exact HC327.out); (case side3 => repeat (first | exact (Kd.R_reads' HO330.out).2.2 | (with_reducible refine Kd.C_alloc ?_ _) | (with_reducible refine Kd.C_drewN ?_ _) | (with_reducible refine Kd.C_drew ?_))); (case side4 => exact (Kd.R_reads' HO330.out).2.1); rintro e w30 ⟨rfl, hb⟩; have n0_ := Aside0.mk (Kd.R_below (by (with_reducible repeat apply Kd.R_alloc); exact HO330.out) hb); have n1_ := Aside0.mk (blk_below (g := gb317) (o := .cells #[.int .i64 ((rd_T62 l0 (ji2)).f0), .int .i64 ((rd_T62 l0 (ji2)).f1)] 62 (0, 0)) pwh_ hb); have n2_ := Aside0.mk (below_step pwn_ hb); clear HO330; clear BK317; clear HB; have HO330 := n0_; have BK317 := n1_; have HB := n2_; clear n0_ n1_ n2_; (try clear hb); (try clear hb2); (try clear hk); (try clear hi))); try go_wp2_with (first | ((with_reducible refine gate_dst (N := 4) rfl ?_); refine box_event ?hg (N := 4) ?hd (cs := #[.int .i64 0, .int .i64 0]) (t := 62) ?hr ?_; (case hd => rfl); (case hg => rfl); (case hr => first | (go_simp; done) | (go_simp; rfl)); intro gb317 hg w22 hbox hb; have n0_ := Aside0.mk (below_step pwi_ hb); have n1_ := Aside0.mk (hbox); have n2_ := Aside0.mk ((by rw [hg]; exact (below_size pwi_) : w.heap.size ≤ gb317)); have n3_ := Aside0.mk ((by rw [hg]; exact (below_size pwi_) : w.heap.size ≤ gb317)); clear HB; have HB := n0_; have BK317 := n1_; have GW317 := n2_; have GE317 := n3_; clear n0_ n1_ n2_ n3_; clear hb hbox hg; have hcz23_0 : w22.cell? ⟨gb317, 0, none⟩ = some (.int .i64 0) := (blk_cell BK317.out 0).trans rfl; have hcz23_1 : w22.cell? ⟨gb317, 1, none⟩ = some (.int .i64 0) := (blk_cell BK317.out 1).trans rfl; have hfz23_0 := blk_frozen BK317.out 0; have hfz23_1 := blk_frozen BK317.out 1) | ((with_reducible refine gate_store (t := 62) (p := 4) rfl ?_); (try (rw [drewN_self w22]; generalize hq_ : World.drewN w22 _ = w22; have n0_ := Aside0.mk (blk_at hq_ BK317.out); have n1_ := Aside0.mk (below_at hq_ HB.out); clear hq_ BK317 HB; have BK317 := n0_; have HB := n1_; clear n0_ n1_)); refine store_event (t := 62) (p := 4) (v := ?vo_w24) (w1 := ((w22.setCell ⟨gb317, 0, none⟩ (.int .i64 ((rd_T62 l0 (ji2)).f0))).setCell ⟨gb317, 1, none⟩ (.int .i64 ((rd_T62 l0 (ji2)).f1)))) ?hg ?ho ?hn ?hr ?_; (case ho => rfl); (case hg => rfl); (case hn => rfl); (case hr => first | (go_simp; done) | (go_simp; rfl)); intro w24 hw; have n0_ : Aside0 (w24.heap[gb317]? = some (.cells #[.int .i64 ((rd_T62 l0 (ji2)).f0), .int .i64 ((rd_T62 l0 (ji2)).f1)] 62 (0, 0))) := ⟨(by rw [hw]; exact pwp_)⟩; have n1_ : Aside0 (Below w.heap.size w w24) := ⟨(by rw [hw]; exact pwn_)⟩; clear hw; clear BK317; clear HB; have BK317 := n0_; have HB := n1_; clear n0_ n1_; have hcz25_0 : w24.cell? ⟨gb317, 0, none⟩ = some (.int .i64 ((rd_T62 l0 (ji2)).f0)) := (blk_cell BK317.out 0).trans rfl; have hcz25_1 : w24.cell? ⟨gb317, 1, none⟩ = some (.int .i64 ((rd_T62 l0 (ji2)).f1)) := (blk_cell BK317.out 1).trans rfl; have hfz25_0 := blk_frozen BK317.out 0; have hfz25_1 := blk_frozen BK317.out 1; have q26 : ((ji2) : Int) ≤ ((l0.length : Int) : Int) := of_decide_eq_true pwb_; obtain ⟨i026, hi026, _, hsz26, _⟩ := info_parts info62; have hroom26 : l0.length ≤ c0 := HC0.out; have hC26 : Kd.C k62 _ (some ad316) l0.length l0 := HR0.out; have hcut26 := cut_to (P := Try.prog) 25 62 .i64 Try.underlying25 hi026 (some ad316) l0.length c0 (ji2) (of_decide_eq_true pwb_) q26 hroom26; have hr26 := Kd.C_take (m := ((ji2) : Int).toNat) hC26 (by omega); have hy26 : y324.length = ((ji2) : Int).toNat := (by rw [Ny324.out, List.length_take]; omega); rw [← Ny324.out] at hr26; rw [← hy26] at hcut26; have HR327 := Aside0.mk hr26; have HC327 := Aside0.mk (show y324.length ≤ c0 from by omega); clear hr26 hC26 hroom26 hi026 hsz26; have KY26 := Aside0.mk hy26; clear hy26; replace q26 := eq_true q26) | ((with_reducible refine gate_dst (N := 38) rfl ?_); refine Kd.R_lit (Kd.int .i64) _ 3 ?hg (N := 38) ?hd (xs := ([3, 4, 5] : List Int)) (inner := [.int .i64 3, .int .i64 4, .int .i64 5]) (ok := fun _ => True) (okp := fun _ => True) ?hr ?hp (fun _ hk => hk) trivial (Below.refl _ _) (Nat.le_refl _) (by simp) ?_; (case hd => rfl); (case hg => rfl); (case hr => first | (go_simp; done) | (go_simp; rfl)); (case hp => exact (Reps.one (show Kd.M (Kd.int .i64) _ _ _ 3 [.int .i64 3] from rfl) (Reps.one (show Kd.M (Kd.int .i64) _ _ _ 4 [.int .i64 4] from rfl) (Reps.one (show Kd.M (Kd.int .i64) _ _ _ 5 [.int .i64 5] from rfl) (Reps.none _ _))))); intro v329 w27 ho28 hb hg_ hnew_; clear hg_ hnew_; (first | rw [← Ny328.out] at ho28 | (simp only [Int.reduceToNat] at ho28; rw [← Ny328.out] at ho28)); have n0_ := Aside0.mk (Kd.R_lower ho28 (below_size pwn_)); have n1_ := Aside0.mk (blk_below (g := gb317) (o := .cells #[.int .i64 ((rd_T62 l0 (ji2)).f0), .int .i64 ((rd_T62 l0 (ji2)).f1)] 62 (0, 0)) pwh_ hb); have n2_ := Aside0.mk (below_step pwn_ hb); clear BK317; clear HB; have HO330 := n0_; have BK317 := n1_; have HB := n2_; clear n0_ n1_ n2_; clear hb ho28; obtain ⟨Ao29, co29, eo29⟩ := Kd.R_slice HO330.out; subst eo29) | (go_at_call 96; (with_reducible refine (h0_ k (by omega) _ _ y324 _ _ y328 t331 _ ?side1 ?side2 ?side3 ?side4 A20.out).mono ?_); (case side1 => repeat (first | exact (Kd.C_below HR327.out HB.out) | (with_reducible refine Kd.C_alloc ?_ _) | (with_reducible refine Kd.C_drewN ?_ _) | (with_reducible refine Kd.C_drew ?_))); (case side2 => exact HC327.out); (case side3 => repeat (first | exact (Kd.R_reads' HO330.out).2.2 | (with_reducible refine Kd.C_alloc ?_ _) | (with_reducible refine Kd.C_drewN ?_ _) | (with_reducible refine Kd.C_drew ?_))); (case side4 => exact (Kd.R_reads' HO330.out).2.1); rintro e w30 ⟨rfl, hb⟩; have n0_ := Aside0.mk (Kd.R_below (by (with_reducible repeat apply Kd.R_alloc); exact HO330.out) hb); have n1_ := Aside0.mk (blk_below (g := gb317) (o := .cells #[.int .i64 ((rd_T62 l0 (ji2)).f0), .int .i64 ((rd_T62 l0 (ji2)).f1)] 62 (0, 0)) pwh_ hb); have n2_ := Aside0.mk (below_step pwn_ hb); clear HO330; clear BK317; clear HB; have HO330 := n0_; have BK317 := n1_; have HB := n2_; clear n0_ n1_ n2_; (try clear hb); (try clear hb2); (try clear hk); (try clear hi))))
        go_ret
        exact ⟨by first | rfl | (simp [errW_none, errW_some] <;> rfl) | (simp only [← hji2]; first | rfl | (simp [errW_none, errW_some] <;> rfl)) | (simp [*, errW_none, errW_some] <;> rfl), pwn_⟩
       ·rw [if_neg c21] at H
        exact absurd H (by simp)
      ·rw [if_neg c19] at H
       exact absurd H (by simp)
     ·rw [if_neg c17] at H
      have c17b0 : (((rd_T62 l0 (ji2)).f0) == 2) = false := beq_eq_false_iff_ne.mpr c17
      have c17b1 : (((rd_T62 l0 (ji2)).f0) != 2) = true := bne_iff_ne.mpr c17
      have c31b0 := eq_true (of_decide_eq_true pwb_ : 0 ≤ (ji2))
      by_cases c32 : (ji2) ≤ (l0.length : Int)
      ·rw [if_pos c32] at H
       have c32b0 := eq_true c32
       have c32b1 : decide ((ji2) ≤ (l0.length : Int)) = true := decide_eq_true c32
       clear c32
       obtain ⟨y332, hy332⟩ : ∃ y_ : List (S62), y_ = (l0.take ((ji2) : Int).toNat) := ⟨_, rfl⟩
       replace H : ((impl_lastPart.f k y332).bind fun t336 => (if 0 ≤ t336 then (if t336 ≤ (l0.length : Int) then ((some (l0.take (t336 : Int).toNat : List (S62))).bind fun y337 => (if t336 ≤ (ji2) then ((some ((l0.take ((ji2) : Int).toNat).drop (t336 : Int).toNat : List (S62))).bind fun y341 => (if ((rd_T62 l0 (ji2)).f0) = 3 then ((impl_held.f k y337 (([4, 5] : List Int))).bind fun t348 => (if t348.size + 1 ≤ 9223372036854775807 then ((impl_held.f k y341 (([3, 4, 5] : List Int))).bind fun t352 => (if (t348 ++ (⟨#[38]⟩ : ByteArray)).size + t352.size ≤ 9223372036854775807 then (some ((t348 ++ (⟨#[38]⟩ : ByteArray)) ++ t352)) else (none))) else (none))) else (if ((rd_T62 l0 (ji2)).f0) = 4 then ((impl_held.f k y337 (([5] : List Int))).bind fun t356 => (if t356.size + 1 ≤ 9223372036854775807 then ((impl_held.f k y341 (([4, 5] : List Int))).bind fun t360 => (if (t356 ++ (⟨#[124]⟩ : ByteArray)).size + t360.size ≤ 9223372036854775807 then (some ((t356 ++ (⟨#[124]⟩ : ByteArray)) ++ t360)) else (none))) else (none))) else ((impl_textOf.f k y337).bind fun t361 => (if t361.size + 1 ≤ 9223372036854775807 then ((impl_held.f k y341 (([5] : List Int))).bind fun t365 => (if (t361 ++ (⟨#[61]⟩ : ByteArray)).size + t365.size ≤ 9223372036854775807 then (some ((t361 ++ (⟨#[61]⟩ : ByteArray)) ++ t365)) else (none))) else (none)))))) else (none))) else (none)) else (none))) = some r := by first | (rw [hy332]; with_reducible exact H) | (have H2_ := (Option.bind_some _ _).symm.trans H; rw [hy332]; with_reducible exact H2_) | (have H2_ := (Option.bind_some _ _).symm.trans H; with_reducible exact H2_) | with_reducible exact H | (rw [hy332]; exact H) | exact H
       have Ny332 := Aside0.mk hy332
       clear hy332
       replace H := Option.bind_eq_some_iff.mp H
       obtain ⟨t336, A330, H⟩ := H
       replace H : (if 0 ≤ t336 then (if t336 ≤ (l0.length : Int) then ((some (l0.take (t336 : Int).toNat : List (S62))).bind fun y337 => (if t336 ≤ (ji2) then ((some ((l0.take ((ji2) : Int).toNat).drop (t336 : Int).toNat : List (S62))).bind fun y341 => (if ((rd_T62 l0 (ji2)).f0) = 3 then ((impl_held.f k y337 (([4, 5] : List Int))).bind fun t348 => (if t348.size + 1 ≤ 9223372036854775807 then ((impl_held.f k y341 (([3, 4, 5] : List Int))).bind fun t352 => (if (t348 ++ (⟨#[38]⟩ : ByteArray)).size + t352.size ≤ 9223372036854775807 then (some ((t348 ++ (⟨#[38]⟩ : ByteArray)) ++ t352)) else (none))) else (none))) else (if ((rd_T62 l0 (ji2)).f0) = 4 then ((impl_held.f k y337 (([5] : List Int))).bind fun t356 => (if t356.size + 1 ≤ 9223372036854775807 then ((impl_held.f k y341 (([4, 5] : List Int))).bind fun t360 => (if (t356 ++ (⟨#[124]⟩ : ByteArray)).size + t360.size ≤ 9223372036854775807 then (some ((t356 ++ (⟨#[124]⟩ : ByteArray)) ++ t360)) else (none))) else (none))) else ((impl_textOf.f k y337).bind fun t361 => (if t361.size + 1 ≤ 9223372036854775807 then ((impl_held.f k y341 (([5] : List Int))).bind fun t365 => (if (t361 ++ (⟨#[61]⟩ : ByteArray)).size + t365.size ≤ 9223372036854775807 then (some ((t361 ++ (⟨#[61]⟩ : ByteArray)) ++ t365)) else (none))) else (none)))))) else (none))) else (none)) else (none)) = some r := H
       have A33 := Aside0.mk A330
       clear A330
       by_cases c34 : 0 ≤ t336
       ·rw [if_pos c34] at H
        have c34b0 := eq_true c34
        have c34b1 : decide (0 ≤ t336) = true := decide_eq_true c34
        clear c34
        by_cases c35 : t336 ≤ (l0.length : Int)
        ·rw [if_pos c35] at H
         have c35b0 := eq_true c35
         have c35b1 : decide (t336 ≤ (l0.length : Int)) = true := decide_eq_true c35
         clear c35
         obtain ⟨y337, hy337⟩ : ∃ y_ : List (S62), y_ = (l0.take (t336 : Int).toNat) := ⟨_, rfl⟩
         replace H : (if t336 ≤ (ji2) then ((some ((l0.take ((ji2) : Int).toNat).drop (t336 : Int).toNat : List (S62))).bind fun y341 => (if ((rd_T62 l0 (ji2)).f0) = 3 then ((impl_held.f k y337 (([4, 5] : List Int))).bind fun t348 => (if t348.size + 1 ≤ 9223372036854775807 then ((impl_held.f k y341 (([3, 4, 5] : List Int))).bind fun t352 => (if (t348 ++ (⟨#[38]⟩ : ByteArray)).size + t352.size ≤ 9223372036854775807 then (some ((t348 ++ (⟨#[38]⟩ : ByteArray)) ++ t352)) else (none))) else (none))) else (if ((rd_T62 l0 (ji2)).f0) = 4 then ((impl_held.f k y337 (([5] : List Int))).bind fun t356 => (if t356.size + 1 ≤ 9223372036854775807 then ((impl_held.f k y341 (([4, 5] : List Int))).bind fun t360 => (if (t356 ++ (⟨#[124]⟩ : ByteArray)).size + t360.size ≤ 9223372036854775807 then (some ((t356 ++ (⟨#[124]⟩ : ByteArray)) ++ t360)) else (none))) else (none))) else ((impl_textOf.f k y337).bind fun t361 => (if t361.size + 1 ≤ 9223372036854775807 then ((impl_held.f k y341 (([5] : List Int))).bind fun t365 => (if (t361 ++ (⟨#[61]⟩ : ByteArray)).size + t365.size ≤ 9223372036854775807 then (some ((t361 ++ (⟨#[61]⟩ : ByteArray)) ++ t365)) else (none))) else (none)))))) else (none)) = some r := by first | (rw [hy337]; with_reducible exact H) | (have H2_ := (Option.bind_some _ _).symm.trans H; rw [hy337]; with_reducible exact H2_) | (have H2_ := (Option.bind_some _ _).symm.trans H; with_reducible exact H2_) | with_reducible exact H | (rw [hy337]; exact H) | exact H
         have Ny337 := Aside0.mk hy337
         clear hy337
         have c36b0 := eq_true (of_decide_eq_true pwb_ : 0 ≤ t336)
         by_cases c37 : t336 ≤ (ji2)
         ·rw [if_pos c37] at H
          have c37b0 := eq_true c37
          have c37b1 : decide (t336 ≤ (ji2)) = true := decide_eq_true c37
          clear c37
          have c38b0 := eq_true (of_decide_eq_true pwb_ : (ji2) ≤ (l0.length : Int))
          obtain ⟨y341, hy341⟩ : ∃ y_ : List (S62), y_ = ((l0.take ((ji2) : Int).toNat).drop (t336 : Int).toNat) := ⟨_, rfl⟩
          replace H : (if ((rd_T62 l0 (ji2)).f0) = 3 then ((impl_held.f k y337 (([4, 5] : List Int))).bind fun t348 => (if t348.size + 1 ≤ 9223372036854775807 then ((impl_held.f k y341 (([3, 4, 5] : List Int))).bind fun t352 => (if (t348 ++ (⟨#[38]⟩ : ByteArray)).size + t352.size ≤ 9223372036854775807 then (some ((t348 ++ (⟨#[38]⟩ : ByteArray)) ++ t352)) else (none))) else (none))) else (if ((rd_T62 l0 (ji2)).f0) = 4 then ((impl_held.f k y337 (([5] : List Int))).bind fun t356 => (if t356.size + 1 ≤ 9223372036854775807 then ((impl_held.f k y341 (([4, 5] : List Int))).bind fun t360 => (if (t356 ++ (⟨#[124]⟩ : ByteArray)).size + t360.size ≤ 9223372036854775807 then (some ((t356 ++ (⟨#[124]⟩ : ByteArray)) ++ t360)) else (none))) else (none))) else ((impl_textOf.f k y337).bind fun t361 => (if t361.size + 1 ≤ 9223372036854775807 then ((impl_held.f k y341 (([5] : List Int))).bind fun t365 => (if (t361 ++ (⟨#[61]⟩ : ByteArray)).size + t365.size ≤ 9223372036854775807 then (some ((t361 ++ (⟨#[61]⟩ : ByteArray)) ++ t365)) else (none))) else (none))))) = some r := by first | (rw [hy341]; with_reducible exact H) | (have H2_ := (Option.bind_some _ _).symm.trans H; rw [hy341]; with_reducible exact H2_) | (have H2_ := (Option.bind_some _ _).symm.trans H; with_reducible exact H2_) | with_reducible exact H | (rw [hy341]; exact H) | exact H
          have Ny341 := Aside0.mk hy341
          clear hy341
          by_cases c39 : ((rd_T62 l0 (ji2)).f0) = 3
          ·rw [if_pos c39] at H
           have c39b0 : (((rd_T62 l0 (ji2)).f0) == 3) = true := beq_iff_eq.mpr c39
           have c39b1 : (((rd_T62 l0 (ji2)).f0) != 3) = false := bne_eq_false_iff_eq.mpr c39
           clear c39
           obtain ⟨y345, hy345⟩ : ∃ y_ : List Int, y_ = (([4, 5] : List Int)) := ⟨_, rfl⟩
           replace H : ((impl_held.f k y337 y345).bind fun t348 => (if t348.size + 1 ≤ 9223372036854775807 then ((impl_held.f k y341 (([3, 4, 5] : List Int))).bind fun t352 => (if (t348 ++ (⟨#[38]⟩ : ByteArray)).size + t352.size ≤ 9223372036854775807 then (some ((t348 ++ (⟨#[38]⟩ : ByteArray)) ++ t352)) else (none))) else (none))) = some r := by first | (rw [hy345]; with_reducible exact H) | (have H2_ := (Option.bind_some _ _).symm.trans H; rw [hy345]; with_reducible exact H2_) | (have H2_ := (Option.bind_some _ _).symm.trans H; with_reducible exact H2_) | with_reducible exact H | (rw [hy345]; exact H) | exact H
           have Ny345 := Aside0.mk hy345
           clear hy345
           replace H := Option.bind_eq_some_iff.mp H
           obtain ⟨t348, A400, H⟩ := H
           replace H : (if t348.size + 1 ≤ 9223372036854775807 then ((impl_held.f k y341 (([3, 4, 5] : List Int))).bind fun t352 => (if (t348 ++ (⟨#[38]⟩ : ByteArray)).size + t352.size ≤ 9223372036854775807 then (some ((t348 ++ (⟨#[38]⟩ : ByteArray)) ++ t352)) else (none))) else (none)) = some r := H
           have A40 := Aside0.mk A400
           clear A400
           by_cases c41 : t348.size + 1 ≤ 9223372036854775807
           ·rw [if_pos c41] at H
            have c41b0 := eq_true c41
            have c41b1 : decide (t348.size + 1 ≤ 9223372036854775807) = true := decide_eq_true c41
            try have c41b2 : (9223372036854775807 < t348.size + 1) = False := eq_false (Nat.not_lt.2 c41)
            obtain ⟨y349, hy349⟩ : ∃ y_ : List Int, y_ = (([3, 4, 5] : List Int)) := ⟨_, rfl⟩
            replace H : ((impl_held.f k y341 y349).bind fun t352 => (if (t348 ++ (⟨#[38]⟩ : ByteArray)).size + t352.size ≤ 9223372036854775807 then (some ((t348 ++ (⟨#[38]⟩ : ByteArray)) ++ t352)) else (none))) = some r := by first | (rw [hy349]; with_reducible exact H) | (have H2_ := (Option.bind_some _ _).symm.trans H; rw [hy349]; with_reducible exact H2_) | (have H2_ := (Option.bind_some _ _).symm.trans H; with_reducible exact H2_) | with_reducible exact H | (rw [hy349]; exact H) | exact H
            have Ny349 := Aside0.mk hy349
            clear hy349
            replace H := Option.bind_eq_some_iff.mp H
            obtain ⟨t352, A420, H⟩ := H
            replace H : (if (t348 ++ (⟨#[38]⟩ : ByteArray)).size + t352.size ≤ 9223372036854775807 then (some ((t348 ++ (⟨#[38]⟩ : ByteArray)) ++ t352)) else (none)) = some r := H
            have A42 := Aside0.mk A420
            clear A420
            by_cases c43 : (t348 ++ (⟨#[38]⟩ : ByteArray)).size + t352.size ≤ 9223372036854775807
            ·rw [if_pos c43] at H
             have c43b0 := eq_true c43
             have c43b1 : decide ((t348 ++ (⟨#[38]⟩ : ByteArray)).size + t352.size ≤ 9223372036854775807) = true := decide_eq_true c43
             try have c43b2 : (9223372036854775807 < (t348 ++ (⟨#[38]⟩ : ByteArray)).size + t352.size) = False := eq_false (Nat.not_lt.2 c43)
             try have c43b3 : (9223372036854775807 < t348.size + 1 + t352.size) = False := eq_false (by have z_ := c43; simp only [ByteArray.size_append] at z_; have e0_ : (⟨#[38]⟩ : ByteArray).size = 1 := rfl; omega)
             obtain rfl := Option.some.inj H
             have p316 : 0 ≤ ((ji2) : Int) := of_decide_eq_true pwb_
             have q316 : (ji2) < (l0.length : Int) := of_decide_eq_true pwb_
             obtain ⟨ad316, e316, hx316_0, hx316_1⟩ := at_T62 HR0.out (ji2) p316 q316
             cases e316
             replace p316 := eq_true p316
             replace q316 := eq_true q316
             go_enter Try.func68, Try.ntmps68
             go_wp2_with (first | ((with_reducible refine gate_dst (N := 4) rfl ?_); refine box_event ?hg (N := 4) ?hd (cs := #[.int .i64 0, .int .i64 0]) (t := 62) ?hr ?_; (case hd => rfl); (case hg => rfl); (case hr => first | (go_simp; done) | (go_simp; rfl)); intro gb317 hg w44 hbox hb; have n0_ := Aside0.mk (below_step pwi_ hb); have n1_ := Aside0.mk (hbox); have n2_ := Aside0.mk ((by rw [hg]; exact (below_size pwi_) : w.heap.size ≤ gb317)); have n3_ := Aside0.mk ((by rw [hg]; exact (below_size pwi_) : w.heap.size ≤ gb317)); clear HB; have HB := n0_; have BK317 := n1_; have GW317 := n2_; have GE317 := n3_; clear n0_ n1_ n2_ n3_; clear hb hbox hg; have hcz45_0 : w44.cell? ⟨gb317, 0, none⟩ = some (.int .i64 0) := (blk_cell BK317.out 0).trans rfl; have hcz45_1 : w44.cell? ⟨gb317, 1, none⟩ = some (.int .i64 0) := (blk_cell BK317.out 1).trans rfl; have hfz45_0 := blk_frozen BK317.out 0; have hfz45_1 := blk_frozen BK317.out 1) | ((with_reducible refine gate_store (t := 62) (p := 4) rfl ?_); (try (rw [drewN_self w44]; generalize hq_ : World.drewN w44 _ = w44; have n0_ := Aside0.mk (blk_at hq_ BK317.out); have n1_ := Aside0.mk (below_at hq_ HB.out); clear hq_ BK317 HB; have BK317 := n0_; have HB := n1_; clear n0_ n1_)); refine store_event (t := 62) (p := 4) (v := ?vo_w46) (w1 := ((w44.setCell ⟨gb317, 0, none⟩ (.int .i64 ((rd_T62 l0 (ji2)).f0))).setCell ⟨gb317, 1, none⟩ (.int .i64 ((rd_T62 l0 (ji2)).f1)))) ?hg ?ho ?hn ?hr ?_; (case ho => rfl); (case hg => rfl); (case hn => rfl); (case hr => first | (go_simp; done) | (go_simp; rfl)); intro w46 hw; have n0_ : Aside0 (w46.heap[gb317]? = some (.cells #[.int .i64 ((rd_T62 l0 (ji2)).f0), .int .i64 ((rd_T62 l0 (ji2)).f1)] 62 (0, 0))) := ⟨(by rw [hw]; exact pwp_)⟩; have n1_ : Aside0 (Below w.heap.size w w46) := ⟨(by rw [hw]; exact pwn_)⟩; clear hw; clear BK317; clear HB; have BK317 := n0_; have HB := n1_; clear n0_ n1_; have hcz47_0 : w46.cell? ⟨gb317, 0, none⟩ = some (.int .i64 ((rd_T62 l0 (ji2)).f0)) := (blk_cell BK317.out 0).trans rfl; have hcz47_1 : w46.cell? ⟨gb317, 1, none⟩ = some (.int .i64 ((rd_T62 l0 (ji2)).f1)) := (blk_cell BK317.out 1).trans rfl; have hfz47_0 := blk_frozen BK317.out 0; have hfz47_1 := blk_frozen BK317.out 1; have q48 : ((ji2) : Int) ≤ ((l0.length : Int) : Int) := of_decide_eq_true pwb_; obtain ⟨i048, hi048, _, hsz48, _⟩ := info_parts info62; have hroom48 : l0.length ≤ c0 := HC0.out; have hC48 : Kd.C k62 _ (some ad316) l0.length l0 := HR0.out; have hcut48 := cut_to (P := Try.prog) 25 62 .i64 Try.underlying25 hi048 (some ad316) l0.length c0 (ji2) (of_decide_eq_true pwb_) q48 hroom48; have hr48 := Kd.C_take (m := ((ji2) : Int).toNat) hC48 (by omega); have hy48 : y332.length = ((ji2) : Int).toNat := (by rw [Ny332.out, List.length_take]; omega); rw [← Ny332.out] at hr48; rw [← hy48] at hcut48; have HR335 := Aside0.mk hr48; have HC335 := Aside0.mk (show y332.length ≤ c0 from by omega); clear hr48 hC48 hroom48 hi048 hsz48; have KY48 := Aside0.mk hy48; clear hy48; replace q48 := eq_true q48) | (go_at_call 97; (with_reducible refine (impl_lastPart.calls k _ _ y332 t336 _ ?side1 ?side2 A33.out).mono ?_); (case side1 => repeat (first | exact (Kd.C_below HR335.out HB.out) | (with_reducible refine Kd.C_alloc ?_ _) | (with_reducible refine Kd.C_drewN ?_ _) | (with_reducible refine Kd.C_drew ?_))); (case side2 => exact HC335.out); rintro e w' ⟨rfl, ⟨nd, rfl⟩⟩; (try first | exact ⟨rfl, _, World.drewN_drewN _ _ _⟩ | exact ⟨rfl, _, Eq.trans (World.drewN_drewN _ _ _) (congrArg (World.drewN _) (Nat.add_assoc _ _ _))⟩); have q49 : (t336 : Int) ≤ ((l0.length : Int) : Int) := of_decide_eq_true pwb_; obtain ⟨i049, hi049, _, hsz49, _⟩ := info_parts info62; have hroom49 : l0.length ≤ c0 := HC0.out; have hC49 : Kd.C k62 _ (some ad316) l0.length l0 := HR0.out; have hcut49 := cut_to (P := Try.prog) 25 62 .i64 Try.underlying25 hi049 (some ad316) l0.length c0 t336 (of_decide_eq_true pwb_) q49 hroom49; have hr49 := Kd.C_take (m := (t336 : Int).toNat) hC49 (by omega); have hy49 : y337.length = (t336 : Int).toNat := (by rw [Ny337.out, List.length_take]; omega); rw [← Ny337.out] at hr49; rw [← hy49] at hcut49; have HR340 := Aside0.mk hr49; have HC340 := Aside0.mk (show y337.length ≤ c0 from by omega); clear hr49 hC49 hroom49 hi049 hsz49; have KY49 := Aside0.mk hy49; clear hy49; replace q49 := eq_true q49; have q50 : ((ji2) : Int) ≤ ((l0.length : Int) : Int) := of_decide_eq_true pwb_; obtain ⟨i050, hi050, _, hsz50, _⟩ := info_parts info62; have hroom50 : l0.length ≤ c0 := HC0.out; have hC50 : Kd.C k62 _ (some ad316) l0.length l0 := HR0.out; have ql50 : (t336 : Int) ≤ ((ji2) : Int) := of_decide_eq_true pwb_; have q050 : (0 : Int) ≤ (t336 : Int) := of_decide_eq_true pwb_; have hcut50 := cut_mid (P := Try.prog) 25 62 .i64 .i64 Try.underlying25 hi050 2 hsz50 (some ad316) l0.length c0 t336 (ji2) q050 ql50 q50 hroom50; have hr50 := Kd.C_mid (lo := (t336 : Int).toNat) (hi := ((ji2) : Int).toNat) (c := c0) hC50 (by omega) (by omega) hroom50; obtain ⟨A50, hA50⟩ : ∃ A1, A1 = (if c0 = (t336 : Int).toNat then (some ad316) else ((some ad316) : Option Addr).map (·.add ((t336 : Int).toNat * 2))) := ⟨_, rfl⟩; obtain ⟨c50, hc50⟩ : ∃ c1, c1 = c0 - (t336 : Int).toNat := ⟨_, rfl⟩; have hy50 : y341.length = ((ji2) : Int).toNat - (t336 : Int).toNat := (by rw [Ny341.out, List.length_drop, List.length_take] <;> omega); rw [show ((l0).take ((ji2) : Int).toNat).drop (t336 : Int).toNat = y341 from Ny341.out.symm] at hr50; replace hr50 : Kd.C k62 _ A50 y341.length y341 := (by rw [hA50]; exact hr50); rw [← hy50, ← hA50, ← hc50] at hcut50; have HR344 := Aside0.mk hr50; have HC344 := Aside0.mk (show y341.length ≤ c50 from by rw [hy50, hc50]; exact Nat.sub_le_sub_right (Nat.le_trans (by omega) hroom50) _); clear hr50 hC50 hroom50 hi050 hsz50 hc50; have KY50 := Aside0.mk hy50; have KA50 := Aside0.mk hA50; clear hy50 hA50; replace q50 := eq_true q50) | ((with_reducible refine gate_dst (N := 57) rfl ?_); refine Kd.R_lit (Kd.int .i64) _ 3 ?hg (N := 57) ?hd (xs := ([4, 5] : List Int)) (inner := [.int .i64 4, .int .i64 5]) (ok := fun _ => True) (okp := fun _ => True) ?hr ?hp (fun _ hk => hk) trivial (Below.refl _ _) (Nat.le_refl _) (by simp) ?_; (case hd => rfl); (case hg => rfl); (case hr => first | (go_simp; done) | (go_simp; rfl)); (case hp => exact (Reps.one (show Kd.M (Kd.int .i64) _ _ _ 4 [.int .i64 4] from rfl) (Reps.one (show Kd.M (Kd.int .i64) _ _ _ 5 [.int .i64 5] from rfl) (Reps.none _ _)))); intro v346 w51 ho52 hb hg_ hnew_; clear hg_ hnew_; (first | rw [← Ny345.out] at ho52 | (simp only [Int.reduceToNat] at ho52; rw [← Ny345.out] at ho52)); have n0_ := Aside0.mk (Kd.R_lower ho52 (below_size pwn_)); have n1_ := Aside0.mk (blk_below (g := gb317) (o := .cells #[.int .i64 ((rd_T62 l0 (ji2)).f0), .int .i64 ((rd_T62 l0 (ji2)).f1)] 62 (0, 0)) pwh_ hb); have n2_ := Aside0.mk (below_step pwn_ hb); clear BK317; clear HB; have HO347 := n0_; have BK317 := n1_; have HB := n2_; clear n0_ n1_ n2_; clear hb ho52; obtain ⟨Ao53, co53, eo53⟩ := Kd.R_slice HO347.out; subst eo53) | (go_at_call 96; (with_reducible refine (h0_ k (by omega) _ _ y337 _ _ y345 t348 _ ?side1 ?side2 ?side3 ?side4 A40.out).mono ?_); (case side1 => repeat (first | exact (Kd.C_below HR340.out HB.out) | (with_reducible refine Kd.C_alloc ?_ _) | (with_reducible refine Kd.C_drewN ?_ _) | (with_reducible refine Kd.C_drew ?_))); (case side2 => exact HC340.out); (case side3 => repeat (first | exact (Kd.R_reads' HO347.out).2.2 | (with_reducible refine Kd.C_alloc ?_ _) | (with_reducible refine Kd.C_drewN ?_ _) | (with_reducible refine Kd.C_drew ?_))); (case side4 => exact (Kd.R_reads' HO347.out).2.1); rintro e w54 ⟨rfl, hb⟩; have n0_ := Aside0.mk (Kd.R_below (by (with_reducible repeat apply Kd.R_alloc); exact HO347.out) hb); have n1_ := Aside0.mk (blk_below (g := gb317) (o := .cells #[.int .i64 ((rd_T62 l0 (ji2)).f0), .int .i64 ((rd_T62 l0 (ji2)).f1)] 62 (0, 0)) pwh_ hb); have n2_ := Aside0.mk (below_step pwn_ hb); clear HO347; clear BK317; clear HB; have HO347 := n0_; have BK317 := n1_; have HB := n2_; clear n0_ n1_ n2_; (try clear hb); (try clear hb2); (try clear hk); (try clear hi)) | ((with_reducible refine gate_dst (N := 61) rfl ?_); refine Kd.R_lit (Kd.int .i64) _ 3 ?hg (N := 61) ?hd (xs := ([3, 4, 5] : List Int)) (inner := [.int .i64 3, .int .i64 4, .int .i64 5]) (ok := fun _ => True) (okp := fun _ => True) ?hr ?hp (fun _ hk => hk) trivial (Below.refl _ _) (Nat.le_refl _) (by simp) ?_; (case hd => rfl); (case hg => rfl); (case hr => first | (go_simp; done) | (go_simp; rfl)); (case hp => exact (Reps.one (show Kd.M (Kd.int .i64) _ _ _ 3 [.int .i64 3] from rfl) (Reps.one (show Kd.M (Kd.int .i64) _ _ _ 4 [.int .i64 4] from rfl) (Reps.one (show Kd.M (Kd.int .i64) _ _ _ 5 [.int .i64 5] from rfl) (Reps.none _ _))))); intro v350 w55 ho56 hb hg_ hnew_; clear hg_ hnew_; (first | rw [← Ny349.out] at ho56 | (simp only [Int.reduceToNat] at ho56; rw [← Ny349.out] at ho56)); have n0_ := Aside0.mk (Kd.R_elder' (by (with_reducible repeat apply Kd.R_alloc); exact HO347.out) (Kd.R_base ho56) hb); have n1_ := Aside0.mk (Kd.R_lower (Kd.R_new' ho56 (Kd.R_lt (by (with_reducible repeat apply Kd.R_alloc); exact HO347.out))) (below_size pwn_)); have n2_ := Aside0.mk (blk_below (g := gb317) (o := .cells #[.int .i64 ((rd_T62 l0 (ji2)).f0), .int .i64 ((rd_T62 l0 (ji2)).f1)] 62 (0, 0)) pwh_ hb); have n3_ := Aside0.mk (below_step pwn_ hb); clear HO347; clear BK317; clear HB; have HO347 := n0_; have HO351 := n1_; have BK317 := n2_; have HB := n3_; clear n0_ n1_ n2_ n3_; clear hb ho56; obtain ⟨Ao57, co57, eo57⟩ := Kd.R_slice HO351.out; subst eo57) | (go_at_call 96; (with_reducible refine (h0_ k (by omega) _ _ y341 _ _ y349 t352 _ ?side1 ?side2 ?side3 ?side4 A42.out).mono ?_); (case side1 => repeat (first | exact (Kd.C_below HR344.out HB.out) | (with_reducible refine Kd.C_alloc ?_ _) | (with_reducible refine Kd.C_drewN ?_ _) | (with_reducible refine Kd.C_drew ?_))); (case side2 => exact HC344.out); (case side3 => repeat (first | exact (Kd.R_reads' HO351.out).2.2 | (with_reducible refine Kd.C_alloc ?_ _) | (with_reducible refine Kd.C_drewN ?_ _) | (with_reducible refine Kd.C_drew ?_))); (case side4 => exact (Kd.R_reads' HO351.out).2.1); rintro e w58 ⟨rfl, hb⟩; have n0_ := Aside0.mk (Kd.R_below (by (with_reducible repeat apply Kd.R_alloc); exact HO347.out) hb); have n1_ := Aside0.mk (Kd.R_below (by (with_reducible repeat apply Kd.R_alloc); exact HO351.out) hb); have n2_ := Aside0.mk (blk_below (g := gb317) (o := .cells #[.int .i64 ((rd_T62 l0 (ji2)).f0), .int .i64 ((rd_T62 l0 (ji2)).f1)] 62 (0, 0)) pwh_ hb); have n3_ := Aside0.mk (below_step pwn_ hb); clear HO347; clear HO351; clear BK317; clear HB; have HO347 := n0_; have HO351 := n1_; have BK317 := n2_; have HB := n3_; clear n0_ n1_ n2_ n3_; (try clear hb); (try clear hb2); (try clear hk); (try clear hi)))
             repeat (go_quiet (first | ((with_reducible refine gate_dst (N := 4) rfl ?_); refine box_event ?hg (N := 4) ?hd (cs := #[.int .i64 0, .int .i64 0]) (t := 62) ?hr ?_; (case hd => rfl); (case hg => rfl); (case hr => first | (go_simp; done) | (go_simp; rfl)); intro gb317 hg w44 hbox hb; have n0_ := Aside0.mk (below_step pwi_ hb); have n1_ := Aside0.mk (hbox); have n2_ := Aside0.mk ((by rw [hg]; exact (below_size pwi_) : w.heap.size ≤ gb317)); have n3_ := Aside0.mk ((by rw [hg]; exact (below_size pwi_) : w.heap.size ≤ gb317)); clear HB; have HB := n0_; have BK317 := n1_; have GW317 := n2_; have GE317 := n3_; clear n0_ n1_ n2_ n3_; clear hb hbox hg; have hcz45_0 : w44.cell? ⟨gb317, 0, none⟩ = some (.int .i64 0) := (blk_cell BK317.out 0).trans rfl; have hcz45_1 : w44.cell? ⟨gb317, 1, none⟩ = some (.int .i64 0) := (blk_cell BK317.out 1).trans rfl; have hfz45_0 := blk_frozen BK317.out 0; have hfz45_1 := blk_frozen BK317.out 1) | ((with_reducible refine gate_store (t := 62) (p := 4) rfl ?_); (try (rw [drewN_self w44]; generalize hq_ : World.drewN w44 _ = w44; have n0_ := Aside0.mk (blk_at hq_ BK317.out); have n1_ := Aside0.mk (below_at hq_ HB.out); clear hq_ BK317 HB; have BK317 := n0_; have HB := n1_; clear n0_ n1_)); refine store_event (t := 62) (p := 4) (v := ?vo_w46) (w1 := ((w44.setCell ⟨gb317, 0, none⟩ (.int .i64 ((rd_T62 l0 (ji2)).f0))).setCell ⟨gb317, 1, none⟩ (.int .i64 ((rd_T62 l0 (ji2)).f1)))) ?hg ?ho ?hn ?hr ?_; (case ho => rfl); (case hg => rfl); (case hn => rfl); (case hr => first | (go_simp; done) | (go_simp; rfl)); intro w46 hw; have n0_ : Aside0 (w46.heap[gb317]? = some (.cells #[.int .i64 ((rd_T62 l0 (ji2)).f0), .int .i64 ((rd_T62 l0 (ji2)).f1)] 62 (0, 0))) := ⟨(by rw [hw]; exact pwp_)⟩; have n1_ : Aside0 (Below w.heap.size w w46) := ⟨(by rw [hw]; exact pwn_)⟩; clear hw; clear BK317; clear HB; have BK317 := n0_; have HB := n1_; clear n0_ n1_; have hcz47_0 : w46.cell? ⟨gb317, 0, none⟩ = some (.int .i64 ((rd_T62 l0 (ji2)).f0)) := (blk_cell BK317.out 0).trans rfl; have hcz47_1 : w46.cell? ⟨gb317, 1, none⟩ = some (.int .i64 ((rd_T62 l0 (ji2)).f1)) := (blk_cell BK317.out 1).trans rfl; have hfz47_0 := blk_frozen BK317.out 0; have hfz47_1 := blk_frozen BK317.out 1; have q48 : ((ji2) : Int) ≤ ((l0.length : Int) : Int) := of_decide_eq_true pwb_; obtain ⟨i048, hi048, _, hsz48, _⟩ := info_parts info62; have hroom48 : l0.length ≤ c0 := HC0.out; have hC48 : Kd.C k62 _ (some ad316) l0.length l0 := HR0.out; have hcut48 := cut_to (P := Try.prog) 25 62 .i64 Try.underlying25 hi048 (some ad316) l0.length c0 (ji2) (of_decide_eq_true pwb_) q48 hroom48; have hr48 := Kd.C_take (m := ((ji2) : Int).toNat) hC48 (by omega); have hy48 : y332.length = ((ji2) : Int).toNat := (by rw [Ny332.out, List.length_take]; omega); rw [← Ny332.out] at hr48; rw [← hy48] at hcut48; have HR335 := Aside0.mk hr48; have HC335 := Aside0.mk (show y332.length ≤ c0 from by omega); clear hr48 hC48 hroom48 hi048 hsz48; have KY48 := Aside0.mk hy48; clear hy48; replace q48 := eq_true q48) | (go_at_call 97; (with_reducible refine (impl_lastPart.calls k _ _ y332 t336 _ ?side1 ?side2 A33.out).mono ?_); (case side1 => repeat (first | exact (Kd.C_below HR335.out HB.out) | (with_reducible refine Kd.C_alloc ?_ _) | (with_reducible refine Kd.C_drewN ?_ _) | (with_reducible refine Kd.C_drew ?_))); (case side2 => exact HC335.out); rintro e w' ⟨rfl, ⟨nd, rfl⟩⟩; (try first | exact ⟨rfl, _, World.drewN_drewN _ _ _⟩ | exact ⟨rfl, _, Eq.trans (World.drewN_drewN _ _ _) (congrArg (World.drewN _) (Nat.add_assoc _ _ _))⟩); have q49 : (t336 : Int) ≤ ((l0.length : Int) : Int) := of_decide_eq_true pwb_; obtain ⟨i049, hi049, _, hsz49, _⟩ := info_parts info62; have hroom49 : l0.length ≤ c0 := HC0.out; have hC49 : Kd.C k62 _ (some ad316) l0.length l0 := HR0.out; have hcut49 := cut_to (P := Try.prog) 25 62 .i64 Try.underlying25 hi049 (some ad316) l0.length c0 t336 (of_decide_eq_true pwb_) q49 hroom49; have hr49 := Kd.C_take (m := (t336 : Int).toNat) hC49 (by omega); have hy49 : y337.length = (t336 : Int).toNat := (by rw [Ny337.out, List.length_take]; omega); rw [← Ny337.out] at hr49; rw [← hy49] at hcut49; have HR340 := Aside0.mk hr49; have HC340 := Aside0.mk (show y337.length ≤ c0 from by omega); clear hr49 hC49 hroom49 hi049 hsz49; have KY49 := Aside0.mk hy49; clear hy49; replace q49 := eq_true q49; have q50 : ((ji2) : Int) ≤ ((l0.length : Int) : Int) := of_decide_eq_true pwb_; obtain ⟨i050, hi050, _, hsz50, _⟩ := info_parts info62; have hroom50 : l0.length ≤ c0 := HC0.out; have hC50 : Kd.C k62 _ (some ad316) l0.length l0 := HR0.out; have ql50 : (t336 : Int) ≤ ((ji2) : Int) := of_decide_eq_true pwb_; have q050 : (0 : Int) ≤ (t336 : Int) := of_decide_eq_true pwb_; have hcut50 := cut_mid (P := Try.prog) 25 62 .i64 .i64 Try.underlying25 hi050 2 hsz50 (some ad316) l0.length c0 t336 (ji2) q050 ql50 q50 hroom50; have hr50 := Kd.C_mid (lo := (t336 : Int).toNat) (hi := ((ji2) : Int).toNat) (c := c0) hC50 (by omega) (by omega) hroom50; obtain ⟨A50, hA50⟩ : ∃ A1, A1 = (if c0 = (t336 : Int).toNat then (some ad316) else ((some ad316) : Option Addr).map (·.add ((t336 : Int).toNat * 2))) := ⟨_, rfl⟩; obtain ⟨c50, hc50⟩ : ∃ c1, c1 = c0 - (t336 : Int).toNat := ⟨_, rfl⟩; have hy50 : y341.length = ((ji2) : Int).toNat - (t336 : Int).toNat := (by rw [Ny341.out, List.length_drop, List.length_take] <;> omega); rw [show ((l0).take ((ji2) : Int).toNat).drop (t336 : Int).toNat = y341 from Ny341.out.symm] at hr50; replace hr50 : Kd.C k62 _ A50 y341.length y341 := (by rw [hA50]; exact hr50); rw [← hy50, ← hA50, ← hc50] at hcut50; have HR344 := Aside0.mk hr50; have HC344 := Aside0.mk (show y341.length ≤ c50 from by rw [hy50, hc50]; exact Nat.sub_le_sub_right (Nat.le_trans (by omega) hroom50) _); clear hr50 hC50 hroom50 hi050 hsz50 hc50; have KY50 := Aside0.mk hy50; have KA50 := Aside0.mk hA50; clear hy50 hA50; replace q50 := eq_true q50) | ((with_reducible refine gate_dst (N := 57) rfl ?_); refine Kd.R_lit (Kd.int .i64) _ 3 ?hg (N := 57) ?hd (xs := ([4, 5] : List Int)) (inner := [.int .i64 4, .int .i64 5]) (ok := fun _ => True) (okp := fun _ => True) ?hr ?hp (fun _ hk => hk) trivial (Below.refl _ _) (Nat.le_refl _) (by simp) ?_; (case hd => rfl); (case hg => rfl); (case hr => first | (go_simp; done) | (go_simp; rfl)); (case hp => exact (Reps.one (show Kd.M (Kd.int .i64) _ _ _ 4 [.int .i64 4] from rfl) (Reps.one (show Kd.M (Kd.int .i64) _ _ _ 5 [.int .i64 5] from rfl) (Reps.none _ _)))); intro v346 w51 ho52 hb hg_ hnew_; clear hg_ hnew_; (first | rw [← Ny345.out] at ho52 | (simp only [Int.reduceToNat] at ho52; rw [← Ny345.out] at ho52)); have n0_ := Aside0.mk (Kd.R_lower ho52 (below_size pwn_)); have n1_ := Aside0.mk (blk_below (g := gb317) (o := .cells #[.int .i64 ((rd_T62 l0 (ji2)).f0), .int .i64 ((rd_T62 l0 (ji2)).f1)] 62 (0, 0)) pwh_ hb); have n2_ := Aside0.mk (below_step pwn_ hb); clear BK317; clear HB; have HO347 := n0_; have BK317 := n1_; have HB := n2_; clear n0_ n1_ n2_; clear hb ho52; obtain ⟨Ao53, co53, eo53⟩ := Kd.R_slice HO347.out; subst eo53) | (go_at_call 96; (with_reducible refine (h0_ k (by omega) _ _ y337 _ _ y345 t348 _ ?side1 ?side2 ?side3 ?side4 A40.out).mono ?_); (case side1 => repeat (first | exact (Kd.C_below HR340.out HB.out) | (with_reducible refine Kd.C_alloc ?_ _) | (with_reducible refine Kd.C_drewN ?_ _) | (with_reducible refine Kd.C_drew ?_))); (case side2 => exact HC340.out); (case side3 => repeat (first | exact (Kd.R_reads' HO347.out).2.2 | (with_reducible refine Kd.C_alloc ?_ _) | (with_reducible refine Kd.C_drewN ?_ _) | (with_reducible refine Kd.C_drew ?_))); (case side4 => exact (Kd.R_reads' HO347.out).2.1); rintro e w54 ⟨rfl, hb⟩; have n0_ := Aside0.mk (Kd.R_below (by (with_reducible repeat apply Kd.R_alloc); exact HO347.out) hb); have n1_ := Aside0.mk (blk_below (g := gb317) (o := .cells #[.int .i64 ((rd_T62 l0 (ji2)).f0), .int .i64 ((rd_T62 l0 (ji2)).f1)] 62 (0, 0)) pwh_ hb); have n2_ := Aside0.mk (below_step pwn_ hb); clear HO347; clear BK317; clear HB; have HO347 := n0_; have BK317 := n1_; have HB := n2_; clear n0_ n1_ n2_; (try clear hb); (try clear hb2); (try clear hk); (try clear hi)) | ((with_reducible refine gate_dst (N := 61) rfl ?_); refine Kd.R_lit (Kd.int .i64) _ 3 ?hg (N := 61) ?hd (xs := ([3, 4, 5] : List Int)) (inner := [.int .i64 3, .int .i64 4, .int .i64 5]) (ok := fun _ => True) (okp := fun _ => True) ?hr ?hp (fun _ hk => hk) trivial (Below.refl _ _) (Nat.le_refl _) (by simp) ?_; (case hd => rfl); (case hg => rfl); (case hr => first | (go_simp; done) | (go_simp; rfl)); (case hp => exact (Reps.one (show Kd.M (Kd.int .i64) _ _ _ 3 [.int .i64 3] from rfl) (Reps.one (show Kd.M (Kd.int .i64) _ _ _ 4 [.int .i64 4] from rfl) (Reps.one (show Kd.M (Kd.int .i64) _ _ _ 5 [.int .i64 5] from rfl) (Reps.none _ _))))); intro v350 w55 ho56 hb hg_ hnew_; clear hg_ hnew_; (first | rw [← Ny349.out] at ho56 | (simp only [Int.reduceToNat] at ho56; rw [← Ny349.out] at ho56)); have n0_ := Aside0.mk (Kd.R_elder' (by (with_reducible repeat apply Kd.R_alloc); exact HO347.out) (Kd.R_base ho56) hb); have n1_ := Aside0.mk (Kd.R_lower (Kd.R_new' ho56 (Kd.R_lt (by (with_reducible repeat apply Kd.R_alloc); exact HO347.out))) (below_size pwn_)); have n2_ := Aside0.mk (blk_below (g := gb317) (o := .cells #[.int .i64 ((rd_T62 l0 (ji2)).f0), .int .i64 ((rd_T62 l0 (ji2)).f1)] 62 (0, 0)) pwh_ hb); have n3_ := Aside0.mk (below_step pwn_ hb); clear HO347; clear BK317; clear HB; have HO347 := n0_; have HO351 := n1_; have BK317 := n2_; have HB := n3_; clear n0_ n1_ n2_ n3_; clear hb ho56; obtain ⟨Ao57, co57, eo57⟩ := Kd.R_slice HO351.out; subst eo57) | (go_at_call 96; (with_reducible refine (h0_ k (by omega) _ _ y341 _ _ y349 t352 _ ?side1 ?side2 ?side3 ?side4 A42.out).mono ?_); (case side1 => repeat (first | exact (Kd.C_below HR344.out HB.out) | (with_reducible refine Kd.C_alloc ?_ _) | (with_reducible refine Kd.C_drewN ?_ _) | (with_reducible refine Kd.C_drew ?_))); (case side2 => exact HC344.out); (case side3 => repeat (first | exact (Kd.R_reads' HO351.out).2.2 | (with_reducible refine Kd.C_alloc ?_ _) | (with_reducible refine Kd.C_drewN ?_ _) | (with_reducible refine Kd.C_drew ?_))); (case side4 => exact (Kd.R_reads' HO351.out).2.1); rintro e w58 ⟨rfl, hb⟩; have n0_ := Aside0.mk (Kd.R_below (by (with_reducible repeat apply Kd.R_alloc); exact HO347.out) hb); have n1_ := Aside0.mk (Kd.R_below (by (with_reducible repeat apply Kd.R_alloc); exact HO351.out) hb); have n2_ := Aside0.mk (blk_below (g := gb317) (o := .cells #[.int .i64 ((rd_T62 l0 (ji2)).f0), .int .i64 ((rd_T62 l0 (ji2)).f1)] 62 (0, 0)) pwh_ hb); have n3_ := Aside0.mk (below_step pwn_ hb); clear HO347; clear HO351; clear BK317; clear HB; have HO347 := n0_; have HO351 := n1_; have BK317 := n2_; have HB := n3_; clear n0_ n1_ n2_ n3_; (try clear hb); (try clear hb2); (try clear hk); (try clear hi))); try go_wp2_with (first | ((with_reducible refine gate_dst (N := 4) rfl ?_); refine box_event ?hg (N := 4) ?hd (cs := #[.int .i64 0, .int .i64 0]) (t := 62) ?hr ?_; (case hd => rfl); (case hg => rfl); (case hr => first | (go_simp; done) | (go_simp; rfl)); intro gb317 hg w44 hbox hb; have n0_ := Aside0.mk (below_step pwi_ hb); have n1_ := Aside0.mk (hbox); have n2_ := Aside0.mk ((by rw [hg]; exact (below_size pwi_) : w.heap.size ≤ gb317)); have n3_ := Aside0.mk ((by rw [hg]; exact (below_size pwi_) : w.heap.size ≤ gb317)); clear HB; have HB := n0_; have BK317 := n1_; have GW317 := n2_; have GE317 := n3_; clear n0_ n1_ n2_ n3_; clear hb hbox hg; have hcz45_0 : w44.cell? ⟨gb317, 0, none⟩ = some (.int .i64 0) := (blk_cell BK317.out 0).trans rfl; have hcz45_1 : w44.cell? ⟨gb317, 1, none⟩ = some (.int .i64 0) := (blk_cell BK317.out 1).trans rfl; have hfz45_0 := blk_frozen BK317.out 0; have hfz45_1 := blk_frozen BK317.out 1) | ((with_reducible refine gate_store (t := 62) (p := 4) rfl ?_); (try (rw [drewN_self w44]; generalize hq_ : World.drewN w44 _ = w44; have n0_ := Aside0.mk (blk_at hq_ BK317.out); have n1_ := Aside0.mk (below_at hq_ HB.out); clear hq_ BK317 HB; have BK317 := n0_; have HB := n1_; clear n0_ n1_)); refine store_event (t := 62) (p := 4) (v := ?vo_w46) (w1 := ((w44.setCell ⟨gb317, 0, none⟩ (.int .i64 ((rd_T62 l0 (ji2)).f0))).setCell ⟨gb317, 1, none⟩ (.int .i64 ((rd_T62 l0 (ji2)).f1)))) ?hg ?ho ?hn ?hr ?_; (case ho => rfl); (case hg => rfl); (case hn => rfl); (case hr => first | (go_simp; done) | (go_simp; rfl)); intro w46 hw; have n0_ : Aside0 (w46.heap[gb317]? = some (.cells #[.int .i64 ((rd_T62 l0 (ji2)).f0), .int .i64 ((rd_T62 l0 (ji2)).f1)] 62 (0, 0))) := ⟨(by rw [hw]; exact pwp_)⟩; have n1_ : Aside0 (Below w.heap.size w w46) := ⟨(by rw [hw]; exact pwn_)⟩; clear hw; clear BK317; clear HB; have BK317 := n0_; have HB := n1_; clear n0_ n1_; have hcz47_0 : w46.cell? ⟨gb317, 0, none⟩ = some (.int .i64 ((rd_T62 l0 (ji2)).f0)) := (blk_cell BK317.out 0).trans rfl; have hcz47_1 : w46.cell? ⟨gb317, 1, none⟩ = some (.int .i64 ((rd_T62 l0 (ji2)).f1)) := (blk_cell BK317.out 1).trans rfl; have hfz47_0 := blk_frozen BK317.out 0; have hfz47_1 := blk_frozen BK317.out 1; have q48 : ((ji2) : Int) ≤ ((l0.length : Int) : Int) := of_decide_eq_true pwb_; obtain ⟨i048, hi048, _, hsz48, _⟩ := info_parts info62; have hroom48 : l0.length ≤ c0 := HC0.out; have hC48 : Kd.C k62 _ (some ad316) l0.length l0 := HR0.out; have hcut48 := cut_to (P := Try.prog) 25 62 .i64 Try.underlying25 hi048 (some ad316) l0.length c0 (ji2) (of_decide_eq_true pwb_) q48 hroom48; have hr48 := Kd.C_take (m := ((ji2) : Int).toNat) hC48 (by omega); have hy48 : y332.length = ((ji2) : Int).toNat := (by rw [Ny332.out, List.length_take]; omega); rw [← Ny332.out] at hr48; rw [← hy48] at hcut48; have HR335 := Aside0.mk hr48; have HC335 := Aside0.mk (show y332.length ≤ c0 from by omega); clear hr48 hC48 hroom48 hi048 hsz48; have KY48 := Aside0.mk hy48; clear hy48; replace q48 := eq_true q48) | (go_at_call 97; (with_reducible refine (impl_lastPart.calls k _ _ y332 t336 _ ?side1 ?side2 A33.out).mono ?_); (case side1 => repeat (first | exact (Kd.C_below HR335.out HB.out) | (with_reducible refine Kd.C_alloc ?_ _) | (with_reducible refine Kd.C_drewN ?_ _) | (with_reducible refine Kd.C_drew ?_))); (case side2 => exact HC335.out); rintro e w' ⟨rfl, ⟨nd, rfl⟩⟩; (try first | exact ⟨rfl, _, World.drewN_drewN _ _ _⟩ | exact ⟨rfl, _, Eq.trans (World.drewN_drewN _ _ _) (congrArg (World.drewN _) (Nat.add_assoc _ _ _))⟩); have q49 : (t336 : Int) ≤ ((l0.length : Int) : Int) := of_decide_eq_true pwb_; obtain ⟨i049, hi049, _, hsz49, _⟩ := info_parts info62; have hroom49 : l0.length ≤ c0 := HC0.out; have hC49 : Kd.C k62 _ (some ad316) l0.length l0 := HR0.out; have hcut49 := cut_to (P := Try.prog) 25 62 .i64 Try.underlying25 hi049 (some ad316) l0.length c0 t336 (of_decide_eq_true pwb_) q49 hroom49; have hr49 := Kd.C_take (m := (t336 : Int).toNat) hC49 (by omega); have hy49 : y337.length = (t336 : Int).toNat := (by rw [Ny337.out, List.length_take]; omega); rw [← Ny337.out] at hr49; rw [← hy49] at hcut49; have HR340 := Aside0.mk hr49; have HC340 := Aside0.mk (show y337.length ≤ c0 from by omega); clear hr49 hC49 hroom49 hi049 hsz49; have KY49 := Aside0.mk hy49; clear hy49; replace q49 := eq_true q49; have q50 : ((ji2) : Int) ≤ ((l0.length : Int) : Int) := of_decide_eq_true pwb_; obtain ⟨i050, hi050, _, hsz50, _⟩ := info_parts info62; have hroom50 : l0.length ≤ c0 := HC0.out; have hC50 : Kd.C k62 _ (some ad316) l0.length l0 := HR0.out; have ql50 : (t336 : Int) ≤ ((ji2) : Int) := of_decide_eq_true pwb_; have q050 : (0 : Int) ≤ (t336 : Int) := of_decide_eq_true pwb_; have hcut50 := cut_mid (P := Try.prog) 25 62 .i64 .i64 Try.underlying25 hi050 2 hsz50 (some ad316) l0.length c0 t336 (ji2) q050 ql50 q50 hroom50; have hr50 := Kd.C_mid (lo := (t336 : Int).toNat) (hi := ((ji2) : Int).toNat) (c := c0) hC50 (by omega) (by omega) hroom50; obtain ⟨A50, hA50⟩ : ∃ A1, A1 = (if c0 = (t336 : Int).toNat then (some ad316) else ((some ad316) : Option Addr).map (·.add ((t336 : Int).toNat * 2))) := ⟨_, rfl⟩; obtain ⟨c50, hc50⟩ : ∃ c1, c1 = c0 - (t336 : Int).toNat := ⟨_, rfl⟩; have hy50 : y341.length = ((ji2) : Int).toNat - (t336 : Int).toNat := (by rw [Ny341.out, List.length_drop, List.length_take] <;> omega); rw [show ((l0).take ((ji2) : Int).toNat).drop (t336 : Int).toNat = y341 from Ny341.out.symm] at hr50; replace hr50 : Kd.C k62 _ A50 y341.length y341 := (by rw [hA50]; exact hr50); rw [← hy50, ← hA50, ← hc50] at hcut50; have HR344 := Aside0.mk hr50; have HC344 := Aside0.mk (show y341.length ≤ c50 from by rw [hy50, hc50]; exact Nat.sub_le_sub_right (Nat.le_trans (by omega) hroom50) _); clear hr50 hC50 hroom50 hi050 hsz50 hc50; have KY50 := Aside0.mk hy50; have KA50 := Aside0.mk hA50; clear hy50 hA50; replace q50 := eq_true q50) | ((with_reducible refine gate_dst (N := 57) rfl ?_); refine Kd.R_lit (Kd.int .i64) _ 3 ?hg (N := 57) ?hd (xs := ([4, 5] : List Int)) (inner := [.int .i64 4, .int .i64 5]) (ok := fun _ => True) (okp := fun _ => True) ?hr ?hp (fun _ hk => hk) trivial (Below.refl _ _) (Nat.le_refl _) (by simp) ?_; (case hd => rfl); (case hg => rfl); (case hr => first | (go_simp; done) | (go_simp; rfl)); (case hp => exact (Reps.one (show Kd.M (Kd.int .i64) _ _ _ 4 [.int .i64 4] from rfl) (Reps.one (show Kd.M (Kd.int .i64) _ _ _ 5 [.int .i64 5] from rfl) (Reps.none _ _)))); intro v346 w51 ho52 hb hg_ hnew_; clear hg_ hnew_; (first | rw [← Ny345.out] at ho52 | (simp only [Int.reduceToNat] at ho52; rw [← Ny345.out] at ho52)); have n0_ := Aside0.mk (Kd.R_lower ho52 (below_size pwn_)); have n1_ := Aside0.mk (blk_below (g := gb317) (o := .cells #[.int .i64 ((rd_T62 l0 (ji2)).f0), .int .i64 ((rd_T62 l0 (ji2)).f1)] 62 (0, 0)) pwh_ hb); have n2_ := Aside0.mk (below_step pwn_ hb); clear BK317; clear HB; have HO347 := n0_; have BK317 := n1_; have HB := n2_; clear n0_ n1_ n2_; clear hb ho52; obtain ⟨Ao53, co53, eo53⟩ := Kd.R_slice HO347.out; subst eo53) | (go_at_call 96; (with_reducible refine (h0_ k (by omega) _ _ y337 _ _ y345 t348 _ ?side1 ?side2 ?side3 ?side4 A40.out).mono ?_); (case side1 => repeat (first | exact (Kd.C_below HR340.out HB.out) | (with_reducible refine Kd.C_alloc ?_ _) | (with_reducible refine Kd.C_drewN ?_ _) | (with_reducible refine Kd.C_drew ?_))); (case side2 => exact HC340.out); (case side3 => repeat (first | exact (Kd.R_reads' HO347.out).2.2 | (with_reducible refine Kd.C_alloc ?_ _) | (with_reducible refine Kd.C_drewN ?_ _) | (with_reducible refine Kd.C_drew ?_))); (case side4 => exact (Kd.R_reads' HO347.out).2.1); rintro e w54 ⟨rfl, hb⟩; have n0_ := Aside0.mk (Kd.R_below (by (with_reducible repeat apply Kd.R_alloc); exact HO347.out) hb); have n1_ := Aside0.mk (blk_below (g := gb317) (o := .cells #[.int .i64 ((rd_T62 l0 (ji2)).f0), .int .i64 ((rd_T62 l0 (ji2)).f1)] 62 (0, 0)) pwh_ hb); have n2_ := Aside0.mk (below_step pwn_ hb); clear HO347; clear BK317; clear HB; have HO347 := n0_; have BK317 := n1_; have HB := n2_; clear n0_ n1_ n2_; (try clear hb); (try clear hb2); (try clear hk); (try clear hi)) | ((with_reducible refine gate_dst (N := 61) rfl ?_); refine Kd.R_lit (Kd.int .i64) _ 3 ?hg (N := 61) ?hd (xs := ([3, 4, 5] : List Int)) (inner := [.int .i64 3, .int .i64 4, .int .i64 5]) (ok := fun _ => True) (okp := fun _ => True) ?hr ?hp (fun _ hk => hk) trivial (Below.refl _ _) (Nat.le_refl _) (by simp) ?_; (case hd => rfl); (case hg => rfl); (case hr => first | (go_simp; done) | (go_simp; rfl)); (case hp => exact (Reps.one (show Kd.M (Kd.int .i64) _ _ _ 3 [.int .i64 3] from rfl) (Reps.one (show Kd.M (Kd.int .i64) _ _ _ 4 [.int .i64 4] from rfl) (Reps.one (show Kd.M (Kd.int .i64) _ _ _ 5 [.int .i64 5] from rfl) (Reps.none _ _))))); intro v350 w55 ho56 hb hg_ hnew_; clear hg_ hnew_; (first | rw [← Ny349.out] at ho56 | (simp only [Int.reduceToNat] at ho56; rw [← Ny349.out] at ho56)); have n0_ := Aside0.mk (Kd.R_elder' (by (with_reducible repeat apply Kd.R_alloc); exact HO347.out) (Kd.R_base ho56) hb); have n1_ := Aside0.mk (Kd.R_lower (Kd.R_new' ho56 (Kd.R_lt (by (with_reducible repeat apply Kd.R_alloc); exact HO347.out))) (below_size pwn_)); have n2_ := Aside0.mk (blk_below (g := gb317) (o := .cells #[.int .i64 ((rd_T62 l0 (ji2)).f0), .int .i64 ((rd_T62 l0 (ji2)).f1)] 62 (0, 0)) pwh_ hb); have n3_ := Aside0.mk (below_step pwn_ hb); clear HO347; clear BK317; clear HB; have HO347 := n0_; have HO351 := n1_; have BK317 := n2_; have HB := n3_; clear n0_ n1_ n2_ n3_; clear hb ho56; obtain ⟨Ao57, co57, eo57⟩ := Kd.R_slice HO351.out; subst eo57) | (go_at_call 96; (with_reducible refine (h0_ k (by omega) _ _ y341 _ _ y349 t352 _ ?side1 ?side2 ?side3 ?side4 A42.out).mono ?_); (case side1 => repeat (first | exact (Kd.C_below HR344.out HB.out) | (with_reducible refine Kd.C_alloc ?_ _) | (with_reducible refine Kd.C_drewN ?_ _) | (with_reducible refine Kd.C_drew ?_))); (case side2 => exact HC344.out); (case side3 => repeat (first | exact (Kd.R_reads' HO351.out).2.2 | (with_reducible refine Kd.C_alloc ?_ _) | (with_reducible refine Kd.C_drewN ?_ _) | (with_reducible refine Kd.C_drew ?_))); (case side4 => exact (Kd.R_reads' HO351.out).2.1); rintro e w58 ⟨rfl, hb⟩; have n0_ := Aside0.mk (Kd.R_below (by (with_reducible repeat apply Kd.R_alloc); exact HO347.out) hb); have n1_ := Aside0.mk (Kd.R_below (by (with_reducible repeat apply Kd.R_alloc); exact HO351.out) hb); have n2_ := Aside0.mk (blk_below (g := gb317) (o := .cells #[.int .i64 ((rd_T62 l0 (ji2)).f0), .int .i64 ((rd_T62 l0 (ji2)).f1)] 62 (0, 0)) pwh_ hb); have n3_ := Aside0.mk (below_step pwn_ hb); clear HO347; clear HO351; clear BK317; clear HB; have HO347 := n0_; have HO351 := n1_; have BK317 := n2_; have HB := n3_; clear n0_ n1_ n2_ n3_; (try clear hb); (try clear hb2); (try clear hk); (try clear hi))))
             go_ret
             exact ⟨by first | rfl | (simp [errW_none, errW_some] <;> rfl) | (simp only [← hji2]; first | rfl | (simp [errW_none, errW_some] <;> rfl)) | (simp [*, errW_none, errW_some] <;> rfl), pwn_⟩
            ·rw [if_neg c43] at H
             exact absurd H (by simp)
           ·rw [if_neg c41] at H
            exact absurd H (by simp)
          ·rw [if_neg c39] at H
           have c39b0 : (((rd_T62 l0 (ji2)).f0) == 3) = false := beq_eq_false_iff_ne.mpr c39
           have c39b1 : (((rd_T62 l0 (ji2)).f0) != 3) = true := bne_iff_ne.mpr c39
           by_cases c59 : ((rd_T62 l0 (ji2)).f0) = 4
           ·rw [if_pos c59] at H
            have c59b0 : (((rd_T62 l0 (ji2)).f0) == 4) = true := beq_iff_eq.mpr c59
            have c59b1 : (((rd_T62 l0 (ji2)).f0) != 4) = false := bne_eq_false_iff_eq.mpr c59
            clear c59
            obtain ⟨y353, hy353⟩ : ∃ y_ : List Int, y_ = (([5] : List Int)) := ⟨_, rfl⟩
            replace H : ((impl_held.f k y337 y353).bind fun t356 => (if t356.size + 1 ≤ 9223372036854775807 then ((impl_held.f k y341 (([4, 5] : List Int))).bind fun t360 => (if (t356 ++ (⟨#[124]⟩ : ByteArray)).size + t360.size ≤ 9223372036854775807 then (some ((t356 ++ (⟨#[124]⟩ : ByteArray)) ++ t360)) else (none))) else (none))) = some r := by first | (rw [hy353]; with_reducible exact H) | (have H2_ := (Option.bind_some _ _).symm.trans H; rw [hy353]; with_reducible exact H2_) | (have H2_ := (Option.bind_some _ _).symm.trans H; with_reducible exact H2_) | with_reducible exact H | (rw [hy353]; exact H) | exact H
            have Ny353 := Aside0.mk hy353
            clear hy353
            replace H := Option.bind_eq_some_iff.mp H
            obtain ⟨t356, A600, H⟩ := H
            replace H : (if t356.size + 1 ≤ 9223372036854775807 then ((impl_held.f k y341 (([4, 5] : List Int))).bind fun t360 => (if (t356 ++ (⟨#[124]⟩ : ByteArray)).size + t360.size ≤ 9223372036854775807 then (some ((t356 ++ (⟨#[124]⟩ : ByteArray)) ++ t360)) else (none))) else (none)) = some r := H
            have A60 := Aside0.mk A600
            clear A600
            by_cases c61 : t356.size + 1 ≤ 9223372036854775807
            ·rw [if_pos c61] at H
             have c61b0 := eq_true c61
             have c61b1 : decide (t356.size + 1 ≤ 9223372036854775807) = true := decide_eq_true c61
             try have c61b2 : (9223372036854775807 < t356.size + 1) = False := eq_false (Nat.not_lt.2 c61)
             obtain ⟨y357, hy357⟩ : ∃ y_ : List Int, y_ = (([4, 5] : List Int)) := ⟨_, rfl⟩
             replace H : ((impl_held.f k y341 y357).bind fun t360 => (if (t356 ++ (⟨#[124]⟩ : ByteArray)).size + t360.size ≤ 9223372036854775807 then (some ((t356 ++ (⟨#[124]⟩ : ByteArray)) ++ t360)) else (none))) = some r := by first | (rw [hy357]; with_reducible exact H) | (have H2_ := (Option.bind_some _ _).symm.trans H; rw [hy357]; with_reducible exact H2_) | (have H2_ := (Option.bind_some _ _).symm.trans H; with_reducible exact H2_) | with_reducible exact H | (rw [hy357]; exact H) | exact H
             have Ny357 := Aside0.mk hy357
             clear hy357
             replace H := Option.bind_eq_some_iff.mp H
             obtain ⟨t360, A620, H⟩ := H
             replace H : (if (t356 ++ (⟨#[124]⟩ : ByteArray)).size + t360.size ≤ 9223372036854775807 then (some ((t356 ++ (⟨#[124]⟩ : ByteArray)) ++ t360)) else (none)) = some r := H
             have A62 := Aside0.mk A620
             clear A620
             by_cases c63 : (t356 ++ (⟨#[124]⟩ : ByteArray)).size + t360.size ≤ 9223372036854775807
             ·rw [if_pos c63] at H
              have c63b0 := eq_true c63
              have c63b1 : decide ((t356 ++ (⟨#[124]⟩ : ByteArray)).size + t360.size ≤ 9223372036854775807) = true := decide_eq_true c63
              try have c63b2 : (9223372036854775807 < (t356 ++ (⟨#[124]⟩ : ByteArray)).size + t360.size) = False := eq_false (Nat.not_lt.2 c63)
              try have c63b3 : (9223372036854775807 < t356.size + 1 + t360.size) = False := eq_false (by have z_ := c63; simp only [ByteArray.size_append] at z_; have e0_ : (⟨#[124]⟩ : ByteArray).size = 1 := rfl; omega)
              obtain rfl := Option.some.inj H
              have p316 : 0 ≤ ((ji2) : Int) := of_decide_eq_true pwb_
              have q316 : (ji2) < (l0.length : Int) := of_decide_eq_true pwb_
              obtain ⟨ad316, e316, hx316_0, hx316_1⟩ := at_T62 HR0.out (ji2) p316 q316
              cases e316
              replace p316 := eq_true p316
              replace q316 := eq_true q316
              go_enter Try.func68, Try.ntmps68
              go_wp2_with (first | ((with_reducible refine gate_dst (N := 4) rfl ?_); refine box_event ?hg (N := 4) ?hd (cs := #[.int .i64 0, .int .i64 0]) (t := 62) ?hr ?_; (case hd => rfl); (case hg => rfl); (case hr => first | (go_simp; done) | (go_simp; rfl)); intro gb317 hg w64 hbox hb; have n0_ := Aside0.mk (below_step pwi_ hb); have n1_ := Aside0.mk (hbox); have n2_ := Aside0.mk ((by rw [hg]; exact (below_size pwi_) : w.heap.size ≤ gb317)); have n3_ := Aside0.mk ((by rw [hg]; exact (below_size pwi_) : w.heap.size ≤ gb317)); clear HB; have HB := n0_; have BK317 := n1_; have GW317 := n2_; have GE317 := n3_; clear n0_ n1_ n2_ n3_; clear hb hbox hg; have hcz65_0 : w64.cell? ⟨gb317, 0, none⟩ = some (.int .i64 0) := (blk_cell BK317.out 0).trans rfl; have hcz65_1 : w64.cell? ⟨gb317, 1, none⟩ = some (.int .i64 0) := (blk_cell BK317.out 1).trans rfl; have hfz65_0 := blk_frozen BK317.out 0; have hfz65_1 := blk_frozen BK317.out 1) | ((with_reducible refine gate_store (t := 62) (p := 4) rfl ?_); (try (rw [drewN_self w64]; generalize hq_ : World.drewN w64 _ = w64; have n0_ := Aside0.mk (blk_at hq_ BK317.out); have n1_ := Aside0.mk (below_at hq_ HB.out); clear hq_ BK317 HB; have BK317 := n0_; have HB := n1_; clear n0_ n1_)); refine store_event (t := 62) (p := 4) (v := ?vo_w66) (w1 := ((w64.setCell ⟨gb317, 0, none⟩ (.int .i64 ((rd_T62 l0 (ji2)).f0))).setCell ⟨gb317, 1, none⟩ (.int .i64 ((rd_T62 l0 (ji2)).f1)))) ?hg ?ho ?hn ?hr ?_; (case ho => rfl); (case hg => rfl); (case hn => rfl); (case hr => first | (go_simp; done) | (go_simp; rfl)); intro w66 hw; have n0_ : Aside0 (w66.heap[gb317]? = some (.cells #[.int .i64 ((rd_T62 l0 (ji2)).f0), .int .i64 ((rd_T62 l0 (ji2)).f1)] 62 (0, 0))) := ⟨(by rw [hw]; exact pwp_)⟩; have n1_ : Aside0 (Below w.heap.size w w66) := ⟨(by rw [hw]; exact pwn_)⟩; clear hw; clear BK317; clear HB; have BK317 := n0_; have HB := n1_; clear n0_ n1_; have hcz67_0 : w66.cell? ⟨gb317, 0, none⟩ = some (.int .i64 ((rd_T62 l0 (ji2)).f0)) := (blk_cell BK317.out 0).trans rfl; have hcz67_1 : w66.cell? ⟨gb317, 1, none⟩ = some (.int .i64 ((rd_T62 l0 (ji2)).f1)) := (blk_cell BK317.out 1).trans rfl; have hfz67_0 := blk_frozen BK317.out 0; have hfz67_1 := blk_frozen BK317.out 1; have q68 : ((ji2) : Int) ≤ ((l0.length : Int) : Int) := of_decide_eq_true pwb_; obtain ⟨i068, hi068, _, hsz68, _⟩ := info_parts info62; have hroom68 : l0.length ≤ c0 := HC0.out; have hC68 : Kd.C k62 _ (some ad316) l0.length l0 := HR0.out; have hcut68 := cut_to (P := Try.prog) 25 62 .i64 Try.underlying25 hi068 (some ad316) l0.length c0 (ji2) (of_decide_eq_true pwb_) q68 hroom68; have hr68 := Kd.C_take (m := ((ji2) : Int).toNat) hC68 (by omega); have hy68 : y332.length = ((ji2) : Int).toNat := (by rw [Ny332.out, List.length_take]; omega); rw [← Ny332.out] at hr68; rw [← hy68] at hcut68; have HR335 := Aside0.mk hr68; have HC335 := Aside0.mk (show y332.length ≤ c0 from by omega); clear hr68 hC68 hroom68 hi068 hsz68; have KY68 := Aside0.mk hy68; clear hy68; replace q68 := eq_true q68) | (go_at_call 97; (with_reducible refine (impl_lastPart.calls k _ _ y332 t336 _ ?side1 ?side2 A33.out).mono ?_); (case side1 => repeat (first | exact (Kd.C_below HR335.out HB.out) | (with_reducible refine Kd.C_alloc ?_ _) | (with_reducible refine Kd.C_drewN ?_ _) | (with_reducible refine Kd.C_drew ?_))); (case side2 => exact HC335.out); rintro e w' ⟨rfl, ⟨nd, rfl⟩⟩; (try first | exact ⟨rfl, _, World.drewN_drewN _ _ _⟩ | exact ⟨rfl, _, Eq.trans (World.drewN_drewN _ _ _) (congrArg (World.drewN _) (Nat.add_assoc _ _ _))⟩); have q69 : (t336 : Int) ≤ ((l0.length : Int) : Int) := of_decide_eq_true pwb_; obtain ⟨i069, hi069, _, hsz69, _⟩ := info_parts info62; have hroom69 : l0.length ≤ c0 := HC0.out; have hC69 : Kd.C k62 _ (some ad316) l0.length l0 := HR0.out; have hcut69 := cut_to (P := Try.prog) 25 62 .i64 Try.underlying25 hi069 (some ad316) l0.length c0 t336 (of_decide_eq_true pwb_) q69 hroom69; have hr69 := Kd.C_take (m := (t336 : Int).toNat) hC69 (by omega); have hy69 : y337.length = (t336 : Int).toNat := (by rw [Ny337.out, List.length_take]; omega); rw [← Ny337.out] at hr69; rw [← hy69] at hcut69; have HR340 := Aside0.mk hr69; have HC340 := Aside0.mk (show y337.length ≤ c0 from by omega); clear hr69 hC69 hroom69 hi069 hsz69; have KY69 := Aside0.mk hy69; clear hy69; replace q69 := eq_true q69; have q70 : ((ji2) : Int) ≤ ((l0.length : Int) : Int) := of_decide_eq_true pwb_; obtain ⟨i070, hi070, _, hsz70, _⟩ := info_parts info62; have hroom70 : l0.length ≤ c0 := HC0.out; have hC70 : Kd.C k62 _ (some ad316) l0.length l0 := HR0.out; have ql70 : (t336 : Int) ≤ ((ji2) : Int) := of_decide_eq_true pwb_; have q070 : (0 : Int) ≤ (t336 : Int) := of_decide_eq_true pwb_; have hcut70 := cut_mid (P := Try.prog) 25 62 .i64 .i64 Try.underlying25 hi070 2 hsz70 (some ad316) l0.length c0 t336 (ji2) q070 ql70 q70 hroom70; have hr70 := Kd.C_mid (lo := (t336 : Int).toNat) (hi := ((ji2) : Int).toNat) (c := c0) hC70 (by omega) (by omega) hroom70; obtain ⟨A70, hA70⟩ : ∃ A1, A1 = (if c0 = (t336 : Int).toNat then (some ad316) else ((some ad316) : Option Addr).map (·.add ((t336 : Int).toNat * 2))) := ⟨_, rfl⟩; obtain ⟨c70, hc70⟩ : ∃ c1, c1 = c0 - (t336 : Int).toNat := ⟨_, rfl⟩; have hy70 : y341.length = ((ji2) : Int).toNat - (t336 : Int).toNat := (by rw [Ny341.out, List.length_drop, List.length_take] <;> omega); rw [show ((l0).take ((ji2) : Int).toNat).drop (t336 : Int).toNat = y341 from Ny341.out.symm] at hr70; replace hr70 : Kd.C k62 _ A70 y341.length y341 := (by rw [hA70]; exact hr70); rw [← hy70, ← hA70, ← hc70] at hcut70; have HR344 := Aside0.mk hr70; have HC344 := Aside0.mk (show y341.length ≤ c70 from by rw [hy70, hc70]; exact Nat.sub_le_sub_right (Nat.le_trans (by omega) hroom70) _); clear hr70 hC70 hroom70 hi070 hsz70 hc70; have KY70 := Aside0.mk hy70; have KA70 := Aside0.mk hA70; clear hy70 hA70; replace q70 := eq_true q70) | ((with_reducible refine gate_dst (N := 67) rfl ?_); refine Kd.R_lit (Kd.int .i64) _ 3 ?hg (N := 67) ?hd (xs := ([5] : List Int)) (inner := [.int .i64 5]) (ok := fun _ => True) (okp := fun _ => True) ?hr ?hp (fun _ hk => hk) trivial (Below.refl _ _) (Nat.le_refl _) (by simp) ?_; (case hd => rfl); (case hg => rfl); (case hr => first | (go_simp; done) | (go_simp; rfl)); (case hp => exact (Reps.one (show Kd.M (Kd.int .i64) _ _ _ 5 [.int .i64 5] from rfl) (Reps.none _ _))); intro v354 w71 ho72 hb hg_ hnew_; clear hg_ hnew_; (first | rw [← Ny353.out] at ho72 | (simp only [Int.reduceToNat] at ho72; rw [← Ny353.out] at ho72)); have n0_ := Aside0.mk (Kd.R_lower ho72 (below_size pwn_)); have n1_ := Aside0.mk (blk_below (g := gb317) (o := .cells #[.int .i64 ((rd_T62 l0 (ji2)).f0), .int .i64 ((rd_T62 l0 (ji2)).f1)] 62 (0, 0)) pwh_ hb); have n2_ := Aside0.mk (below_step pwn_ hb); clear BK317; clear HB; have HO355 := n0_; have BK317 := n1_; have HB := n2_; clear n0_ n1_ n2_; clear hb ho72; obtain ⟨Ao73, co73, eo73⟩ := Kd.R_slice HO355.out; subst eo73) | (go_at_call 96; (with_reducible refine (h0_ k (by omega) _ _ y337 _ _ y353 t356 _ ?side1 ?side2 ?side3 ?side4 A60.out).mono ?_); (case side1 => repeat (first | exact (Kd.C_below HR340.out HB.out) | (with_reducible refine Kd.C_alloc ?_ _) | (with_reducible refine Kd.C_drewN ?_ _) | (with_reducible refine Kd.C_drew ?_))); (case side2 => exact HC340.out); (case side3 => repeat (first | exact (Kd.R_reads' HO355.out).2.2 | (with_reducible refine Kd.C_alloc ?_ _) | (with_reducible refine Kd.C_drewN ?_ _) | (with_reducible refine Kd.C_drew ?_))); (case side4 => exact (Kd.R_reads' HO355.out).2.1); rintro e w74 ⟨rfl, hb⟩; have n0_ := Aside0.mk (Kd.R_below (by (with_reducible repeat apply Kd.R_alloc); exact HO355.out) hb); have n1_ := Aside0.mk (blk_below (g := gb317) (o := .cells #[.int .i64 ((rd_T62 l0 (ji2)).f0), .int .i64 ((rd_T62 l0 (ji2)).f1)] 62 (0, 0)) pwh_ hb); have n2_ := Aside0.mk (below_step pwn_ hb); clear HO355; clear BK317; clear HB; have HO355 := n0_; have BK317 := n1_; have HB := n2_; clear n0_ n1_ n2_; (try clear hb); (try clear hb2); (try clear hk); (try clear hi)) | ((with_reducible refine gate_dst (N := 71) rfl ?_); refine Kd.R_lit (Kd.int .i64) _ 3 ?hg (N := 71) ?hd (xs := ([4, 5] : List Int)) (inner := [.int .i64 4, .int .i64 5]) (ok := fun _ => True) (okp := fun _ => True) ?hr ?hp (fun _ hk => hk) trivial (Below.refl _ _) (Nat.le_refl _) (by simp) ?_; (case hd => rfl); (case hg => rfl); (case hr => first | (go_simp; done) | (go_simp; rfl)); (case hp => exact (Reps.one (show Kd.M (Kd.int .i64) _ _ _ 4 [.int .i64 4] from rfl) (Reps.one (show Kd.M (Kd.int .i64) _ _ _ 5 [.int .i64 5] from rfl) (Reps.none _ _)))); intro v358 w75 ho76 hb hg_ hnew_; clear hg_ hnew_; (first | rw [← Ny357.out] at ho76 | (simp only [Int.reduceToNat] at ho76; rw [← Ny357.out] at ho76)); have n0_ := Aside0.mk (Kd.R_elder' (by (with_reducible repeat apply Kd.R_alloc); exact HO355.out) (Kd.R_base ho76) hb); have n1_ := Aside0.mk (Kd.R_lower (Kd.R_new' ho76 (Kd.R_lt (by (with_reducible repeat apply Kd.R_alloc); exact HO355.out))) (below_size pwn_)); have n2_ := Aside0.mk (blk_below (g := gb317) (o := .cells #[.int .i64 ((rd_T62 l0 (ji2)).f0), .int .i64 ((rd_T62 l0 (ji2)).f1)] 62 (0, 0)) pwh_ hb); have n3_ := Aside0.mk (below_step pwn_ hb); clear HO355; clear BK317; clear HB; have HO355 := n0_; have HO359 := n1_; have BK317 := n2_; have HB := n3_; clear n0_ n1_ n2_ n3_; clear hb ho76; obtain ⟨Ao77, co77, eo77⟩ := Kd.R_slice HO359.out; subst eo77) | (go_at_call 96; (with_reducible refine (h0_ k (by omega) _ _ y341 _ _ y357 t360 _ ?side1 ?side2 ?side3 ?side4 A62.out).mono ?_); (case side1 => repeat (first | exact (Kd.C_below HR344.out HB.out) | (with_reducible refine Kd.C_alloc ?_ _) | (with_reducible refine Kd.C_drewN ?_ _) | (with_reducible refine Kd.C_drew ?_))); (case side2 => exact HC344.out); (case side3 => repeat (first | exact (Kd.R_reads' HO359.out).2.2 | (with_reducible refine Kd.C_alloc ?_ _) | (with_reducible refine Kd.C_drewN ?_ _) | (with_reducible refine Kd.C_drew ?_))); (case side4 => exact (Kd.R_reads' HO359.out).2.1); rintro e w78 ⟨rfl, hb⟩; have n0_ := Aside0.mk (Kd.R_below (by (with_reducible repeat apply Kd.R_alloc); exact HO355.out) hb); have n1_ := Aside0.mk (Kd.R_below (by (with_reducible repeat apply Kd.R_alloc); exact HO359.out) hb); have n2_ := Aside0.mk (blk_below (g := gb317) (o := .cells #[.int .i64 ((rd_T62 l0 (ji2)).f0), .int .i64 ((rd_T62 l0 (ji2)).f1)] 62 (0, 0)) pwh_ hb); have n3_ := Aside0.mk (below_step pwn_ hb); clear HO355; clear HO359; clear BK317; clear HB; have HO355 := n0_; have HO359 := n1_; have BK317 := n2_; have HB := n3_; clear n0_ n1_ n2_ n3_; (try clear hb); (try clear hb2); (try clear hk); (try clear hi)))
              repeat (go_quiet (first | ((with_reducible refine gate_dst (N := 4) rfl ?_); refine box_event ?hg (N := 4) ?hd (cs := #[.int .i64 0, .int .i64 0]) (t := 62) ?hr ?_; (case hd => rfl); (case hg => rfl); (case hr => first | (go_simp; done) | (go_simp; rfl)); intro gb317 hg w64 hbox hb; have n0_ := Aside0.mk (below_step pwi_ hb); have n1_ := Aside0.mk (hbox); have n2_ := Aside0.mk ((by rw [hg]; exact (below_size pwi_) : w.heap.size ≤ gb317)); have n3_ := Aside0.mk ((by rw [hg]; exact (below_size pwi_) : w.heap.size ≤ gb317)); clear HB; have HB := n0_; have BK317 := n1_; have GW317 := n2_; have GE317 := n3_; clear n0_ n1_ n2_ n3_; clear hb hbox hg; have hcz65_0 : w64.cell? ⟨gb317, 0, none⟩ = some (.int .i64 0) := (blk_cell BK317.out 0).trans rfl; have hcz65_1 : w64.cell? ⟨gb317, 1, none⟩ = some (.int .i64 0) := (blk_cell BK317.out 1).trans rfl; have hfz65_0 := blk_frozen BK317.out 0; have hfz65_1 := blk_frozen BK317.out 1) | ((with_reducible refine gate_store (t := 62) (p := 4) rfl ?_); (try (rw [drewN_self w64]; generalize hq_ : World.drewN w64 _ = w64; have n0_ := Aside0.mk (blk_at hq_ BK317.out); have n1_ := Aside0.mk (below_at hq_ HB.out); clear hq_ BK317 HB; have BK317 := n0_; have HB := n1_; clear n0_ n1_)); refine store_event (t := 62) (p := 4) (v := ?vo_w66) (w1 := ((w64.setCell ⟨gb317, 0, none⟩ (.int .i64 ((rd_T62 l0 (ji2)).f0))).setCell ⟨gb317, 1, none⟩ (.int .i64 ((rd_T62 l0 (ji2)).f1)))) ?hg ?ho ?hn ?hr ?_; (case ho => rfl); (case hg => rfl); (case hn => rfl); (case hr => first | (go_simp; done) | (go_simp; rfl)); intro w66 hw; have n0_ : Aside0 (w66.heap[gb317]? = some (.cells #[.int .i64 ((rd_T62 l0 (ji2)).f0), .int .i64 ((rd_T62 l0 (ji2)).f1)] 62 (0, 0))) := ⟨(by rw [hw]; exact pwp_)⟩; have n1_ : Aside0 (Below w.heap.size w w66) := ⟨(by rw [hw]; exact pwn_)⟩; clear hw; clear BK317; clear HB; have BK317 := n0_; have HB := n1_; clear n0_ n1_; have hcz67_0 : w66.cell? ⟨gb317, 0, none⟩ = some (.int .i64 ((rd_T62 l0 (ji2)).f0)) := (blk_cell BK317.out 0).trans rfl; have hcz67_1 : w66.cell? ⟨gb317, 1, none⟩ = some (.int .i64 ((rd_T62 l0 (ji2)).f1)) := (blk_cell BK317.out 1).trans rfl; have hfz67_0 := blk_frozen BK317.out 0; have hfz67_1 := blk_frozen BK317.out 1; have q68 : ((ji2) : Int) ≤ ((l0.length : Int) : Int) := of_decide_eq_true pwb_; obtain ⟨i068, hi068, _, hsz68, _⟩ := info_parts info62; have hroom68 : l0.length ≤ c0 := HC0.out; have hC68 : Kd.C k62 _ (some ad316) l0.length l0 := HR0.out; have hcut68 := cut_to (P := Try.prog) 25 62 .i64 Try.underlying25 hi068 (some ad316) l0.length c0 (ji2) (of_decide_eq_true pwb_) q68 hroom68; have hr68 := Kd.C_take (m := ((ji2) : Int).toNat) hC68 (by omega); have hy68 : y332.length = ((ji2) : Int).toNat := (by rw [Ny332.out, List.length_take]; omega); rw [← Ny332.out] at hr68; rw [← hy68] at hcut68; have HR335 := Aside0.mk hr68; have HC335 := Aside0.mk (show y332.length ≤ c0 from by omega); clear hr68 hC68 hroom68 hi068 hsz68; have KY68 := Aside0.mk hy68; clear hy68; replace q68 := eq_true q68) | (go_at_call 97; (with_reducible refine (impl_lastPart.calls k _ _ y332 t336 _ ?side1 ?side2 A33.out).mono ?_); (case side1 => repeat (first | exact (Kd.C_below HR335.out HB.out) | (with_reducible refine Kd.C_alloc ?_ _) | (with_reducible refine Kd.C_drewN ?_ _) | (with_reducible refine Kd.C_drew ?_))); (case side2 => exact HC335.out); rintro e w' ⟨rfl, ⟨nd, rfl⟩⟩; (try first | exact ⟨rfl, _, World.drewN_drewN _ _ _⟩ | exact ⟨rfl, _, Eq.trans (World.drewN_drewN _ _ _) (congrArg (World.drewN _) (Nat.add_assoc _ _ _))⟩); have q69 : (t336 : Int) ≤ ((l0.length : Int) : Int) := of_decide_eq_true pwb_; obtain ⟨i069, hi069, _, hsz69, _⟩ := info_parts info62; have hroom69 : l0.length ≤ c0 := HC0.out; have hC69 : Kd.C k62 _ (some ad316) l0.length l0 := HR0.out; have hcut69 := cut_to (P := Try.prog) 25 62 .i64 Try.underlying25 hi069 (some ad316) l0.length c0 t336 (of_decide_eq_true pwb_) q69 hroom69; have hr69 := Kd.C_take (m := (t336 : Int).toNat) hC69 (by omega); have hy69 : y337.length = (t336 : Int).toNat := (by rw [Ny337.out, List.length_take]; omega); rw [← Ny337.out] at hr69; rw [← hy69] at hcut69; have HR340 := Aside0.mk hr69; have HC340 := Aside0.mk (show y337.length ≤ c0 from by omega); clear hr69 hC69 hroom69 hi069 hsz69; have KY69 := Aside0.mk hy69; clear hy69; replace q69 := eq_true q69; have q70 : ((ji2) : Int) ≤ ((l0.length : Int) : Int) := of_decide_eq_true pwb_; obtain ⟨i070, hi070, _, hsz70, _⟩ := info_parts info62; have hroom70 : l0.length ≤ c0 := HC0.out; have hC70 : Kd.C k62 _ (some ad316) l0.length l0 := HR0.out; have ql70 : (t336 : Int) ≤ ((ji2) : Int) := of_decide_eq_true pwb_; have q070 : (0 : Int) ≤ (t336 : Int) := of_decide_eq_true pwb_; have hcut70 := cut_mid (P := Try.prog) 25 62 .i64 .i64 Try.underlying25 hi070 2 hsz70 (some ad316) l0.length c0 t336 (ji2) q070 ql70 q70 hroom70; have hr70 := Kd.C_mid (lo := (t336 : Int).toNat) (hi := ((ji2) : Int).toNat) (c := c0) hC70 (by omega) (by omega) hroom70; obtain ⟨A70, hA70⟩ : ∃ A1, A1 = (if c0 = (t336 : Int).toNat then (some ad316) else ((some ad316) : Option Addr).map (·.add ((t336 : Int).toNat * 2))) := ⟨_, rfl⟩; obtain ⟨c70, hc70⟩ : ∃ c1, c1 = c0 - (t336 : Int).toNat := ⟨_, rfl⟩; have hy70 : y341.length = ((ji2) : Int).toNat - (t336 : Int).toNat := (by rw [Ny341.out, List.length_drop, List.length_take] <;> omega); rw [show ((l0).take ((ji2) : Int).toNat).drop (t336 : Int).toNat = y341 from Ny341.out.symm] at hr70; replace hr70 : Kd.C k62 _ A70 y341.length y341 := (by rw [hA70]; exact hr70); rw [← hy70, ← hA70, ← hc70] at hcut70; have HR344 := Aside0.mk hr70; have HC344 := Aside0.mk (show y341.length ≤ c70 from by rw [hy70, hc70]; exact Nat.sub_le_sub_right (Nat.le_trans (by omega) hroom70) _); clear hr70 hC70 hroom70 hi070 hsz70 hc70; have KY70 := Aside0.mk hy70; have KA70 := Aside0.mk hA70; clear hy70 hA70; replace q70 := eq_true q70) | ((with_reducible refine gate_dst (N := 67) rfl ?_); refine Kd.R_lit (Kd.int .i64) _ 3 ?hg (N := 67) ?hd (xs := ([5] : List Int)) (inner := [.int .i64 5]) (ok := fun _ => True) (okp := fun _ => True) ?hr ?hp (fun _ hk => hk) trivial (Below.refl _ _) (Nat.le_refl _) (by simp) ?_; (case hd => rfl); (case hg => rfl); (case hr => first | (go_simp; done) | (go_simp; rfl)); (case hp => exact (Reps.one (show Kd.M (Kd.int .i64) _ _ _ 5 [.int .i64 5] from rfl) (Reps.none _ _))); intro v354 w71 ho72 hb hg_ hnew_; clear hg_ hnew_; (first | rw [← Ny353.out] at ho72 | (simp only [Int.reduceToNat] at ho72; rw [← Ny353.out] at ho72)); have n0_ := Aside0.mk (Kd.R_lower ho72 (below_size pwn_)); have n1_ := Aside0.mk (blk_below (g := gb317) (o := .cells #[.int .i64 ((rd_T62 l0 (ji2)).f0), .int .i64 ((rd_T62 l0 (ji2)).f1)] 62 (0, 0)) pwh_ hb); have n2_ := Aside0.mk (below_step pwn_ hb); clear BK317; clear HB; have HO355 := n0_; have BK317 := n1_; have HB := n2_; clear n0_ n1_ n2_; clear hb ho72; obtain ⟨Ao73, co73, eo73⟩ := Kd.R_slice HO355.out; subst eo73) | (go_at_call 96; (with_reducible refine (h0_ k (by omega) _ _ y337 _ _ y353 t356 _ ?side1 ?side2 ?side3 ?side4 A60.out).mono ?_); (case side1 => repeat (first | exact (Kd.C_below HR340.out HB.out) | (with_reducible refine Kd.C_alloc ?_ _) | (with_reducible refine Kd.C_drewN ?_ _) | (with_reducible refine Kd.C_drew ?_))); (case side2 => exact HC340.out); (case side3 => repeat (first | exact (Kd.R_reads' HO355.out).2.2 | (with_reducible refine Kd.C_alloc ?_ _) | (with_reducible refine Kd.C_drewN ?_ _) | (with_reducible refine Kd.C_drew ?_))); (case side4 => exact (Kd.R_reads' HO355.out).2.1); rintro e w74 ⟨rfl, hb⟩; have n0_ := Aside0.mk (Kd.R_below (by (with_reducible repeat apply Kd.R_alloc); exact HO355.out) hb); have n1_ := Aside0.mk (blk_below (g := gb317) (o := .cells #[.int .i64 ((rd_T62 l0 (ji2)).f0), .int .i64 ((rd_T62 l0 (ji2)).f1)] 62 (0, 0)) pwh_ hb); have n2_ := Aside0.mk (below_step pwn_ hb); clear HO355; clear BK317; clear HB; have HO355 := n0_; have BK317 := n1_; have HB := n2_; clear n0_ n1_ n2_; (try clear hb); (try clear hb2); (try clear hk); (try clear hi)) | ((with_reducible refine gate_dst (N := 71) rfl ?_); refine Kd.R_lit (Kd.int .i64) _ 3 ?hg (N := 71) ?hd (xs := ([4, 5] : List Int)) (inner := [.int .i64 4, .int .i64 5]) (ok := fun _ => True) (okp := fun _ => True) ?hr ?hp (fun _ hk => hk) trivial (Below.refl _ _) (Nat.le_refl _) (by simp) ?_; (case hd => rfl); (case hg => rfl); (case hr => first | (go_simp; done) | (go_simp; rfl)); (case hp => exact (Reps.one (show Kd.M (Kd.int .i64) _ _ _ 4 [.int .i64 4] from rfl) (Reps.one (show Kd.M (Kd.int .i64) _ _ _ 5 [.int .i64 5] from rfl) (Reps.none _ _)))); intro v358 w75 ho76 hb hg_ hnew_; clear hg_ hnew_; (first | rw [← Ny357.out] at ho76 | (simp only [Int.reduceToNat] at ho76; rw [← Ny357.out] at ho76)); have n0_ := Aside0.mk (Kd.R_elder' (by (with_reducible repeat apply Kd.R_alloc); exact HO355.out) (Kd.R_base ho76) hb); have n1_ := Aside0.mk (Kd.R_lower (Kd.R_new' ho76 (Kd.R_lt (by (with_reducible repeat apply Kd.R_alloc); exact HO355.out))) (below_size pwn_)); have n2_ := Aside0.mk (blk_below (g := gb317) (o := .cells #[.int .i64 ((rd_T62 l0 (ji2)).f0), .int .i64 ((rd_T62 l0 (ji2)).f1)] 62 (0, 0)) pwh_ hb); have n3_ := Aside0.mk (below_step pwn_ hb); clear HO355; clear BK317; clear HB; have HO355 := n0_; have HO359 := n1_; have BK317 := n2_; have HB := n3_; clear n0_ n1_ n2_ n3_; clear hb ho76; obtain ⟨Ao77, co77, eo77⟩ := Kd.R_slice HO359.out; subst eo77) | (go_at_call 96; (with_reducible refine (h0_ k (by omega) _ _ y341 _ _ y357 t360 _ ?side1 ?side2 ?side3 ?side4 A62.out).mono ?_); (case side1 => repeat (first | exact (Kd.C_below HR344.out HB.out) | (with_reducible refine Kd.C_alloc ?_ _) | (with_reducible refine Kd.C_drewN ?_ _) | (with_reducible refine Kd.C_drew ?_))); (case side2 => exact HC344.out); (case side3 => repeat (first | exact (Kd.R_reads' HO359.out).2.2 | (with_reducible refine Kd.C_alloc ?_ _) | (with_reducible refine Kd.C_drewN ?_ _) | (with_reducible refine Kd.C_drew ?_))); (case side4 => exact (Kd.R_reads' HO359.out).2.1); rintro e w78 ⟨rfl, hb⟩; have n0_ := Aside0.mk (Kd.R_below (by (with_reducible repeat apply Kd.R_alloc); exact HO355.out) hb); have n1_ := Aside0.mk (Kd.R_below (by (with_reducible repeat apply Kd.R_alloc); exact HO359.out) hb); have n2_ := Aside0.mk (blk_below (g := gb317) (o := .cells #[.int .i64 ((rd_T62 l0 (ji2)).f0), .int .i64 ((rd_T62 l0 (ji2)).f1)] 62 (0, 0)) pwh_ hb); have n3_ := Aside0.mk (below_step pwn_ hb); clear HO355; clear HO359; clear BK317; clear HB; have HO355 := n0_; have HO359 := n1_; have BK317 := n2_; have HB := n3_; clear n0_ n1_ n2_ n3_; (try clear hb); (try clear hb2); (try clear hk); (try clear hi))); try go_wp2_with (first | ((with_reducible refine gate_dst (N := 4) rfl ?_); refine box_event ?hg (N := 4) ?hd (cs := #[.int .i64 0, .int .i64 0]) (t := 62) ?hr ?_; (case hd => rfl); (case hg => rfl); (case hr => first | (go_simp; done) | (go_simp; rfl)); intro gb317 hg w64 hbox hb; have n0_ := Aside0.mk (below_step pwi_ hb); have n1_ := Aside0.mk (hbox); have n2_ := Aside0.mk ((by rw [hg]; exact (below_size pwi_) : w.heap.size ≤ gb317)); have n3_ := Aside0.mk ((by rw [hg]; exact (below_size pwi_) : w.heap.size ≤ gb317)); clear HB; have HB := n0_; have BK317 := n1_; have GW317 := n2_; have GE317 := n3_; clear n0_ n1_ n2_ n3_; clear hb hbox hg; have hcz65_0 : w64.cell? ⟨gb317, 0, none⟩ = some (.int .i64 0) := (blk_cell BK317.out 0).trans rfl; have hcz65_1 : w64.cell? ⟨gb317, 1, none⟩ = some (.int .i64 0) := (blk_cell BK317.out 1).trans rfl; have hfz65_0 := blk_frozen BK317.out 0; have hfz65_1 := blk_frozen BK317.out 1) | ((with_reducible refine gate_store (t := 62) (p := 4) rfl ?_); (try (rw [drewN_self w64]; generalize hq_ : World.drewN w64 _ = w64; have n0_ := Aside0.mk (blk_at hq_ BK317.out); have n1_ := Aside0.mk (below_at hq_ HB.out); clear hq_ BK317 HB; have BK317 := n0_; have HB := n1_; clear n0_ n1_)); refine store_event (t := 62) (p := 4) (v := ?vo_w66) (w1 := ((w64.setCell ⟨gb317, 0, none⟩ (.int .i64 ((rd_T62 l0 (ji2)).f0))).setCell ⟨gb317, 1, none⟩ (.int .i64 ((rd_T62 l0 (ji2)).f1)))) ?hg ?ho ?hn ?hr ?_; (case ho => rfl); (case hg => rfl); (case hn => rfl); (case hr => first | (go_simp; done) | (go_simp; rfl)); intro w66 hw; have n0_ : Aside0 (w66.heap[gb317]? = some (.cells #[.int .i64 ((rd_T62 l0 (ji2)).f0), .int .i64 ((rd_T62 l0 (ji2)).f1)] 62 (0, 0))) := ⟨(by rw [hw]; exact pwp_)⟩; have n1_ : Aside0 (Below w.heap.size w w66) := ⟨(by rw [hw]; exact pwn_)⟩; clear hw; clear BK317; clear HB; have BK317 := n0_; have HB := n1_; clear n0_ n1_; have hcz67_0 : w66.cell? ⟨gb317, 0, none⟩ = some (.int .i64 ((rd_T62 l0 (ji2)).f0)) := (blk_cell BK317.out 0).trans rfl; have hcz67_1 : w66.cell? ⟨gb317, 1, none⟩ = some (.int .i64 ((rd_T62 l0 (ji2)).f1)) := (blk_cell BK317.out 1).trans rfl; have hfz67_0 := blk_frozen BK317.out 0; have hfz67_1 := blk_frozen BK317.out 1; have q68 : ((ji2) : Int) ≤ ((l0.length : Int) : Int) := of_decide_eq_true pwb_; obtain ⟨i068, hi068, _, hsz68, _⟩ := info_parts info62; have hroom68 : l0.length ≤ c0 := HC0.out; have hC68 : Kd.C k62 _ (some ad316) l0.length l0 := HR0.out; have hcut68 := cut_to (P := Try.prog) 25 62 .i64 Try.underlying25 hi068 (some ad316) l0.length c0 (ji2) (of_decide_eq_true pwb_) q68 hroom68; have hr68 := Kd.C_take (m := ((ji2) : Int).toNat) hC68 (by omega); have hy68 : y332.length = ((ji2) : Int).toNat := (by rw [Ny332.out, List.length_take]; omega); rw [← Ny332.out] at hr68; rw [← hy68] at hcut68; have HR335 := Aside0.mk hr68; have HC335 := Aside0.mk (show y332.length ≤ c0 from by omega); clear hr68 hC68 hroom68 hi068 hsz68; have KY68 := Aside0.mk hy68; clear hy68; replace q68 := eq_true q68) | (go_at_call 97; (with_reducible refine (impl_lastPart.calls k _ _ y332 t336 _ ?side1 ?side2 A33.out).mono ?_); (case side1 => repeat (first | exact (Kd.C_below HR335.out HB.out) | (with_reducible refine Kd.C_alloc ?_ _) | (with_reducible refine Kd.C_drewN ?_ _) | (with_reducible refine Kd.C_drew ?_))); (case side2 => exact HC335.out); rintro e w' ⟨rfl, ⟨nd, rfl⟩⟩; (try first | exact ⟨rfl, _, World.drewN_drewN _ _ _⟩ | exact ⟨rfl, _, Eq.trans (World.drewN_drewN _ _ _) (congrArg (World.drewN _) (Nat.add_assoc _ _ _))⟩); have q69 : (t336 : Int) ≤ ((l0.length : Int) : Int) := of_decide_eq_true pwb_; obtain ⟨i069, hi069, _, hsz69, _⟩ := info_parts info62; have hroom69 : l0.length ≤ c0 := HC0.out; have hC69 : Kd.C k62 _ (some ad316) l0.length l0 := HR0.out; have hcut69 := cut_to (P := Try.prog) 25 62 .i64 Try.underlying25 hi069 (some ad316) l0.length c0 t336 (of_decide_eq_true pwb_) q69 hroom69; have hr69 := Kd.C_take (m := (t336 : Int).toNat) hC69 (by omega); have hy69 : y337.length = (t336 : Int).toNat := (by rw [Ny337.out, List.length_take]; omega); rw [← Ny337.out] at hr69; rw [← hy69] at hcut69; have HR340 := Aside0.mk hr69; have HC340 := Aside0.mk (show y337.length ≤ c0 from by omega); clear hr69 hC69 hroom69 hi069 hsz69; have KY69 := Aside0.mk hy69; clear hy69; replace q69 := eq_true q69; have q70 : ((ji2) : Int) ≤ ((l0.length : Int) : Int) := of_decide_eq_true pwb_; obtain ⟨i070, hi070, _, hsz70, _⟩ := info_parts info62; have hroom70 : l0.length ≤ c0 := HC0.out; have hC70 : Kd.C k62 _ (some ad316) l0.length l0 := HR0.out; have ql70 : (t336 : Int) ≤ ((ji2) : Int) := of_decide_eq_true pwb_; have q070 : (0 : Int) ≤ (t336 : Int) := of_decide_eq_true pwb_; have hcut70 := cut_mid (P := Try.prog) 25 62 .i64 .i64 Try.underlying25 hi070 2 hsz70 (some ad316) l0.length c0 t336 (ji2) q070 ql70 q70 hroom70; have hr70 := Kd.C_mid (lo := (t336 : Int).toNat) (hi := ((ji2) : Int).toNat) (c := c0) hC70 (by omega) (by omega) hroom70; obtain ⟨A70, hA70⟩ : ∃ A1, A1 = (if c0 = (t336 : Int).toNat then (some ad316) else ((some ad316) : Option Addr).map (·.add ((t336 : Int).toNat * 2))) := ⟨_, rfl⟩; obtain ⟨c70, hc70⟩ : ∃ c1, c1 = c0 - (t336 : Int).toNat := ⟨_, rfl⟩; have hy70 : y341.length = ((ji2) : Int).toNat - (t336 : Int).toNat := (by rw [Ny341.out, List.length_drop, List.length_take] <;> omega); rw [show ((l0).take ((ji2) : Int).toNat).drop (t336 : Int).toNat = y341 from Ny341.out.symm] at hr70; replace hr70 : Kd.C k62 _ A70 y341.length y341 := (by rw [hA70]; exact hr70); rw [← hy70, ← hA70, ← hc70] at hcut70; have HR344 := Aside0.mk hr70; have HC344 := Aside0.mk (show y341.length ≤ c70 from by rw [hy70, hc70]; exact Nat.sub_le_sub_right (Nat.le_trans (by omega) hroom70) _); clear hr70 hC70 hroom70 hi070 hsz70 hc70; have KY70 := Aside0.mk hy70; have KA70 := Aside0.mk hA70; clear hy70 hA70; replace q70 := eq_true q70) | ((with_reducible refine gate_dst (N := 67) rfl ?_); refine Kd.R_lit (Kd.int .i64) _ 3 ?hg (N := 67) ?hd (xs := ([5] : List Int)) (inner := [.int .i64 5]) (ok := fun _ => True) (okp := fun _ => True) ?hr ?hp (fun _ hk => hk) trivial (Below.refl _ _) (Nat.le_refl _) (by simp) ?_; (case hd => rfl); (case hg => rfl); (case hr => first | (go_simp; done) | (go_simp; rfl)); (case hp => exact (Reps.one (show Kd.M (Kd.int .i64) _ _ _ 5 [.int .i64 5] from rfl) (Reps.none _ _))); intro v354 w71 ho72 hb hg_ hnew_; clear hg_ hnew_; (first | rw [← Ny353.out] at ho72 | (simp only [Int.reduceToNat] at ho72; rw [← Ny353.out] at ho72)); have n0_ := Aside0.mk (Kd.R_lower ho72 (below_size pwn_)); have n1_ := Aside0.mk (blk_below (g := gb317) (o := .cells #[.int .i64 ((rd_T62 l0 (ji2)).f0), .int .i64 ((rd_T62 l0 (ji2)).f1)] 62 (0, 0)) pwh_ hb); have n2_ := Aside0.mk (below_step pwn_ hb); clear BK317; clear HB; have HO355 := n0_; have BK317 := n1_; have HB := n2_; clear n0_ n1_ n2_; clear hb ho72; obtain ⟨Ao73, co73, eo73⟩ := Kd.R_slice HO355.out; subst eo73) | (go_at_call 96; (with_reducible refine (h0_ k (by omega) _ _ y337 _ _ y353 t356 _ ?side1 ?side2 ?side3 ?side4 A60.out).mono ?_); (case side1 => repeat (first | exact (Kd.C_below HR340.out HB.out) | (with_reducible refine Kd.C_alloc ?_ _) | (with_reducible refine Kd.C_drewN ?_ _) | (with_reducible refine Kd.C_drew ?_))); (case side2 => exact HC340.out); (case side3 => repeat (first | exact (Kd.R_reads' HO355.out).2.2 | (with_reducible refine Kd.C_alloc ?_ _) | (with_reducible refine Kd.C_drewN ?_ _) | (with_reducible refine Kd.C_drew ?_))); (case side4 => exact (Kd.R_reads' HO355.out).2.1); rintro e w74 ⟨rfl, hb⟩; have n0_ := Aside0.mk (Kd.R_below (by (with_reducible repeat apply Kd.R_alloc); exact HO355.out) hb); have n1_ := Aside0.mk (blk_below (g := gb317) (o := .cells #[.int .i64 ((rd_T62 l0 (ji2)).f0), .int .i64 ((rd_T62 l0 (ji2)).f1)] 62 (0, 0)) pwh_ hb); have n2_ := Aside0.mk (below_step pwn_ hb); clear HO355; clear BK317; clear HB; have HO355 := n0_; have BK317 := n1_; have HB := n2_; clear n0_ n1_ n2_; (try clear hb); (try clear hb2); (try clear hk); (try clear hi)) | ((with_reducible refine gate_dst (N := 71) rfl ?_); refine Kd.R_lit (Kd.int .i64) _ 3 ?hg (N := 71) ?hd (xs := ([4, 5] : List Int)) (inner := [.int .i64 4, .int .i64 5]) (ok := fun _ => True) (okp := fun _ => True) ?hr ?hp (fun _ hk => hk) trivial (Below.refl _ _) (Nat.le_refl _) (by simp) ?_; (case hd => rfl); (case hg => rfl); (case hr => first | (go_simp; done) | (go_simp; rfl)); (case hp => exact (Reps.one (show Kd.M (Kd.int .i64) _ _ _ 4 [.int .i64 4] from rfl) (Reps.one (show Kd.M (Kd.int .i64) _ _ _ 5 [.int .i64 5] from rfl) (Reps.none _ _)))); intro v358 w75 ho76 hb hg_ hnew_; clear hg_ hnew_; (first | rw [← Ny357.out] at ho76 | (simp only [Int.reduceToNat] at ho76; rw [← Ny357.out] at ho76)); have n0_ := Aside0.mk (Kd.R_elder' (by (with_reducible repeat apply Kd.R_alloc); exact HO355.out) (Kd.R_base ho76) hb); have n1_ := Aside0.mk (Kd.R_lower (Kd.R_new' ho76 (Kd.R_lt (by (with_reducible repeat apply Kd.R_alloc); exact HO355.out))) (below_size pwn_)); have n2_ := Aside0.mk (blk_below (g := gb317) (o := .cells #[.int .i64 ((rd_T62 l0 (ji2)).f0), .int .i64 ((rd_T62 l0 (ji2)).f1)] 62 (0, 0)) pwh_ hb); have n3_ := Aside0.mk (below_step pwn_ hb); clear HO355; clear BK317; clear HB; have HO355 := n0_; have HO359 := n1_; have BK317 := n2_; have HB := n3_; clear n0_ n1_ n2_ n3_; clear hb ho76; obtain ⟨Ao77, co77, eo77⟩ := Kd.R_slice HO359.out; subst eo77) | (go_at_call 96; (with_reducible refine (h0_ k (by omega) _ _ y341 _ _ y357 t360 _ ?side1 ?side2 ?side3 ?side4 A62.out).mono ?_); (case side1 => repeat (first | exact (Kd.C_below HR344.out HB.out) | (with_reducible refine Kd.C_alloc ?_ _) | (with_reducible refine Kd.C_drewN ?_ _) | (with_reducible refine Kd.C_drew ?_))); (case side2 => exact HC344.out); (case side3 => repeat (first | exact (Kd.R_reads' HO359.out).2.2 | (with_reducible refine Kd.C_alloc ?_ _) | (with_reducible refine Kd.C_drewN ?_ _) | (with_reducible refine Kd.C_drew ?_))); (case side4 => exact (Kd.R_reads' HO359.out).2.1); rintro e w78 ⟨rfl, hb⟩; have n0_ := Aside0.mk (Kd.R_below (by (with_reducible repeat apply Kd.R_alloc); exact HO355.out) hb); have n1_ := Aside0.mk (Kd.R_below (by (with_reducible repeat apply Kd.R_alloc); exact HO359.out) hb); have n2_ := Aside0.mk (blk_below (g := gb317) (o := .cells #[.int .i64 ((rd_T62 l0 (ji2)).f0), .int .i64 ((rd_T62 l0 (ji2)).f1)] 62 (0, 0)) pwh_ hb); have n3_ := Aside0.mk (below_step pwn_ hb); clear HO355; clear HO359; clear BK317; clear HB; have HO355 := n0_; have HO359 := n1_; have BK317 := n2_; have HB := n3_; clear n0_ n1_ n2_ n3_; (try clear hb); (try clear hb2); (try clear hk); (try clear hi))))
              go_ret
              exact ⟨by first | rfl | (simp [errW_none, errW_some] <;> rfl) | (simp only [← hji2]; first | rfl | (simp [errW_none, errW_some] <;> rfl)) | (simp [*, errW_none, errW_some] <;> rfl), pwn_⟩
             ·rw [if_neg c63] at H
              exact absurd H (by simp)
            ·rw [if_neg c61] at H
             exact absurd H (by simp)
           ·rw [if_neg c59] at H
            have c59b0 : (((rd_T62 l0 (ji2)).f0) == 4) = false := beq_eq_false_iff_ne.mpr c59
            have c59b1 : (((rd_T62 l0 (ji2)).f0) != 4) = true := bne_iff_ne.mpr c59
            replace H := Option.bind_eq_some_iff.mp H
            obtain ⟨t361, A790, H⟩ := H
            replace H : (if t361.size + 1 ≤ 9223372036854775807 then ((impl_held.f k y341 (([5] : List Int))).bind fun t365 => (if (t361 ++ (⟨#[61]⟩ : ByteArray)).size + t365.size ≤ 9223372036854775807 then (some ((t361 ++ (⟨#[61]⟩ : ByteArray)) ++ t365)) else (none))) else (none)) = some r := H
            have A79 := Aside0.mk A790
            clear A790
            by_cases c80 : t361.size + 1 ≤ 9223372036854775807
            ·rw [if_pos c80] at H
             have c80b0 := eq_true c80
             have c80b1 : decide (t361.size + 1 ≤ 9223372036854775807) = true := decide_eq_true c80
             try have c80b2 : (9223372036854775807 < t361.size + 1) = False := eq_false (Nat.not_lt.2 c80)
             obtain ⟨y362, hy362⟩ : ∃ y_ : List Int, y_ = (([5] : List Int)) := ⟨_, rfl⟩
             replace H : ((impl_held.f k y341 y362).bind fun t365 => (if (t361 ++ (⟨#[61]⟩ : ByteArray)).size + t365.size ≤ 9223372036854775807 then (some ((t361 ++ (⟨#[61]⟩ : ByteArray)) ++ t365)) else (none))) = some r := by first | (rw [hy362]; with_reducible exact H) | (have H2_ := (Option.bind_some _ _).symm.trans H; rw [hy362]; with_reducible exact H2_) | (have H2_ := (Option.bind_some _ _).symm.trans H; with_reducible exact H2_) | with_reducible exact H | (rw [hy362]; exact H) | exact H
             have Ny362 := Aside0.mk hy362
             clear hy362
             replace H := Option.bind_eq_some_iff.mp H
             obtain ⟨t365, A810, H⟩ := H
             replace H : (if (t361 ++ (⟨#[61]⟩ : ByteArray)).size + t365.size ≤ 9223372036854775807 then (some ((t361 ++ (⟨#[61]⟩ : ByteArray)) ++ t365)) else (none)) = some r := H
             have A81 := Aside0.mk A810
             clear A810
             by_cases c82 : (t361 ++ (⟨#[61]⟩ : ByteArray)).size + t365.size ≤ 9223372036854775807
             ·rw [if_pos c82] at H
              have c82b0 := eq_true c82
              have c82b1 : decide ((t361 ++ (⟨#[61]⟩ : ByteArray)).size + t365.size ≤ 9223372036854775807) = true := decide_eq_true c82
              try have c82b2 : (9223372036854775807 < (t361 ++ (⟨#[61]⟩ : ByteArray)).size + t365.size) = False := eq_false (Nat.not_lt.2 c82)
              try have c82b3 : (9223372036854775807 < t361.size + 1 + t365.size) = False := eq_false (by have z_ := c82; simp only [ByteArray.size_append] at z_; have e0_ : (⟨#[61]⟩ : ByteArray).size = 1 := rfl; omega)
              obtain rfl := Option.some.inj H
              have p316 : 0 ≤ ((ji2) : Int) := of_decide_eq_true pwb_
              have q316 : (ji2) < (l0.length : Int) := of_decide_eq_true pwb_
              obtain ⟨ad316, e316, hx316_0, hx316_1⟩ := at_T62 HR0.out (ji2) p316 q316
              cases e316
              replace p316 := eq_true p316
              replace q316 := eq_true q316
              go_enter Try.func68, Try.ntmps68
              go_wp2_with (first | ((with_reducible refine gate_dst (N := 4) rfl ?_); refine box_event ?hg (N := 4) ?hd (cs := #[.int .i64 0, .int .i64 0]) (t := 62) ?hr ?_; (case hd => rfl); (case hg => rfl); (case hr => first | (go_simp; done) | (go_simp; rfl)); intro gb317 hg w83 hbox hb; have n0_ := Aside0.mk (below_step pwi_ hb); have n1_ := Aside0.mk (hbox); have n2_ := Aside0.mk ((by rw [hg]; exact (below_size pwi_) : w.heap.size ≤ gb317)); have n3_ := Aside0.mk ((by rw [hg]; exact (below_size pwi_) : w.heap.size ≤ gb317)); clear HB; have HB := n0_; have BK317 := n1_; have GW317 := n2_; have GE317 := n3_; clear n0_ n1_ n2_ n3_; clear hb hbox hg; have hcz84_0 : w83.cell? ⟨gb317, 0, none⟩ = some (.int .i64 0) := (blk_cell BK317.out 0).trans rfl; have hcz84_1 : w83.cell? ⟨gb317, 1, none⟩ = some (.int .i64 0) := (blk_cell BK317.out 1).trans rfl; have hfz84_0 := blk_frozen BK317.out 0; have hfz84_1 := blk_frozen BK317.out 1) | ((with_reducible refine gate_store (t := 62) (p := 4) rfl ?_); (try (rw [drewN_self w83]; generalize hq_ : World.drewN w83 _ = w83; have n0_ := Aside0.mk (blk_at hq_ BK317.out); have n1_ := Aside0.mk (below_at hq_ HB.out); clear hq_ BK317 HB; have BK317 := n0_; have HB := n1_; clear n0_ n1_)); refine store_event (t := 62) (p := 4) (v := ?vo_w85) (w1 := ((w83.setCell ⟨gb317, 0, none⟩ (.int .i64 ((rd_T62 l0 (ji2)).f0))).setCell ⟨gb317, 1, none⟩ (.int .i64 ((rd_T62 l0 (ji2)).f1)))) ?hg ?ho ?hn ?hr ?_; (case ho => rfl); (case hg => rfl); (case hn => rfl); (case hr => first | (go_simp; done) | (go_simp; rfl)); intro w85 hw; have n0_ : Aside0 (w85.heap[gb317]? = some (.cells #[.int .i64 ((rd_T62 l0 (ji2)).f0), .int .i64 ((rd_T62 l0 (ji2)).f1)] 62 (0, 0))) := ⟨(by rw [hw]; exact pwp_)⟩; have n1_ : Aside0 (Below w.heap.size w w85) := ⟨(by rw [hw]; exact pwn_)⟩; clear hw; clear BK317; clear HB; have BK317 := n0_; have HB := n1_; clear n0_ n1_; have hcz86_0 : w85.cell? ⟨gb317, 0, none⟩ = some (.int .i64 ((rd_T62 l0 (ji2)).f0)) := (blk_cell BK317.out 0).trans rfl; have hcz86_1 : w85.cell? ⟨gb317, 1, none⟩ = some (.int .i64 ((rd_T62 l0 (ji2)).f1)) := (blk_cell BK317.out 1).trans rfl; have hfz86_0 := blk_frozen BK317.out 0; have hfz86_1 := blk_frozen BK317.out 1; have q87 : ((ji2) : Int) ≤ ((l0.length : Int) : Int) := of_decide_eq_true pwb_; obtain ⟨i087, hi087, _, hsz87, _⟩ := info_parts info62; have hroom87 : l0.length ≤ c0 := HC0.out; have hC87 : Kd.C k62 _ (some ad316) l0.length l0 := HR0.out; have hcut87 := cut_to (P := Try.prog) 25 62 .i64 Try.underlying25 hi087 (some ad316) l0.length c0 (ji2) (of_decide_eq_true pwb_) q87 hroom87; have hr87 := Kd.C_take (m := ((ji2) : Int).toNat) hC87 (by omega); have hy87 : y332.length = ((ji2) : Int).toNat := (by rw [Ny332.out, List.length_take]; omega); rw [← Ny332.out] at hr87; rw [← hy87] at hcut87; have HR335 := Aside0.mk hr87; have HC335 := Aside0.mk (show y332.length ≤ c0 from by omega); clear hr87 hC87 hroom87 hi087 hsz87; have KY87 := Aside0.mk hy87; clear hy87; replace q87 := eq_true q87) | (go_at_call 97; (with_reducible refine (impl_lastPart.calls k _ _ y332 t336 _ ?side1 ?side2 A33.out).mono ?_); (case side1 => repeat (first | exact (Kd.C_below HR335.out HB.out) | (with_reducible refine Kd.C_alloc ?_ _) | (with_reducible refine Kd.C_drewN ?_ _) | (with_reducible refine Kd.C_drew ?_))); (case side2 => exact HC335.out); rintro e w' ⟨rfl, ⟨nd, rfl⟩⟩; (try first | exact ⟨rfl, _, World.drewN_drewN _ _ _⟩ | exact ⟨rfl, _, Eq.trans (World.drewN_drewN _ _ _) (congrArg (World.drewN _) (Nat.add_assoc _ _ _))⟩); have q88 : (t336 : Int) ≤ ((l0.length : Int) : Int) := of_decide_eq_true pwb_; obtain ⟨i088, hi088, _, hsz88, _⟩ := info_parts info62; have hroom88 : l0.length ≤ c0 := HC0.out; have hC88 : Kd.C k62 _ (some ad316) l0.length l0 := HR0.out; have hcut88 := cut_to (P := Try.prog) 25 62 .i64 Try.underlying25 hi088 (some ad316) l0.length c0 t336 (of_decide_eq_true pwb_) q88 hroom88; have hr88 := Kd.C_take (m := (t336 : Int).toNat) hC88 (by omega); have hy88 : y337.length = (t336 : Int).toNat := (by rw [Ny337.out, List.length_take]; omega); rw [← Ny337.out] at hr88; rw [← hy88] at hcut88; have HR340 := Aside0.mk hr88; have HC340 := Aside0.mk (show y337.length ≤ c0 from by omega); clear hr88 hC88 hroom88 hi088 hsz88; have KY88 := Aside0.mk hy88; clear hy88; replace q88 := eq_true q88; have q89 : ((ji2) : Int) ≤ ((l0.length : Int) : Int) := of_decide_eq_true pwb_; obtain ⟨i089, hi089, _, hsz89, _⟩ := info_parts info62; have hroom89 : l0.length ≤ c0 := HC0.out; have hC89 : Kd.C k62 _ (some ad316) l0.length l0 := HR0.out; have ql89 : (t336 : Int) ≤ ((ji2) : Int) := of_decide_eq_true pwb_; have q089 : (0 : Int) ≤ (t336 : Int) := of_decide_eq_true pwb_; have hcut89 := cut_mid (P := Try.prog) 25 62 .i64 .i64 Try.underlying25 hi089 2 hsz89 (some ad316) l0.length c0 t336 (ji2) q089 ql89 q89 hroom89; have hr89 := Kd.C_mid (lo := (t336 : Int).toNat) (hi := ((ji2) : Int).toNat) (c := c0) hC89 (by omega) (by omega) hroom89; obtain ⟨A89, hA89⟩ : ∃ A1, A1 = (if c0 = (t336 : Int).toNat then (some ad316) else ((some ad316) : Option Addr).map (·.add ((t336 : Int).toNat * 2))) := ⟨_, rfl⟩; obtain ⟨c89, hc89⟩ : ∃ c1, c1 = c0 - (t336 : Int).toNat := ⟨_, rfl⟩; have hy89 : y341.length = ((ji2) : Int).toNat - (t336 : Int).toNat := (by rw [Ny341.out, List.length_drop, List.length_take] <;> omega); rw [show ((l0).take ((ji2) : Int).toNat).drop (t336 : Int).toNat = y341 from Ny341.out.symm] at hr89; replace hr89 : Kd.C k62 _ A89 y341.length y341 := (by rw [hA89]; exact hr89); rw [← hy89, ← hA89, ← hc89] at hcut89; have HR344 := Aside0.mk hr89; have HC344 := Aside0.mk (show y341.length ≤ c89 from by rw [hy89, hc89]; exact Nat.sub_le_sub_right (Nat.le_trans (by omega) hroom89) _); clear hr89 hC89 hroom89 hi089 hsz89 hc89; have KY89 := Aside0.mk hy89; have KA89 := Aside0.mk hA89; clear hy89 hA89; replace q89 := eq_true q89) | (go_at_call 68; (with_reducible refine (ih k (by omega) _ _ y337 t361 _ ?side1 ?side2 A79.out).mono ?_); (case side1 => repeat (first | exact (Kd.C_below HR340.out pwn_) | (with_reducible refine Kd.C_alloc ?_ _) | (with_reducible refine Kd.C_drewN ?_ _) | (with_reducible refine Kd.C_drew ?_))); (case side2 => exact HC340.out); rintro e w90 ⟨rfl, hb⟩; have n0_ := Aside0.mk (blk_below (g := gb317) (o := .cells #[.int .i64 ((rd_T62 l0 (ji2)).f0), .int .i64 ((rd_T62 l0 (ji2)).f1)] 62 (0, 0)) pwh_ hb); have n1_ := Aside0.mk (below_step pwn_ hb); clear BK317; clear HB; have BK317 := n0_; have HB := n1_; clear n0_ n1_; (try clear hb); (try clear hb2); (try clear hk); (try clear hi)) | ((with_reducible refine gate_dst (N := 78) rfl ?_); refine Kd.R_lit (Kd.int .i64) _ 3 ?hg (N := 78) ?hd (xs := ([5] : List Int)) (inner := [.int .i64 5]) (ok := fun _ => True) (okp := fun _ => True) ?hr ?hp (fun _ hk => hk) trivial (Below.refl _ _) (Nat.le_refl _) (by simp) ?_; (case hd => rfl); (case hg => rfl); (case hr => first | (go_simp; done) | (go_simp; rfl)); (case hp => exact (Reps.one (show Kd.M (Kd.int .i64) _ _ _ 5 [.int .i64 5] from rfl) (Reps.none _ _))); intro v363 w91 ho92 hb hg_ hnew_; clear hg_ hnew_; (first | rw [← Ny362.out] at ho92 | (simp only [Int.reduceToNat] at ho92; rw [← Ny362.out] at ho92)); have n0_ := Aside0.mk (Kd.R_lower ho92 (below_size pwn_)); have n1_ := Aside0.mk (blk_below (g := gb317) (o := .cells #[.int .i64 ((rd_T62 l0 (ji2)).f0), .int .i64 ((rd_T62 l0 (ji2)).f1)] 62 (0, 0)) pwh_ hb); have n2_ := Aside0.mk (below_step pwn_ hb); clear BK317; clear HB; have HO364 := n0_; have BK317 := n1_; have HB := n2_; clear n0_ n1_ n2_; clear hb ho92; obtain ⟨Ao93, co93, eo93⟩ := Kd.R_slice HO364.out; subst eo93) | (go_at_call 96; (with_reducible refine (h0_ k (by omega) _ _ y341 _ _ y362 t365 _ ?side1 ?side2 ?side3 ?side4 A81.out).mono ?_); (case side1 => repeat (first | exact (Kd.C_below HR344.out HB.out) | (with_reducible refine Kd.C_alloc ?_ _) | (with_reducible refine Kd.C_drewN ?_ _) | (with_reducible refine Kd.C_drew ?_))); (case side2 => exact HC344.out); (case side3 => repeat (first | exact (Kd.R_reads' HO364.out).2.2 | (with_reducible refine Kd.C_alloc ?_ _) | (with_reducible refine Kd.C_drewN ?_ _) | (with_reducible refine Kd.C_drew ?_))); (case side4 => exact (Kd.R_reads' HO364.out).2.1); rintro e w94 ⟨rfl, hb⟩; have n0_ := Aside0.mk (Kd.R_below (by (with_reducible repeat apply Kd.R_alloc); exact HO364.out) hb); have n1_ := Aside0.mk (blk_below (g := gb317) (o := .cells #[.int .i64 ((rd_T62 l0 (ji2)).f0), .int .i64 ((rd_T62 l0 (ji2)).f1)] 62 (0, 0)) pwh_ hb); have n2_ := Aside0.mk (below_step pwn_ hb); clear HO364; clear BK317; clear HB; have HO364 := n0_; have BK317 := n1_; have HB := n2_; clear n0_ n1_ n2_; (try clear hb); (try clear hb2); (try clear hk); (try clear hi)))
              repeat (go_quiet (first | ((with_reducible refine gate_dst (N := 4) rfl ?_); refine box_event ?hg (N := 4) ?hd (cs := #[.int .i64 0, .int .i64 0]) (t := 62) ?hr ?_; (case hd => rfl); (case hg => rfl); (case hr => first | (go_simp; done) | (go_simp; rfl)); intro gb317 hg w83 hbox hb; have n0_ := Aside0.mk (below_step pwi_ hb); have n1_ := Aside0.mk (hbox); have n2_ := Aside0.mk ((by rw [hg]; exact (below_size pwi_) : w.heap.size ≤ gb317)); have n3_ := Aside0.mk ((by rw [hg]; exact (below_size pwi_) : w.heap.size ≤ gb317)); clear HB; have HB := n0_; have BK317 := n1_; have GW317 := n2_; have GE317 := n3_; clear n0_ n1_ n2_ n3_; clear hb hbox hg; have hcz84_0 : w83.cell? ⟨gb317, 0, none⟩ = some (.int .i64 0) := (blk_cell BK317.out 0).trans rfl; have hcz84_1 : w83.cell? ⟨gb317, 1, none⟩ = some (.int .i64 0) := (blk_cell BK317.out 1).trans rfl; have hfz84_0 := blk_frozen BK317.out 0; have hfz84_1 := blk_frozen BK317.out 1) | ((with_reducible refine gate_store (t := 62) (p := 4) rfl ?_); (try (rw [drewN_self w83]; generalize hq_ : World.drewN w83 _ = w83; have n0_ := Aside0.mk (blk_at hq_ BK317.out); have n1_ := Aside0.mk (below_at hq_ HB.out); clear hq_ BK317 HB; have BK317 := n0_; have HB := n1_; clear n0_ n1_)); refine store_event (t := 62) (p := 4) (v := ?vo_w85) (w1 := ((w83.setCell ⟨gb317, 0, none⟩ (.int .i64 ((rd_T62 l0 (ji2)).f0))).setCell ⟨gb317, 1, none⟩ (.int .i64 ((rd_T62 l0 (ji2)).f1)))) ?hg ?ho ?hn ?hr ?_; (case ho => rfl); (case hg => rfl); (case hn => rfl); (case hr => first | (go_simp; done) | (go_simp; rfl)); intro w85 hw; have n0_ : Aside0 (w85.heap[gb317]? = some (.cells #[.int .i64 ((rd_T62 l0 (ji2)).f0), .int .i64 ((rd_T62 l0 (ji2)).f1)] 62 (0, 0))) := ⟨(by rw [hw]; exact pwp_)⟩; have n1_ : Aside0 (Below w.heap.size w w85) := ⟨(by rw [hw]; exact pwn_)⟩; clear hw; clear BK317; clear HB; have BK317 := n0_; have HB := n1_; clear n0_ n1_; have hcz86_0 : w85.cell? ⟨gb317, 0, none⟩ = some (.int .i64 ((rd_T62 l0 (ji2)).f0)) := (blk_cell BK317.out 0).trans rfl; have hcz86_1 : w85.cell? ⟨gb317, 1, none⟩ = some (.int .i64 ((rd_T62 l0 (ji2)).f1)) := (blk_cell BK317.out 1).trans rfl; have hfz86_0 := blk_frozen BK317.out 0; have hfz86_1 := blk_frozen BK317.out 1; have q87 : ((ji2) : Int) ≤ ((l0.length : Int) : Int) := of_decide_eq_true pwb_; obtain ⟨i087, hi087, _, hsz87, _⟩ := info_parts info62; have hroom87 : l0.length ≤ c0 := HC0.out; have hC87 : Kd.C k62 _ (some ad316) l0.length l0 := HR0.out; have hcut87 := cut_to (P := Try.prog) 25 62 .i64 Try.underlying25 hi087 (some ad316) l0.length c0 (ji2) (of_decide_eq_true pwb_) q87 hroom87; have hr87 := Kd.C_take (m := ((ji2) : Int).toNat) hC87 (by omega); have hy87 : y332.length = ((ji2) : Int).toNat := (by rw [Ny332.out, List.length_take]; omega); rw [← Ny332.out] at hr87; rw [← hy87] at hcut87; have HR335 := Aside0.mk hr87; have HC335 := Aside0.mk (show y332.length ≤ c0 from by omega); clear hr87 hC87 hroom87 hi087 hsz87; have KY87 := Aside0.mk hy87; clear hy87; replace q87 := eq_true q87) | (go_at_call 97; (with_reducible refine (impl_lastPart.calls k _ _ y332 t336 _ ?side1 ?side2 A33.out).mono ?_); (case side1 => repeat (first | exact (Kd.C_below HR335.out HB.out) | (with_reducible refine Kd.C_alloc ?_ _) | (with_reducible refine Kd.C_drewN ?_ _) | (with_reducible refine Kd.C_drew ?_))); (case side2 => exact HC335.out); rintro e w' ⟨rfl, ⟨nd, rfl⟩⟩; (try first | exact ⟨rfl, _, World.drewN_drewN _ _ _⟩ | exact ⟨rfl, _, Eq.trans (World.drewN_drewN _ _ _) (congrArg (World.drewN _) (Nat.add_assoc _ _ _))⟩); have q88 : (t336 : Int) ≤ ((l0.length : Int) : Int) := of_decide_eq_true pwb_; obtain ⟨i088, hi088, _, hsz88, _⟩ := info_parts info62; have hroom88 : l0.length ≤ c0 := HC0.out; have hC88 : Kd.C k62 _ (some ad316) l0.length l0 := HR0.out; have hcut88 := cut_to (P := Try.prog) 25 62 .i64 Try.underlying25 hi088 (some ad316) l0.length c0 t336 (of_decide_eq_true pwb_) q88 hroom88; have hr88 := Kd.C_take (m := (t336 : Int).toNat) hC88 (by omega); have hy88 : y337.length = (t336 : Int).toNat := (by rw [Ny337.out, List.length_take]; omega); rw [← Ny337.out] at hr88; rw [← hy88] at hcut88; have HR340 := Aside0.mk hr88; have HC340 := Aside0.mk (show y337.length ≤ c0 from by omega); clear hr88 hC88 hroom88 hi088 hsz88; have KY88 := Aside0.mk hy88; clear hy88; replace q88 := eq_true q88; have q89 : ((ji2) : Int) ≤ ((l0.length : Int) : Int) := of_decide_eq_true pwb_; obtain ⟨i089, hi089, _, hsz89, _⟩ := info_parts info62; have hroom89 : l0.length ≤ c0 := HC0.out; have hC89 : Kd.C k62 _ (some ad316) l0.length l0 := HR0.out; have ql89 : (t336 : Int) ≤ ((ji2) : Int) := of_decide_eq_true pwb_; have q089 : (0 : Int) ≤ (t336 : Int) := of_decide_eq_true pwb_; have hcut89 := cut_mid (P := Try.prog) 25 62 .i64 .i64 Try.underlying25 hi089 2 hsz89 (some ad316) l0.length c0 t336 (ji2) q089 ql89 q89 hroom89; have hr89 := Kd.C_mid (lo := (t336 : Int).toNat) (hi := ((ji2) : Int).toNat) (c := c0) hC89 (by omega) (by omega) hroom89; obtain ⟨A89, hA89⟩ : ∃ A1, A1 = (if c0 = (t336 : Int).toNat then (some ad316) else ((some ad316) : Option Addr).map (·.add ((t336 : Int).toNat * 2))) := ⟨_, rfl⟩; obtain ⟨c89, hc89⟩ : ∃ c1, c1 = c0 - (t336 : Int).toNat := ⟨_, rfl⟩; have hy89 : y341.length = ((ji2) : Int).toNat - (t336 : Int).toNat := (by rw [Ny341.out, List.length_drop, List.length_take] <;> omega); rw [show ((l0).take ((ji2) : Int).toNat).drop (t336 : Int).toNat = y341 from Ny341.out.symm] at hr89; replace hr89 : Kd.C k62 _ A89 y341.length y341 := (by rw [hA89]; exact hr89); rw [← hy89, ← hA89, ← hc89] at hcut89; have HR344 := Aside0.mk hr89; have HC344 := Aside0.mk (show y341.length ≤ c89 from by rw [hy89, hc89]; exact Nat.sub_le_sub_right (Nat.le_trans (by omega) hroom89) _); clear hr89 hC89 hroom89 hi089 hsz89 hc89; have KY89 := Aside0.mk hy89; have KA89 := Aside0.mk hA89; clear hy89 hA89; replace q89 := eq_true q89) | (go_at_call 68; (with_reducible refine (ih k (by omega) _ _ y337 t361 _ ?side1 ?side2 A79.out).mono ?_); (case side1 => repeat (first | exact (Kd.C_below HR340.out pwn_) | (with_reducible refine Kd.C_alloc ?_ _) | (with_reducible refine Kd.C_drewN ?_ _) | (with_reducible refine Kd.C_drew ?_))); (case side2 => exact HC340.out); rintro e w90 ⟨rfl, hb⟩; have n0_ := Aside0.mk (blk_below (g := gb317) (o := .cells #[.int .i64 ((rd_T62 l0 (ji2)).f0), .int .i64 ((rd_T62 l0 (ji2)).f1)] 62 (0, 0)) pwh_ hb); have n1_ := Aside0.mk (below_step pwn_ hb); clear BK317; clear HB; have BK317 := n0_; have HB := n1_; clear n0_ n1_; (try clear hb); (try clear hb2); (try clear hk); (try clear hi)) | ((with_reducible refine gate_dst (N := 78) rfl ?_); refine Kd.R_lit (Kd.int .i64) _ 3 ?hg (N := 78) ?hd (xs := ([5] : List Int)) (inner := [.int .i64 5]) (ok := fun _ => True) (okp := fun _ => True) ?hr ?hp (fun _ hk => hk) trivial (Below.refl _ _) (Nat.le_refl _) (by simp) ?_; (case hd => rfl); (case hg => rfl); (case hr => first | (go_simp; done) | (go_simp; rfl)); (case hp => exact (Reps.one (show Kd.M (Kd.int .i64) _ _ _ 5 [.int .i64 5] from rfl) (Reps.none _ _))); intro v363 w91 ho92 hb hg_ hnew_; clear hg_ hnew_; (first | rw [← Ny362.out] at ho92 | (simp only [Int.reduceToNat] at ho92; rw [← Ny362.out] at ho92)); have n0_ := Aside0.mk (Kd.R_lower ho92 (below_size pwn_)); have n1_ := Aside0.mk (blk_below (g := gb317) (o := .cells #[.int .i64 ((rd_T62 l0 (ji2)).f0), .int .i64 ((rd_T62 l0 (ji2)).f1)] 62 (0, 0)) pwh_ hb); have n2_ := Aside0.mk (below_step pwn_ hb); clear BK317; clear HB; have HO364 := n0_; have BK317 := n1_; have HB := n2_; clear n0_ n1_ n2_; clear hb ho92; obtain ⟨Ao93, co93, eo93⟩ := Kd.R_slice HO364.out; subst eo93) | (go_at_call 96; (with_reducible refine (h0_ k (by omega) _ _ y341 _ _ y362 t365 _ ?side1 ?side2 ?side3 ?side4 A81.out).mono ?_); (case side1 => repeat (first | exact (Kd.C_below HR344.out HB.out) | (with_reducible refine Kd.C_alloc ?_ _) | (with_reducible refine Kd.C_drewN ?_ _) | (with_reducible refine Kd.C_drew ?_))); (case side2 => exact HC344.out); (case side3 => repeat (first | exact (Kd.R_reads' HO364.out).2.2 | (with_reducible refine Kd.C_alloc ?_ _) | (with_reducible refine Kd.C_drewN ?_ _) | (with_reducible refine Kd.C_drew ?_))); (case side4 => exact (Kd.R_reads' HO364.out).2.1); rintro e w94 ⟨rfl, hb⟩; have n0_ := Aside0.mk (Kd.R_below (by (with_reducible repeat apply Kd.R_alloc); exact HO364.out) hb); have n1_ := Aside0.mk (blk_below (g := gb317) (o := .cells #[.int .i64 ((rd_T62 l0 (ji2)).f0), .int .i64 ((rd_T62 l0 (ji2)).f1)] 62 (0, 0)) pwh_ hb); have n2_ := Aside0.mk (below_step pwn_ hb); clear HO364; clear BK317; clear HB; have HO364 := n0_; have BK317 := n1_; have HB := n2_; clear n0_ n1_ n2_; (try clear hb); (try clear hb2); (try clear hk); (try clear hi))); try go_wp2_with (first | ((with_reducible refine gate_dst (N := 4) rfl ?_); refine box_event ?hg (N := 4) ?hd (cs := #[.int .i64 0, .int .i64 0]) (t := 62) ?hr ?_; (case hd => rfl); (case hg => rfl); (case hr => first | (go_simp; done) | (go_simp; rfl)); intro gb317 hg w83 hbox hb; have n0_ := Aside0.mk (below_step pwi_ hb); have n1_ := Aside0.mk (hbox); have n2_ := Aside0.mk ((by rw [hg]; exact (below_size pwi_) : w.heap.size ≤ gb317)); have n3_ := Aside0.mk ((by rw [hg]; exact (below_size pwi_) : w.heap.size ≤ gb317)); clear HB; have HB := n0_; have BK317 := n1_; have GW317 := n2_; have GE317 := n3_; clear n0_ n1_ n2_ n3_; clear hb hbox hg; have hcz84_0 : w83.cell? ⟨gb317, 0, none⟩ = some (.int .i64 0) := (blk_cell BK317.out 0).trans rfl; have hcz84_1 : w83.cell? ⟨gb317, 1, none⟩ = some (.int .i64 0) := (blk_cell BK317.out 1).trans rfl; have hfz84_0 := blk_frozen BK317.out 0; have hfz84_1 := blk_frozen BK317.out 1) | ((with_reducible refine gate_store (t := 62) (p := 4) rfl ?_); (try (rw [drewN_self w83]; generalize hq_ : World.drewN w83 _ = w83; have n0_ := Aside0.mk (blk_at hq_ BK317.out); have n1_ := Aside0.mk (below_at hq_ HB.out); clear hq_ BK317 HB; have BK317 := n0_; have HB := n1_; clear n0_ n1_)); refine store_event (t := 62) (p := 4) (v := ?vo_w85) (w1 := ((w83.setCell ⟨gb317, 0, none⟩ (.int .i64 ((rd_T62 l0 (ji2)).f0))).setCell ⟨gb317, 1, none⟩ (.int .i64 ((rd_T62 l0 (ji2)).f1)))) ?hg ?ho ?hn ?hr ?_; (case ho => rfl); (case hg => rfl); (case hn => rfl); (case hr => first | (go_simp; done) | (go_simp; rfl)); intro w85 hw; have n0_ : Aside0 (w85.heap[gb317]? = some (.cells #[.int .i64 ((rd_T62 l0 (ji2)).f0), .int .i64 ((rd_T62 l0 (ji2)).f1)] 62 (0, 0))) := ⟨(by rw [hw]; exact pwp_)⟩; have n1_ : Aside0 (Below w.heap.size w w85) := ⟨(by rw [hw]; exact pwn_)⟩; clear hw; clear BK317; clear HB; have BK317 := n0_; have HB := n1_; clear n0_ n1_; have hcz86_0 : w85.cell? ⟨gb317, 0, none⟩ = some (.int .i64 ((rd_T62 l0 (ji2)).f0)) := (blk_cell BK317.out 0).trans rfl; have hcz86_1 : w85.cell? ⟨gb317, 1, none⟩ = some (.int .i64 ((rd_T62 l0 (ji2)).f1)) := (blk_cell BK317.out 1).trans rfl; have hfz86_0 := blk_frozen BK317.out 0; have hfz86_1 := blk_frozen BK317.out 1; have q87 : ((ji2) : Int) ≤ ((l0.length : Int) : Int) := of_decide_eq_true pwb_; obtain ⟨i087, hi087, _, hsz87, _⟩ := info_parts info62; have hroom87 : l0.length ≤ c0 := HC0.out; have hC87 : Kd.C k62 _ (some ad316) l0.length l0 := HR0.out; have hcut87 := cut_to (P := Try.prog) 25 62 .i64 Try.underlying25 hi087 (some ad316) l0.length c0 (ji2) (of_decide_eq_true pwb_) q87 hroom87; have hr87 := Kd.C_take (m := ((ji2) : Int).toNat) hC87 (by omega); have hy87 : y332.length = ((ji2) : Int).toNat := (by rw [Ny332.out, List.length_take]; omega); rw [← Ny332.out] at hr87; rw [← hy87] at hcut87; have HR335 := Aside0.mk hr87; have HC335 := Aside0.mk (show y332.length ≤ c0 from by omega); clear hr87 hC87 hroom87 hi087 hsz87; have KY87 := Aside0.mk hy87; clear hy87; replace q87 := eq_true q87) | (go_at_call 97; (with_reducible refine (impl_lastPart.calls k _ _ y332 t336 _ ?side1 ?side2 A33.out).mono ?_); (case side1 => repeat (first | exact (Kd.C_below HR335.out HB.out) | (with_reducible refine Kd.C_alloc ?_ _) | (with_reducible refine Kd.C_drewN ?_ _) | (with_reducible refine Kd.C_drew ?_))); (case side2 => exact HC335.out); rintro e w' ⟨rfl, ⟨nd, rfl⟩⟩; (try first | exact ⟨rfl, _, World.drewN_drewN _ _ _⟩ | exact ⟨rfl, _, Eq.trans (World.drewN_drewN _ _ _) (congrArg (World.drewN _) (Nat.add_assoc _ _ _))⟩); have q88 : (t336 : Int) ≤ ((l0.length : Int) : Int) := of_decide_eq_true pwb_; obtain ⟨i088, hi088, _, hsz88, _⟩ := info_parts info62; have hroom88 : l0.length ≤ c0 := HC0.out; have hC88 : Kd.C k62 _ (some ad316) l0.length l0 := HR0.out; have hcut88 := cut_to (P := Try.prog) 25 62 .i64 Try.underlying25 hi088 (some ad316) l0.length c0 t336 (of_decide_eq_true pwb_) q88 hroom88; have hr88 := Kd.C_take (m := (t336 : Int).toNat) hC88 (by omega); have hy88 : y337.length = (t336 : Int).toNat := (by rw [Ny337.out, List.length_take]; omega); rw [← Ny337.out] at hr88; rw [← hy88] at hcut88; have HR340 := Aside0.mk hr88; have HC340 := Aside0.mk (show y337.length ≤ c0 from by omega); clear hr88 hC88 hroom88 hi088 hsz88; have KY88 := Aside0.mk hy88; clear hy88; replace q88 := eq_true q88; have q89 : ((ji2) : Int) ≤ ((l0.length : Int) : Int) := of_decide_eq_true pwb_; obtain ⟨i089, hi089, _, hsz89, _⟩ := info_parts info62; have hroom89 : l0.length ≤ c0 := HC0.out; have hC89 : Kd.C k62 _ (some ad316) l0.length l0 := HR0.out; have ql89 : (t336 : Int) ≤ ((ji2) : Int) := of_decide_eq_true pwb_; have q089 : (0 : Int) ≤ (t336 : Int) := of_decide_eq_true pwb_; have hcut89 := cut_mid (P := Try.prog) 25 62 .i64 .i64 Try.underlying25 hi089 2 hsz89 (some ad316) l0.length c0 t336 (ji2) q089 ql89 q89 hroom89; have hr89 := Kd.C_mid (lo := (t336 : Int).toNat) (hi := ((ji2) : Int).toNat) (c := c0) hC89 (by omega) (by omega) hroom89; obtain ⟨A89, hA89⟩ : ∃ A1, A1 = (if c0 = (t336 : Int).toNat then (some ad316) else ((some ad316) : Option Addr).map (·.add ((t336 : Int).toNat * 2))) := ⟨_, rfl⟩; obtain ⟨c89, hc89⟩ : ∃ c1, c1 = c0 - (t336 : Int).toNat := ⟨_, rfl⟩; have hy89 : y341.length = ((ji2) : Int).toNat - (t336 : Int).toNat := (by rw [Ny341.out, List.length_drop, List.length_take] <;> omega); rw [show ((l0).take ((ji2) : Int).toNat).drop (t336 : Int).toNat = y341 from Ny341.out.symm] at hr89; replace hr89 : Kd.C k62 _ A89 y341.length y341 := (by rw [hA89]; exact hr89); rw [← hy89, ← hA89, ← hc89] at hcut89; have HR344 := Aside0.mk hr89; have HC344 := Aside0.mk (show y341.length ≤ c89 from by rw [hy89, hc89]; exact Nat.sub_le_sub_right (Nat.le_trans (by omega) hroom89) _); clear hr89 hC89 hroom89 hi089 hsz89 hc89; have KY89 := Aside0.mk hy89; have KA89 := Aside0.mk hA89; clear hy89 hA89; replace q89 := eq_true q89) | (go_at_call 68; (with_reducible refine (ih k (by omega) _ _ y337 t361 _ ?side1 ?side2 A79.out).mono ?_); (case side1 => repeat (first | exact (Kd.C_below HR340.out pwn_) | (with_reducible refine Kd.C_alloc ?_ _) | (with_reducible refine Kd.C_drewN ?_ _) | (with_reducible refine Kd.C_drew ?_))); (case side2 => exact HC340.out); rintro e w90 ⟨rfl, hb⟩; have n0_ := Aside0.mk (blk_below (g := gb317) (o := .cells #[.int .i64 ((rd_T62 l0 (ji2)).f0), .int .i64 ((rd_T62 l0 (ji2)).f1)] 62 (0, 0)) pwh_ hb); have n1_ := Aside0.mk (below_step pwn_ hb); clear BK317; clear HB; have BK317 := n0_; have HB := n1_; clear n0_ n1_; (try clear hb); (try clear hb2); (try clear hk); (try clear hi)) | ((with_reducible refine gate_dst (N := 78) rfl ?_); refine Kd.R_lit (Kd.int .i64) _ 3 ?hg (N := 78) ?hd (xs := ([5] : List Int)) (inner := [.int .i64 5]) (ok := fun _ => True) (okp := fun _ => True) ?hr ?hp (fun _ hk => hk) trivial (Below.refl _ _) (Nat.le_refl _) (by simp) ?_; (case hd => rfl); (case hg => rfl); (case hr => first | (go_simp; done) | (go_simp; rfl)); (case hp => exact (Reps.one (show Kd.M (Kd.int .i64) _ _ _ 5 [.int .i64 5] from rfl) (Reps.none _ _))); intro v363 w91 ho92 hb hg_ hnew_; clear hg_ hnew_; (first | rw [← Ny362.out] at ho92 | (simp only [Int.reduceToNat] at ho92; rw [← Ny362.out] at ho92)); have n0_ := Aside0.mk (Kd.R_lower ho92 (below_size pwn_)); have n1_ := Aside0.mk (blk_below (g := gb317) (o := .cells #[.int .i64 ((rd_T62 l0 (ji2)).f0), .int .i64 ((rd_T62 l0 (ji2)).f1)] 62 (0, 0)) pwh_ hb); have n2_ := Aside0.mk (below_step pwn_ hb); clear BK317; clear HB; have HO364 := n0_; have BK317 := n1_; have HB := n2_; clear n0_ n1_ n2_; clear hb ho92; obtain ⟨Ao93, co93, eo93⟩ := Kd.R_slice HO364.out; subst eo93) | (go_at_call 96; (with_reducible refine (h0_ k (by omega) _ _ y341 _ _ y362 t365 _ ?side1 ?side2 ?side3 ?side4 A81.out).mono ?_); (case side1 => repeat (first | exact (Kd.C_below HR344.out HB.out) | (with_reducible refine Kd.C_alloc ?_ _) | (with_reducible refine Kd.C_drewN ?_ _) | (with_reducible refine Kd.C_drew ?_))); (case side2 => exact HC344.out); (case side3 => repeat (first | exact (Kd.R_reads' HO364.out).2.2 | (with_reducible refine Kd.C_alloc ?_ _) | (with_reducible refine Kd.C_drewN ?_ _) | (with_reducible refine Kd.C_drew ?_))); (case side4 => exact (Kd.R_reads' HO364.out).2.1); rintro e w94 ⟨rfl, hb⟩; have n0_ := Aside0.mk (Kd.R_below (by (with_reducible repeat apply Kd.R_alloc); exact HO364.out) hb); have n1_ := Aside0.mk (blk_below (g := gb317) (o := .cells #[.int .i64 ((rd_T62 l0 (ji2)).f0), .int .i64 ((rd_T62 l0 (ji2)).f1)] 62 (0, 0)) pwh_ hb); have n2_ := Aside0.mk (below_step pwn_ hb); clear HO364; clear BK317; clear HB; have HO364 := n0_; have BK317 := n1_; have HB := n2_; clear n0_ n1_ n2_; (try clear hb); (try clear hb2); (try clear hk); (try clear hi))))
              go_ret
              exact ⟨by first | rfl | (simp [errW_none, errW_some] <;> rfl) | (simp only [← hji2]; first | rfl | (simp [errW_none, errW_some] <;> rfl)) | (simp [*, errW_none, errW_some] <;> rfl), pwn_⟩
             ·rw [if_neg c82] at H
              exact absurd H (by simp)
            ·rw [if_neg c80] at H
             exact absurd H (by simp)
         ·rw [if_neg c37] at H
          exact absurd H (by simp)
        ·rw [if_neg c35] at H
         exact absurd H (by simp)
       ·rw [if_neg c34] at H
        exact absurd H (by simp)
      ·rw [if_neg c32] at H
       exact absurd H (by simp)
  ·rw [if_neg c4] at H
   exact absurd H (by simp)
 ·rw [if_neg c3] at H
  exact absurd H (by simp)
theorem textOf_held_c.both (k : Nat) : (∀ (A0 : Option Addr) (c0 : Nat) (l0 : List (S62)) (A1 : Option Addr) (c1 : Nat) (l1 : List Int) (r : ByteArray) (w : World) (hr0 : Kd.C k62 w A0 l0.length l0) (hc0 : l0.length ≤ c0) (hr1 : Kd.C (Kd.int .i64) w A1 l1.length l1) (hc1 : l1.length ≤ c1) (h : impl_held.f k l0 l1 = some r),
  Calls Try.prog 96 #[.slice A0 l0.length c0, .slice A1 l1.length c1] w fun e w' => e = .returned (.string r) ∧ Below w.heap.size w w') ∧ (∀ (A0 : Option Addr) (c0 : Nat) (l0 : List (S62)) (r : ByteArray) (w : World) (hr0 : Kd.C k62 w A0 l0.length l0) (hc0 : l0.length ≤ c0) (h : impl_textOf.f k l0 = some r),
  Calls Try.prog 68 #[.slice A0 l0.length c0] w fun e w' => e = .returned (.string r) ∧ Below w.heap.size w w') := by
 induction k using Nat.strongRecOn with
 | _ k ih =>
  exact ⟨impl_held.step k (fun m h => (ih m h).1) (fun m h => (ih m h).2), impl_textOf.step k (fun m h => (ih m h).1) (fun m h => (ih m h).2)⟩
theorem impl_held.calls (k : Nat) : ∀ (A0 : Option Addr) (c0 : Nat) (l0 : List (S62)) (A1 : Option Addr) (c1 : Nat) (l1 : List Int) (r : ByteArray) (w : World) (hr0 : Kd.C k62 w A0 l0.length l0) (hc0 : l0.length ≤ c0) (hr1 : Kd.C (Kd.int .i64) w A1 l1.length l1) (hc1 : l1.length ≤ c1) (h : impl_held.f k l0 l1 = some r),
  Calls Try.prog 96 #[.slice A0 l0.length c0, .slice A1 l1.length c1] w fun e w' => e = .returned (.string r) ∧ Below w.heap.size w w' := (textOf_held_c.both k).1
theorem impl_textOf.calls (k : Nat) : ∀ (A0 : Option Addr) (c0 : Nat) (l0 : List (S62)) (r : ByteArray) (w : World) (hr0 : Kd.C k62 w A0 l0.length l0) (hc0 : l0.length ≤ c0) (h : impl_textOf.f k l0 = some r),
  Calls Try.prog 68 #[.slice A0 l0.length c0] w fun e w' => e = .returned (.string r) ∧ Below w.heap.size w w' := (textOf_held_c.both k).2

/-! ### impl_TermText: function 20 -/
def impl_TermText.f (k : Nat) (a0 : Int) (l1 : List (S62)) : Option (ByteArray) := (impl_TermOk.f k a0 l1).bind fun t366 => (if t366 = true then ((impl_textOf.f k l1).bind fun t367 => (some t367)) else (some (⟨#[]⟩ : ByteArray)))
theorem impl_TermText.mono : ∀ a0 a1 k, LeO (impl_TermText.f k a0 a1) (impl_TermText.f (k + 1) a0 a1) := by
 intro a0 a1 k
 unfold impl_TermText.f
 repeat' first
   | (with_reducible exact impl_TermOk.mono _ _ _)
   | (with_reducible exact impl_textOf.mono _ _)
   | (with_reducible exact LeO.refl _)
   | (with_reducible exact LeO.none _)
   | (with_reducible refine LeO.ite ?_ ?_)
   | (with_reducible refine LeO.bind ?_ (fun _ => ?_))
   | exact impl_TermOk.mono _ _ _
   | exact impl_textOf.mono _ _
   | exact LeO.none _
   | refine LeO.ite ?_ ?_
   | refine LeO.bind ?_ (fun _ => ?_)
set_option maxHeartbeats 8000000 in
set_option maxRecDepth 100000 in
theorem impl_TermText.calls (k : Nat) (a0 : Int) (A1 : Option Addr) (c1 : Nat) (l1 : List (S62)) (r : ByteArray) (w : World) (hr1 : Kd.C k62 w A1 l1.length l1) (hc1 : l1.length ≤ c1) (h : impl_TermText.f k a0 l1 = some r) :
  Calls Try.prog 20 #[.int .i64 a0, .slice A1 l1.length c1] w fun e w' => e = .returned (.string r) ∧ Below w.heap.size w w' := by
 have HR1 := Aside0.mk hr1
 have HC1 := Aside0.mk hc1
 clear hr1 hc1
 have HB := Aside0.mk (Below.refl w.heap.size w)
 have H : ((impl_TermOk.f k a0 l1).bind fun t366 => (if t366 = true then ((impl_textOf.f k l1).bind fun t367 => (some t367)) else (some (⟨#[]⟩ : ByteArray)))) = some r := h
 clear h
 replace H := Option.bind_eq_some_iff.mp H
 obtain ⟨t366, A30, H⟩ := H
 replace H : (if t366 = true then ((impl_textOf.f k l1).bind fun t367 => (some t367)) else (some (⟨#[]⟩ : ByteArray))) = some r := H
 have A3 := Aside0.mk A30
 clear A30
 by_cases c4 : t366 = true
 ·subst c4
  have H1 : ((impl_textOf.f k l1).bind fun t367 => (some t367)) = some r := by rw [if_pos rfl] at H; exact H
  clear H
  have H := H1
  clear H1
  replace H := Option.bind_eq_some_iff.mp H
  obtain ⟨t367, A50, H⟩ := H
  replace H : (some t367) = some r := H
  have A5 := Aside0.mk A50
  clear A50
  obtain rfl := Option.some.inj H
  go_enter Try.func20, Try.ntmps20
  go_wp2_with (first | ((with_reducible refine gate_callee (f := 21) rfl ?_); refine goesL_ (some 7) rfl rfl Try.func21 (by kernel_rfl) rfl #[.int .i64 a0, .slice A1 l1.length c1] rfl pwk_ ?_; (with_reducible refine (impl_TermOk.calls k a0 _ _ l1 true _ ?side1 ?side2 A3.out).mono ?_); (case side1 => repeat (first | exact HR1.out | (with_reducible refine Kd.C_alloc ?_ _) | (with_reducible refine Kd.C_drewN ?_ _) | (with_reducible refine Kd.C_drew ?_))); (case side2 => exact HC1.out); rintro e w6 ⟨rfl, hb⟩; refine ⟨_, rfl, ?_⟩; have n0_ := Aside0.mk (below_step pwi_ hb); clear HB; have HB := n0_; clear n0_; (try clear hb); (try clear hb2); (try clear hk); (try clear hi)) | ((with_reducible refine gate_callee (f := 68) rfl ?_); refine goesL_ (some 10) rfl rfl Try.func68 (by kernel_rfl) rfl #[.slice A1 l1.length c1] rfl pwk_ ?_; (with_reducible refine (impl_textOf.calls k _ _ l1 t367 _ ?side1 ?side2 A5.out).mono ?_); (case side1 => repeat (first | exact (Kd.C_below HR1.out HB.out) | (with_reducible refine Kd.C_alloc ?_ _) | (with_reducible refine Kd.C_drewN ?_ _) | (with_reducible refine Kd.C_drew ?_))); (case side2 => exact HC1.out); rintro e w7 ⟨rfl, hb⟩; refine ⟨_, rfl, ?_⟩; have n0_ := Aside0.mk (below_step pwi_ hb); clear HB; have HB := n0_; clear n0_; (try clear hb); (try clear hb2); (try clear hk); (try clear hi)))
  go_ret
  exact ⟨by first | rfl | (simp [errW_none, errW_some] <;> rfl) | (simp [*, errW_none, errW_some] <;> rfl), pwi_⟩
 ·replace c4 := Bool.eq_false_iff.mpr c4
  subst c4
  have H1 : (some (⟨#[]⟩ : ByteArray)) = some r := by rw [if_neg (show ¬ (false = true) by decide)] at H; exact H
  clear H
  have H := H1
  clear H1
  obtain rfl := Option.some.inj H
  go_enter Try.func20, Try.ntmps20
  go_wp2_with (first | ((with_reducible refine gate_callee (f := 21) rfl ?_); refine goesL_ (some 7) rfl rfl Try.func21 (by kernel_rfl) rfl #[.int .i64 a0, .slice A1 l1.length c1] rfl pwk_ ?_; (with_reducible refine (impl_TermOk.calls k a0 _ _ l1 false _ ?side1 ?side2 A3.out).mono ?_); (case side1 => repeat (first | exact HR1.out | (with_reducible refine Kd.C_alloc ?_ _) | (with_reducible refine Kd.C_drewN ?_ _) | (with_reducible refine Kd.C_drew ?_))); (case side2 => exact HC1.out); rintro e w8 ⟨rfl, hb⟩; refine ⟨_, rfl, ?_⟩; have n0_ := Aside0.mk (below_step pwi_ hb); clear HB; have HB := n0_; clear n0_; (try clear hb); (try clear hb2); (try clear hk); (try clear hi)))
  go_ret
  exact ⟨by first | rfl | (simp [errW_none, errW_some] <;> rfl) | (simp [*, errW_none, errW_some] <;> rfl), pwi_⟩

/-! ### stringslite_HasPrefix: function 108 -/
def stringslite_HasPrefix.f (a0 : ByteArray) (a1 : ByteArray) : Option (Bool) := if (a0.size : Int) ≥ (a1.size : Int) then (if 0 ≤ (a1.size : Int) then (if (a1.size : Int) ≤ (a0.size : Int) then (some ((a0.extract 0 ((a1.size : Int) : Int).toNat).toList == a1.toList)) else (none)) else (none)) else (some false)
set_option maxHeartbeats 8000000 in
set_option maxRecDepth 100000 in
theorem stringslite_HasPrefix.calls (a0 : ByteArray) (a1 : ByteArray) (r : Bool) (w : World) (h : stringslite_HasPrefix.f a0 a1 = some r) :
  Calls Try.prog 108 #[.string a0, .string a1] w fun e w' => e = .returned (.bool r) ∧ Drawn0 w w' := by
 have H : (if (a0.size : Int) ≥ (a1.size : Int) then (if 0 ≤ (a1.size : Int) then (if (a1.size : Int) ≤ (a0.size : Int) then (some ((a0.extract 0 ((a1.size : Int) : Int).toNat).toList == a1.toList)) else (none)) else (none)) else (some false)) = some r := h
 clear h
 by_cases c3 : (a0.size : Int) ≥ (a1.size : Int)
 ·rw [if_pos c3] at H
  have c3b0 : decide ((a1.size : Int) ≤ (a0.size : Int)) = true := decide_eq_true c3
  have c3b1 : decide (a1.size ≤ a0.size) = true := decide_eq_true (Int.ofNat_le.mp c3)
  clear c3
  by_cases c4 : 0 ≤ (a1.size : Int)
  ·rw [if_pos c4] at H
   have c4b0 := eq_true c4
   have c4b1 : decide (0 ≤ (a1.size : Int)) = true := decide_eq_true c4
   clear c4
   by_cases c5 : (a1.size : Int) ≤ (a0.size : Int)
   ·rw [if_pos c5] at H
    have c5b0 := eq_true c5
    have c5b1 : decide ((a1.size : Int) ≤ (a0.size : Int)) = true := decide_eq_true c5
    clear c5
    obtain rfl := Option.some.inj H
    go_enter Try.func108, Try.ntmps108
    go_wp2
    go_ret
    exact ⟨pwa_, by repeat (first | exact Drawn0.refl _ | apply Drawn0.step)⟩
   ·rw [if_neg c5] at H
    exact absurd H (by simp)
  ·rw [if_neg c4] at H
   exact absurd H (by simp)
 ·rw [if_neg c3] at H
  have c3b0 : decide ((a1.size : Int) ≤ (a0.size : Int)) = false := decide_eq_false c3
  have c3b1 : decide (a1.size ≤ a0.size) = false := decide_eq_false (fun h => c3 (Int.ofNat_le.mpr h))
  clear c3
  obtain rfl := Option.some.inj H
  go_enter Try.func108, Try.ntmps108
  go_wp2
  go_ret
  exact ⟨pwa_, by repeat (first | exact Drawn0.refl _ | apply Drawn0.step)⟩

/-! ### stringslite_CutPrefix: function 106 -/
def stringslite_CutPrefix.f (a0 : ByteArray) (a1 : ByteArray) : Option (ByteArray × Bool) := (stringslite_HasPrefix.f a0 a1).bind fun t368 => (if t368 = true then (if 0 ≤ (a1.size : Int) then (if (a1.size : Int) ≤ (a0.size : Int) then (some (a0.extract ((a1.size : Int) : Int).toNat a0.size, true)) else (none)) else (none)) else (some (a0, false)))
set_option maxHeartbeats 8000000 in
set_option maxRecDepth 100000 in
theorem stringslite_CutPrefix.calls (a0 : ByteArray) (a1 : ByteArray) (r1 : ByteArray) (r2 : Bool) (w : World) (h : stringslite_CutPrefix.f a0 a1 = some (r1, r2)) :
  Calls Try.prog 106 #[.string a0, .string a1] w fun e w' => e = .returned (.tuple #[.string r1, .bool r2]) ∧ Drawn0 w w' := by
 have H : ((stringslite_HasPrefix.f a0 a1).bind fun t368 => (if t368 = true then (if 0 ≤ (a1.size : Int) then (if (a1.size : Int) ≤ (a0.size : Int) then (some (a0.extract ((a1.size : Int) : Int).toNat a0.size, true)) else (none)) else (none)) else (some (a0, false)))) = some (r1, r2) := h
 clear h
 replace H := Option.bind_eq_some_iff.mp H
 obtain ⟨t368, A30, H⟩ := H
 replace H : (if t368 = true then (if 0 ≤ (a1.size : Int) then (if (a1.size : Int) ≤ (a0.size : Int) then (some (a0.extract ((a1.size : Int) : Int).toNat a0.size, true)) else (none)) else (none)) else (some (a0, false))) = some (r1, r2) := H
 have A3 := Aside0.mk A30
 clear A30
 by_cases c4 : t368 = true
 ·subst c4
  have H1 : (if 0 ≤ (a1.size : Int) then (if (a1.size : Int) ≤ (a0.size : Int) then (some (a0.extract ((a1.size : Int) : Int).toNat a0.size, true)) else (none)) else (none)) = some (r1, r2) := by rw [if_pos rfl] at H; exact H
  clear H
  have H := H1
  clear H1
  by_cases c5 : 0 ≤ (a1.size : Int)
  ·rw [if_pos c5] at H
   have c5b0 := eq_true c5
   have c5b1 : decide (0 ≤ (a1.size : Int)) = true := decide_eq_true c5
   clear c5
   by_cases c6 : (a1.size : Int) ≤ (a0.size : Int)
   ·rw [if_pos c6] at H
    have c6b0 := eq_true c6
    have c6b1 : decide ((a1.size : Int) ≤ (a0.size : Int)) = true := decide_eq_true c6
    clear c6
    simp only [Option.some.injEq, Prod.mk.injEq] at H
    obtain ⟨rfl, rfl⟩ := H
    go_enter Try.func106, Try.ntmps106
    go_wp2_with (first | ((with_reducible refine gate_callee (f := 108) rfl ?_); refine goesL_ (some 8) rfl rfl Try.func108 (by kernel_rfl) rfl #[.string a0, .string a1] rfl pwk_ ?_; (with_reducible refine (stringslite_HasPrefix.calls a0 a1 true _ A3.out).mono ?_); rintro e w' ⟨rfl, ⟨nd, rfl⟩⟩; refine ⟨_, rfl, ?_⟩))
    go_ret2
    exact ⟨pwa_, by repeat (first | exact Drawn0.refl _ | apply Drawn0.step)⟩
   ·rw [if_neg c6] at H
    exact absurd H (by simp)
  ·rw [if_neg c5] at H
   exact absurd H (by simp)
 ·replace c4 := Bool.eq_false_iff.mpr c4
  subst c4
  have H1 : (some (a0, false)) = some (r1, r2) := by rw [if_neg (show ¬ (false = true) by decide)] at H; exact H
  clear H
  have H := H1
  clear H1
  simp only [Option.some.injEq, Prod.mk.injEq] at H
  obtain ⟨rfl, rfl⟩ := H
  go_enter Try.func106, Try.ntmps106
  go_wp2_with (first | ((with_reducible refine gate_callee (f := 108) rfl ?_); refine goesL_ (some 8) rfl rfl Try.func108 (by kernel_rfl) rfl #[.string a0, .string a1] rfl pwk_ ?_; (with_reducible refine (stringslite_HasPrefix.calls a0 a1 false _ A3.out).mono ?_); rintro e w' ⟨rfl, ⟨nd, rfl⟩⟩; refine ⟨_, rfl, ?_⟩))
  go_ret2
  exact ⟨pwa_, by repeat (first | exact Drawn0.refl _ | apply Drawn0.step)⟩

/-! ### strings_CutPrefix: function 101 -/
def strings_CutPrefix.f (a0 : ByteArray) (a1 : ByteArray) : Option (ByteArray × Bool) := (stringslite_CutPrefix.f a0 a1).bind fun bt369 => (some (bt369.1, bt369.2))
set_option maxHeartbeats 8000000 in
set_option maxRecDepth 100000 in
theorem strings_CutPrefix.calls (a0 : ByteArray) (a1 : ByteArray) (r1 : ByteArray) (r2 : Bool) (w : World) (h : strings_CutPrefix.f a0 a1 = some (r1, r2)) :
  Calls Try.prog 101 #[.string a0, .string a1] w fun e w' => e = .returned (.tuple #[.string r1, .bool r2]) ∧ Drawn0 w w' := by
 have H : ((stringslite_CutPrefix.f a0 a1).bind fun bt369 => (some (bt369.1, bt369.2))) = some (r1, r2) := h
 clear h
 replace H := Option.bind_eq_some_iff.mp H
 obtain ⟨⟨t369, t370⟩, A30, H⟩ := H
 replace H : (some (t369, t370)) = some (r1, r2) := H
 have A3 := Aside0.mk A30
 clear A30
 simp only [Option.some.injEq, Prod.mk.injEq] at H
 obtain ⟨rfl, rfl⟩ := H
 go_enter Try.func101, Try.ntmps101
 go_wp2_with (first | ((with_reducible refine gate_callee (f := 106) rfl ?_); refine goesL_ (some 8) rfl rfl Try.func106 (by kernel_rfl) rfl #[.string a0, .string a1] rfl pwk_ ?_; (with_reducible refine (stringslite_CutPrefix.calls a0 a1 t369 t370 _ A3.out).mono ?_); rintro e w' ⟨rfl, ⟨nd, rfl⟩⟩; refine ⟨_, rfl, ?_⟩))
 go_ret2
 exact ⟨pwa_, by repeat (first | exact Drawn0.refl _ | apply Drawn0.step)⟩

end Go.Proofs.Ytfhmafmfaoknlaa.PFnReadTerm
