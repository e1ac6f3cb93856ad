-- Made by a program of this session (wip/tools/patchprint.py), not by the kit itself.
import Derived.Test.YtigkmppgbaoafaaPFnFollowsOkx0
import Derived.Test.YtigkmppgbaoafaaPFnFollowsOkx5
namespace Go.Proofs.Ytigkmppgbaoafaa.PFnFollowsOk
open Go.RowKit Go.Proofs.YtigkmppgbaoafaaW.PrintWords Go.Proofs.YtigkmppgbaoafaaW.PrintLast Go.Proofs.YtigkmppgbaoafaaW.PrintMore
attribute [local go_sem] max2_int min2_int max_two min_two max_three min_three max_four min_four   -- for this text's walks alone
set_option linter.unusedVariables false
set_option linter.unusedSimpArgs false

attribute [local go_sem] setCell_isSome
/-! ### spec_l1Heads: function 67 -/
def spec_l1Heads.l0 : Nat → Int → Int → Option (Int)
 | 0, _, _ => none
 | k + 1, x0, x3 => if x0 > 0 then (spec_l1Heads.l0 k (wrap64 (Int.tdiv x0 2)) (wrap64 (x3 + (Int.tmod x0 2)))) else (some x3)
def spec_l1Heads.f (k : Nat) (a0 : Int) : Option (Int) := spec_l1Heads.l0 k a0 0
theorem spec_l1Heads.mono_l : ∀ k, (∀ y0 y1, LeO (spec_l1Heads.l0 k y0 y1) (spec_l1Heads.l0 (k + 1) y0 y1))
 | 0 => fun _ _ r h => by simp [spec_l1Heads.l0] at h
 | k + 1 => by
  have ih0 := spec_l1Heads.mono_l k
  ·intro y0 y1
   unfold spec_l1Heads.l0
   repeat' first
   | (with_reducible exact ih0 _ _)
   | (with_reducible exact LeO.refl _)
   | (with_reducible exact LeO.none _)
   | (with_reducible refine LeO.ite ?_ ?_)
   | (with_reducible refine LeO.bind ?_ (fun _ => ?_))
   | exact ih0 _ _
   | exact LeO.none _
   | refine LeO.ite ?_ ?_
   | refine LeO.bind ?_ (fun _ => ?_)
theorem spec_l1Heads.mono : ∀ a0 k, LeO (spec_l1Heads.f k a0) (spec_l1Heads.f (k + 1) a0) := by
 intro a0 k
 have ih0 := spec_l1Heads.mono_l k
 unfold spec_l1Heads.f
 repeat' first
   | (with_reducible exact ih0 _ _)
   | (with_reducible exact LeO.refl _)
   | (with_reducible exact LeO.none _)
   | (with_reducible refine LeO.ite ?_ ?_)
   | (with_reducible refine LeO.bind ?_ (fun _ => ?_))
   | exact ih0 _ _
   | exact LeO.none _
   | refine LeO.ite ?_ ?_
   | refine LeO.bind ?_ (fun _ => ?_)
set_option maxHeartbeats 8000000 in
set_option maxRecDepth 100000 in
theorem spec_l1Heads.calls (k : Nat) (a0 : Int) (r : Int) (w : World) (h : spec_l1Heads.f k a0 = some r) :
  Calls Try.prog 67 #[.int .i64 a0] w fun e w' => e = .returned (.int .i64 r) ∧ Drawn0 w w' := by
 have H : (spec_l1Heads.l0 k a0 0) = some r := h
 clear h
 have H' := Aside0.mk H
 clear H
 go_enter Try.func67, Try.ntmps67
 go_wp2
 go_loopg [0, 3] k (fun kq v0 v3 w' => ∃ (x0_1 : Int) (x3_1 : Int), v0 = .int .i64 x0_1 ∧ v3 = .int .i64 x3_1 ∧ Aside0 (spec_l1Heads.l0 kq x0_1 x3_1 = some r) ∧ Aside0 (kq ≤ k) ∧ Drawn0 w w')
 case atStart => exact ⟨(a0), (0), pwa_, pwa_, H', ⟨Nat.le_refl _⟩, by repeat (first | exact Drawn0.refl _ | apply Drawn0.step)⟩
 case round =>
  clear H'
  obtain ⟨x0_1, x3_1, rfl, rfl, HA, HK1, ⟨m1, rfl⟩⟩ := hrel
  cases gk with
  | zero => exact absurd HA.out (by simp [spec_l1Heads.l0])
  | succ k1 =>
   have H := HA.out
   clear HA
   simp only [spec_l1Heads.l0] at H
   by_cases c2 : x0_1 > 0
   ·rw [if_pos c2] at H
    have c2b0 : decide (0 < x0_1) = true := decide_eq_true c2
    clear c2
    have H' := Aside0.mk H
    clear H
    go_wp2
    go_roundg k1
    case measure => have := HK1.out; omega
    case rel => exact ⟨(wrap64 (Int.tdiv x0_1 2)), (wrap64 (x3_1 + (Int.tmod x0_1 2))), pwa_, pwa_, H', ⟨by have := HK1.out; omega⟩, by repeat (first | exact Drawn0.refl _ | apply Drawn0.step)⟩
   ·rw [if_neg c2] at H
    have c2b0 : decide (0 < x0_1) = false := decide_eq_false c2
    clear c2
    obtain rfl := Option.some.inj H
    go_wp2
    go_ret
    exact ⟨pwa_, by repeat (first | exact Drawn0.refl _ | apply Drawn0.step)⟩

/-! ### spec_l2Starts: function 68 -/
def spec_l2Starts.l0 : Nat → List (S41) → Int → Int → Option (Int)
 | 0, _, _, _ => none
 | k + 1, x0, x5, x6 => if x5 > 0 then (if 0 ≤ x6 then (if x6 < (x0.length : Int) then (if ((rd_T41 x0 x6).f0) ≤ 1 then (spec_l2Starts.l0 k x0 (wrap64 (x5 - 1)) (wrap64 (x6 - 1))) else (if ((rd_T41 x0 x6).f0) > 2 then (spec_l2Starts.l0 k x0 (wrap64 (x5 + 1)) (wrap64 (x6 - 1))) else (spec_l2Starts.l0 k x0 x5 (wrap64 (x6 - 1))))) else (none)) else (none)) else (some (wrap64 (x6 + 1)))
def spec_l2Starts.f (k : Nat) (l0 : List (S41)) (a1 : Int) : Option (Int) := spec_l2Starts.l0 k l0 1 a1
theorem spec_l2Starts.mono_l : ∀ k, (∀ y0 y1 y2, LeO (spec_l2Starts.l0 k y0 y1 y2) (spec_l2Starts.l0 (k + 1) y0 y1 y2))
 | 0 => fun _ _ _ r h => by simp [spec_l2Starts.l0] at h
 | k + 1 => by
  have ih0 := spec_l2Starts.mono_l k
  ·intro y0 y1 y2
   unfold spec_l2Starts.l0
   repeat' first
   | (with_reducible exact ih0 _ _ _)
   | (with_reducible exact LeO.refl _)
   | (with_reducible exact LeO.none _)
   | (with_reducible refine LeO.ite ?_ ?_)
   | (with_reducible refine LeO.bind ?_ (fun _ => ?_))
   | exact ih0 _ _ _
   | exact LeO.none _
   | refine LeO.ite ?_ ?_
   | refine LeO.bind ?_ (fun _ => ?_)
theorem spec_l2Starts.mono : ∀ a0 a1 k, LeO (spec_l2Starts.f k a0 a1) (spec_l2Starts.f (k + 1) a0 a1) := by
 intro a0 a1 k
 have ih0 := spec_l2Starts.mono_l k
 unfold spec_l2Starts.f
 repeat' first
   | (with_reducible exact ih0 _ _ _)
   | (with_reducible exact LeO.refl _)
   | (with_reducible exact LeO.none _)
   | (with_reducible refine LeO.ite ?_ ?_)
   | (with_reducible refine LeO.bind ?_ (fun _ => ?_))
   | exact ih0 _ _ _
   | exact LeO.none _
   | refine LeO.ite ?_ ?_
   | refine LeO.bind ?_ (fun _ => ?_)
set_option maxHeartbeats 8000000 in
set_option maxRecDepth 100000 in
theorem spec_l2Starts.calls (k : Nat) (A0 : Option Addr) (c0 : Nat) (l0 : List (S41)) (a1 : Int) (r : Int) (w : World) (hr0 : Kd.C k41 w A0 l0.length l0) (hc0 : l0.length ≤ c0) (h : spec_l2Starts.f k l0 a1 = some r) :
  Calls Try.prog 68 #[.slice A0 l0.length c0, .int .i64 a1] w fun e w' => e = .returned (.int .i64 r) ∧ Drawn0 w w' := by
 have HR0 := Aside0.mk hr0
 have HC0 := Aside0.mk hc0
 clear hr0 hc0
 have H : (spec_l2Starts.l0 k l0 1 a1) = some r := h
 clear h
 have H' := Aside0.mk H
 clear H
 go_enter Try.func68, Try.ntmps68
 go_wp2
 go_loopg [5, 6] k (fun kq v5 v6 w' => ∃ (x5_1 : Int) (x6_1 : Int), v5 = .int .i64 x5_1 ∧ v6 = .int .i64 x6_1 ∧ Aside0 (spec_l2Starts.l0 kq l0 x5_1 x6_1 = some r) ∧ Aside0 (kq ≤ k) ∧ Drawn0 w w')
 case atStart => exact ⟨(1), (a1), pwa_, pwa_, H', ⟨Nat.le_refl _⟩, by repeat (first | exact Drawn0.refl _ | apply Drawn0.step)⟩
 case round =>
  clear H'
  try clear p2
  obtain ⟨x5_1, x6_1, rfl, rfl, HA, HK1, ⟨m1, rfl⟩⟩ := hrel
  cases gk with
  | zero => exact absurd HA.out (by simp [spec_l2Starts.l0])
  | succ k1 =>
   have H := HA.out
   clear HA
   simp only [spec_l2Starts.l0] at H
   by_cases c3 : x5_1 > 0
   ·rw [if_pos c3] at H
    have c3b0 : decide (0 < x5_1) = true := decide_eq_true c3
    clear c3
    by_cases c4 : 0 ≤ x6_1
    ·rw [if_pos c4] at H
     have c4b0 : decide (0 ≤ x6_1) = true := decide_eq_true c4
     clear c4
     by_cases c5 : x6_1 < (l0.length : Int)
     ·rw [if_pos c5] at H
      have c5b0 : decide (x6_1 < (l0.length : Int)) = true := decide_eq_true c5
      clear c5
      by_cases c6 : ((rd_T41 l0 x6_1).f0) ≤ 1
      ·rw [if_pos c6] at H
       have c6b0 : decide (((rd_T41 l0 x6_1).f0) ≤ 1) = true := decide_eq_true c6
       clear c6
       have H' := Aside0.mk H
       clear H
       have p153 : 0 ≤ (x6_1 : Int) := of_decide_eq_true pwb_
       have q153 : x6_1 < (l0.length : Int) := of_decide_eq_true pwb_
       obtain ⟨ad153, e153, hx153_0, hx153_1⟩ := at_T41 HR0.out x6_1 p153 q153
       cases e153
       replace p153 := eq_true p153
       replace q153 := eq_true q153
       go_wp2
       go_roundg k1
       case measure => have := HK1.out; omega
       case rel => exact ⟨(wrap64 (x5_1 - 1)), (wrap64 (x6_1 - 1)), pwa_, pwa_, H', ⟨by have := HK1.out; omega⟩, by repeat (first | exact Drawn0.refl _ | apply Drawn0.step)⟩
      ·rw [if_neg c6] at H
       have c6b0 : decide (((rd_T41 l0 x6_1).f0) ≤ 1) = false := decide_eq_false c6
       clear c6
       by_cases c7 : ((rd_T41 l0 x6_1).f0) > 2
       ·rw [if_pos c7] at H
        have c7b0 : decide (2 < ((rd_T41 l0 x6_1).f0)) = true := decide_eq_true c7
        clear c7
        have H' := Aside0.mk H
        clear H
        have p153 : 0 ≤ (x6_1 : Int) := of_decide_eq_true pwb_
        have q153 : x6_1 < (l0.length : Int) := of_decide_eq_true pwb_
        obtain ⟨ad153, e153, hx153_0, hx153_1⟩ := at_T41 HR0.out x6_1 p153 q153
        cases e153
        replace p153 := eq_true p153
        replace q153 := eq_true q153
        have p154 : 0 ≤ (x6_1 : Int) := of_decide_eq_true pwb_
        have q154 : x6_1 < (l0.length : Int) := of_decide_eq_true pwb_
        obtain ⟨ad154, e154, hx154_0, hx154_1⟩ := at_T41 HR0.out x6_1 p154 q154
        obtain rfl : ad153 = ad154 := (by injection e154)
        replace p154 := eq_true p154
        replace q154 := eq_true q154
        go_wp2
        go_roundg k1
        case measure => have := HK1.out; omega
        case rel => exact ⟨(wrap64 (x5_1 + 1)), (wrap64 (x6_1 - 1)), pwa_, pwa_, H', ⟨by have := HK1.out; omega⟩, by repeat (first | exact Drawn0.refl _ | apply Drawn0.step)⟩
       ·rw [if_neg c7] at H
        have c7b0 : decide (2 < ((rd_T41 l0 x6_1).f0)) = false := decide_eq_false c7
        clear c7
        have H' := Aside0.mk H
        clear H
        have p153 : 0 ≤ (x6_1 : Int) := of_decide_eq_true pwb_
        have q153 : x6_1 < (l0.length : Int) := of_decide_eq_true pwb_
        obtain ⟨ad153, e153, hx153_0, hx153_1⟩ := at_T41 HR0.out x6_1 p153 q153
        cases e153
        replace p153 := eq_true p153
        replace q153 := eq_true q153
        have p154 : 0 ≤ (x6_1 : Int) := of_decide_eq_true pwb_
        have q154 : x6_1 < (l0.length : Int) := of_decide_eq_true pwb_
        obtain ⟨ad154, e154, hx154_0, hx154_1⟩ := at_T41 HR0.out x6_1 p154 q154
        obtain rfl : ad153 = ad154 := (by injection e154)
        replace p154 := eq_true p154
        replace q154 := eq_true q154
        go_wp2
        go_roundg k1
        case measure => have := HK1.out; omega
        case rel => exact ⟨(x5_1), (wrap64 (x6_1 - 1)), pwa_, pwa_, H', ⟨by have := HK1.out; omega⟩, by repeat (first | exact Drawn0.refl _ | apply Drawn0.step)⟩
     ·rw [if_neg c5] at H
      exact absurd H (by simp)
    ·rw [if_neg c4] at H
     exact absurd H (by simp)
   ·rw [if_neg c3] at H
    have c3b0 : decide (0 < x5_1) = false := decide_eq_false c3
    clear c3
    obtain rfl := Option.some.inj H
    go_wp2
    go_ret
    exact ⟨pwa_, by repeat (first | exact Drawn0.refl _ | apply Drawn0.step)⟩

/-! ### spec_l3Holds: function 59 -/
def spec_l3Holds.f : Nat → List (S41) → Int → Option (Bool)
 | 0, _, _ => none
 | k + 1, l0, a1 => if 0 ≤ (wrap64 ((l0.length : Int) - 1)) then (if (wrap64 ((l0.length : Int) - 1)) < (l0.length : Int) then (if ((rd_T41 l0 (wrap64 ((l0.length : Int) - 1))).f0) = 0 then (if 0 ≤ ((rd_T41 l0 (wrap64 ((l0.length : Int) - 1))).f1) then (some ((Int.tmod (shr .i64 a1 ((rd_T41 l0 (wrap64 ((l0.length : Int) - 1))).f1)) 2) == 1)) else (none)) else (if ((rd_T41 l0 (wrap64 ((l0.length : Int) - 1))).f0) = 1 then ((spec_l1Heads.f k a1).bind fun t157 => (some (decide (t157 ≥ ((rd_T41 l0 (wrap64 ((l0.length : Int) - 1))).f1))))) else (if ((rd_T41 l0 (wrap64 ((l0.length : Int) - 1))).f0) = 2 then (if (wrap64 ((l0.length : Int) - 1)) ≤ (l0.length : Int) then ((spec_l3Holds.f k (l0.take ((wrap64 ((l0.length : Int) - 1)) : Int).toNat) a1).bind fun t163 => (some (!t163))) else (none)) else ((spec_l2Starts.f k l0 (wrap64 ((wrap64 ((l0.length : Int) - 1)) - 1))).bind fun t164 => (if 0 ≤ t164 then (if t164 ≤ (l0.length : Int) then ((spec_l3Holds.f k (l0.take (t164 : Int).toNat) a1).bind fun t169 => (if t164 ≤ (wrap64 ((l0.length : Int) - 1)) then (if (wrap64 ((l0.length : Int) - 1)) ≤ (l0.length : Int) then ((spec_l3Holds.f k ((l0.take ((wrap64 ((l0.length : Int) - 1)) : Int).toNat).drop (t164 : Int).toNat) a1).bind fun t174 => (if ((rd_T41 l0 (wrap64 ((l0.length : Int) - 1))).f0) = 3 then (if t169 = true then (some t174) else (some false)) else (if ((rd_T41 l0 (wrap64 ((l0.length : Int) - 1))).f0) = 4 then (if t169 = true then (some true) else (some t174)) else (some (t169 == t174))))) else (none)) else (none))) else (none)) else (none)))))) else (none)) else (none)
theorem spec_l3Holds.mono_l : ∀ k, (∀ y0 y1, LeO (spec_l3Holds.f k y0 y1) (spec_l3Holds.f (k + 1) y0 y1))
 | 0 => fun _ _ r h => by simp [spec_l3Holds.f] at h
 | k + 1 => by
  have ih0 := spec_l3Holds.mono_l k
  ·intro y0 y1
   unfold spec_l3Holds.f
   repeat' first
   | (with_reducible exact ih0 _ _)
   | (with_reducible exact spec_l1Heads.mono _ _)
   | (with_reducible exact spec_l2Starts.mono _ _ _)
   | (with_reducible exact LeO.refl _)
   | (with_reducible exact LeO.none _)
   | (with_reducible refine LeO.ite ?_ ?_)
   | (with_reducible refine LeO.bind ?_ (fun _ => ?_))
   | exact ih0 _ _
   | exact spec_l1Heads.mono _ _
   | exact spec_l2Starts.mono _ _ _
   | exact LeO.none _
   | refine LeO.ite ?_ ?_
   | refine LeO.bind ?_ (fun _ => ?_)
theorem spec_l3Holds.mono : ∀ a0 a1 k, LeO (spec_l3Holds.f k a0 a1) (spec_l3Holds.f (k + 1) a0 a1) := by
 intro a0 a1 k
 have ih0 := spec_l3Holds.mono_l k
 exact ih0 a0 a1
set_option maxHeartbeats 8000000 in
set_option maxRecDepth 100000 in
theorem spec_l3Holds.calls (k : Nat) : ∀ (A0 : Option Addr) (c0 : Nat) (l0 : List (S41)) (a1 : Int) (r : Bool) (w : World) (hr0 : Kd.C k41 w A0 l0.length l0) (hc0 : l0.length ≤ c0) (h : spec_l3Holds.f k l0 a1 = some r),
  Calls Try.prog 59 #[.slice A0 l0.length c0, .int .i64 a1] w fun e w' => e = .returned (.bool r) ∧ Drawn0 w w' := by
 induction k using Nat.strongRecOn with
 | _ k ih =>
 intro A0 c0 l0 a1 r w hr0 hc0 h
 cases k with
 | zero => exact absurd h (by simp [spec_l3Holds.f])
 | succ k =>
 simp only [spec_l3Holds.f] at h
 have HR0 := Aside0.mk hr0
 have HC0 := Aside0.mk hc0
 clear hr0 hc0
 have H : (if 0 ≤ (wrap64 ((l0.length : Int) - 1)) then (if (wrap64 ((l0.length : Int) - 1)) < (l0.length : Int) then (if ((rd_T41 l0 (wrap64 ((l0.length : Int) - 1))).f0) = 0 then (if 0 ≤ ((rd_T41 l0 (wrap64 ((l0.length : Int) - 1))).f1) then (some ((Int.tmod (shr .i64 a1 ((rd_T41 l0 (wrap64 ((l0.length : Int) - 1))).f1)) 2) == 1)) else (none)) else (if ((rd_T41 l0 (wrap64 ((l0.length : Int) - 1))).f0) = 1 then ((spec_l1Heads.f k a1).bind fun t157 => (some (decide (t157 ≥ ((rd_T41 l0 (wrap64 ((l0.length : Int) - 1))).f1))))) else (if ((rd_T41 l0 (wrap64 ((l0.length : Int) - 1))).f0) = 2 then (if (wrap64 ((l0.length : Int) - 1)) ≤ (l0.length : Int) then ((spec_l3Holds.f k (l0.take ((wrap64 ((l0.length : Int) - 1)) : Int).toNat) a1).bind fun t163 => (some (!t163))) else (none)) else ((spec_l2Starts.f k l0 (wrap64 ((wrap64 ((l0.length : Int) - 1)) - 1))).bind fun t164 => (if 0 ≤ t164 then (if t164 ≤ (l0.length : Int) then ((spec_l3Holds.f k (l0.take (t164 : Int).toNat) a1).bind fun t169 => (if t164 ≤ (wrap64 ((l0.length : Int) - 1)) then (if (wrap64 ((l0.length : Int) - 1)) ≤ (l0.length : Int) then ((spec_l3Holds.f k ((l0.take ((wrap64 ((l0.length : Int) - 1)) : Int).toNat).drop (t164 : Int).toNat) a1).bind fun t174 => (if ((rd_T41 l0 (wrap64 ((l0.length : Int) - 1))).f0) = 3 then (if t169 = true then (some t174) else (some false)) else (if ((rd_T41 l0 (wrap64 ((l0.length : Int) - 1))).f0) = 4 then (if t169 = true then (some true) else (some t174)) else (some (t169 == t174))))) else (none)) else (none))) else (none)) else (none)))))) else (none)) else (none)) = some r := h
 clear h
 obtain ⟨ji3, hji3⟩ : ∃ j_ : Int, (wrap64 ((l0.length : Int) - 1)) = j_ := ⟨_, rfl⟩
 replace H : (if 0 ≤ (ji3) then (if (ji3) < (l0.length : Int) then (if ((rd_T41 l0 (ji3)).f0) = 0 then (if 0 ≤ ((rd_T41 l0 (ji3)).f1) then (some ((Int.tmod (shr .i64 a1 ((rd_T41 l0 (ji3)).f1)) 2) == 1)) else (none)) else (if ((rd_T41 l0 (ji3)).f0) = 1 then ((spec_l1Heads.f k a1).bind fun t157 => (some (decide (t157 ≥ ((rd_T41 l0 (ji3)).f1))))) else (if ((rd_T41 l0 (ji3)).f0) = 2 then (if (ji3) ≤ (l0.length : Int) then ((spec_l3Holds.f k (l0.take ((ji3) : Int).toNat) a1).bind fun t163 => (some (!t163))) else (none)) else ((spec_l2Starts.f k l0 (wrap64 ((ji3) - 1))).bind fun t164 => (if 0 ≤ t164 then (if t164 ≤ (l0.length : Int) then ((spec_l3Holds.f k (l0.take (t164 : Int).toNat) a1).bind fun t169 => (if t164 ≤ (ji3) then (if (ji3) ≤ (l0.length : Int) then ((spec_l3Holds.f k ((l0.take ((ji3) : Int).toNat).drop (t164 : Int).toNat) a1).bind fun t174 => (if ((rd_T41 l0 (ji3)).f0) = 3 then (if t169 = true then (some t174) else (some false)) else (if ((rd_T41 l0 (ji3)).f0) = 4 then (if t169 = true then (some true) else (some t174)) else (some (t169 == t174))))) else (none)) else (none))) else (none)) else (none)))))) else (none)) else (none)) = some r := by first | (rw [hji3] at H; exact H) | (simp only [hji3] at H ⊢; exact H)
 have hji3w : (IntKind.i64.wrap ((l0.length : Int) - 1)) = ji3 := (i64_w _).trans hji3
 by_cases c4 : 0 ≤ (ji3)
 ·rw [if_pos c4] at H
  have c4b0 : decide (0 ≤ (ji3)) = true := decide_eq_true c4
  clear c4
  by_cases c5 : (ji3) < (l0.length : Int)
  ·rw [if_pos c5] at H
   have c5b0 : decide ((ji3) < (l0.length : Int)) = true := decide_eq_true c5
   clear c5
   by_cases c6 : ((rd_T41 l0 (ji3)).f0) = 0
   ·rw [if_pos c6] at H
    have c6b0 : (((rd_T41 l0 (ji3)).f0) == 0) = true := beq_iff_eq.mpr c6
    have c6b1 : (((rd_T41 l0 (ji3)).f0) != 0) = false := bne_eq_false_iff_eq.mpr c6
    clear c6
    by_cases c7 : 0 ≤ ((rd_T41 l0 (ji3)).f1)
    ·rw [if_pos c7] at H
     have c7b0 := eq_true c7
     have c7b1 : decide (0 ≤ ((rd_T41 l0 (ji3)).f1)) = true := decide_eq_true c7
     clear c7
     obtain ⟨ji8, hji8⟩ : ∃ j_ : Int, (shr .i64 a1 ((rd_T41 l0 (ji3)).f1)) = j_ := ⟨_, rfl⟩
     replace H : (some ((Int.tmod (ji8) 2) == 1)) = some r := by first | (rw [hji8] at H; exact H) | (simp only [hji8] at H ⊢; exact H)
     have hji8_ : (a1 / 2 ^ min ((rd_T41 l0 (ji3)).f1).toNat 64) = ji8 := hji8
     have hji8z : ((rd_T41 l0 (ji3)).f1) ≤ 64 → (a1 / 2 ^ ((rd_T41 l0 (ji3)).f1).toNat) = ji8 := shr_small hji8
     obtain rfl := Option.some.inj H
     have p155 : 0 ≤ ((ji3) : Int) := of_decide_eq_true pwb_
     have q155 : (ji3) < (l0.length : Int) := of_decide_eq_true pwb_
     obtain ⟨ad155, e155, hx155_0, hx155_1⟩ := at_T41 HR0.out (ji3) p155 q155
     cases e155
     replace p155 := eq_true p155
     replace q155 := eq_true q155
     have p156 : 0 ≤ ((ji3) : Int) := of_decide_eq_true pwb_
     have q156 : (ji3) < (l0.length : Int) := of_decide_eq_true pwb_
     obtain ⟨ad156, e156, hx156_0, hx156_1⟩ := at_T41 HR0.out (ji3) p156 q156
     obtain rfl : ad155 = ad156 := (by injection e156)
     replace p156 := eq_true p156
     replace q156 := eq_true q156
     go_enter Try.func59, Try.ntmps59
     go_wp2
     repeat (go_quiet (fail); try go_wp2)
     go_ret
     exact ⟨by first | rfl | (simp; done) | (simp only [← hji3, ← hji8] <;> (first | rfl | simp)) | (simp [*]; done), by repeat (first | exact Drawn0.refl _ | apply Drawn0.step)⟩
    ·rw [if_neg c7] at H
     exact absurd H (by simp)
   ·rw [if_neg c6] at H
    have c6b0 : (((rd_T41 l0 (ji3)).f0) == 0) = false := beq_eq_false_iff_ne.mpr c6
    have c6b1 : (((rd_T41 l0 (ji3)).f0) != 0) = true := bne_iff_ne.mpr c6
    by_cases c9 : ((rd_T41 l0 (ji3)).f0) = 1
    ·rw [if_pos c9] at H
     have c9b0 : (((rd_T41 l0 (ji3)).f0) == 1) = true := beq_iff_eq.mpr c9
     have c9b1 : (((rd_T41 l0 (ji3)).f0) != 1) = false := bne_eq_false_iff_eq.mpr c9
     clear c9
     replace H := Option.bind_eq_some_iff.mp H
     obtain ⟨t157, A100, H⟩ := H
     replace H : (some (decide (t157 ≥ ((rd_T41 l0 (ji3)).f1)))) = some r := H
     have A10 := Aside0.mk A100
     clear A100
     obtain rfl := Option.some.inj H
     have p155 : 0 ≤ ((ji3) : Int) := of_decide_eq_true pwb_
     have q155 : (ji3) < (l0.length : Int) := of_decide_eq_true pwb_
     obtain ⟨ad155, e155, hx155_0, hx155_1⟩ := at_T41 HR0.out (ji3) p155 q155
     cases e155
     replace p155 := eq_true p155
     replace q155 := eq_true q155
     go_enter Try.func59, Try.ntmps59
     go_wp2_with (first | (go_at_call 67; (with_reducible refine (spec_l1Heads.calls k a1 t157 _ A10.out).mono ?_); rintro e w' ⟨rfl, ⟨nd, rfl⟩⟩; (try first | exact ⟨rfl, _, World.drewN_drewN _ _ _⟩ | exact ⟨rfl, _, Eq.trans (World.drewN_drewN _ _ _) (congrArg (World.drewN _) (Nat.add_assoc _ _ _))⟩); have p158 : 0 ≤ ((ji3) : Int) := of_decide_eq_true pwb_; have q158 : (ji3) < (l0.length : Int) := of_decide_eq_true pwb_; obtain ⟨ad158, e158, hx158_0, hx158_1⟩ := at_T41 HR0.out (ji3) p158 q158; obtain rfl : ad155 = ad158 := (by injection e158); replace p158 := eq_true p158; replace q158 := eq_true q158))
     repeat (go_quiet (first | (go_at_call 67; (with_reducible refine (spec_l1Heads.calls k a1 t157 _ A10.out).mono ?_); rintro e w' ⟨rfl, ⟨nd, rfl⟩⟩; (try first | exact ⟨rfl, _, World.drewN_drewN _ _ _⟩ | exact ⟨rfl, _, Eq.trans (World.drewN_drewN _ _ _) (congrArg (World.drewN _) (Nat.add_assoc _ _ _))⟩); have p158 : 0 ≤ ((ji3) : Int) := of_decide_eq_true pwb_; have q158 : (ji3) < (l0.length : Int) := of_decide_eq_true pwb_; obtain ⟨ad158, e158, hx158_0, hx158_1⟩ := at_T41 HR0.out (ji3) p158 q158; obtain rfl : ad155 = ad158 := (by injection e158); replace p158 := eq_true p158; replace q158 := eq_true q158)); try go_wp2_with (first | (go_at_call 67; (with_reducible refine (spec_l1Heads.calls k a1 t157 _ A10.out).mono ?_); rintro e w' ⟨rfl, ⟨nd, rfl⟩⟩; (try first | exact ⟨rfl, _, World.drewN_drewN _ _ _⟩ | exact ⟨rfl, _, Eq.trans (World.drewN_drewN _ _ _) (congrArg (World.drewN _) (Nat.add_assoc _ _ _))⟩); have p158 : 0 ≤ ((ji3) : Int) := of_decide_eq_true pwb_; have q158 : (ji3) < (l0.length : Int) := of_decide_eq_true pwb_; obtain ⟨ad158, e158, hx158_0, hx158_1⟩ := at_T41 HR0.out (ji3) p158 q158; obtain rfl : ad155 = ad158 := (by injection e158); replace p158 := eq_true p158; replace q158 := eq_true q158)))
     go_ret
     exact ⟨by first | rfl | (simp; done) | (simp only [← hji3] <;> (first | rfl | simp)) | (simp [*]; done), by repeat (first | exact Drawn0.refl _ | apply Drawn0.step)⟩
    ·rw [if_neg c9] at H
     have c9b0 : (((rd_T41 l0 (ji3)).f0) == 1) = false := beq_eq_false_iff_ne.mpr c9
     have c9b1 : (((rd_T41 l0 (ji3)).f0) != 1) = true := bne_iff_ne.mpr c9
     by_cases c11 : ((rd_T41 l0 (ji3)).f0) = 2
     ·rw [if_pos c11] at H
      have c11b0 : (((rd_T41 l0 (ji3)).f0) == 2) = true := beq_iff_eq.mpr c11
      have c11b1 : (((rd_T41 l0 (ji3)).f0) != 2) = false := bne_eq_false_iff_eq.mpr c11
      clear c11
      have c12b0 := eq_true (of_decide_eq_true pwb_ : 0 ≤ (ji3))
      by_cases c13 : (ji3) ≤ (l0.length : Int)
      ·rw [if_pos c13] at H
       have c13b0 := eq_true c13
       have c13b1 : decide ((ji3) ≤ (l0.length : Int)) = true := decide_eq_true c13
       clear c13
       obtain ⟨y159, hy159⟩ : ∃ y_ : List (S41), y_ = (l0.take ((ji3) : Int).toNat) := ⟨_, rfl⟩
       replace H : ((spec_l3Holds.f k y159 a1).bind fun t163 => (some (!t163))) = some r := by first | (rw [hy159]; with_reducible exact H) | (have H2_ := (Option.bind_some _ _).symm.trans H; rw [hy159]; with_reducible exact H2_) | (have H2_ := (Option.bind_some _ _).symm.trans H; with_reducible exact H2_) | with_reducible exact H | (rw [hy159]; exact H) | exact H
       have Ny159 := Aside0.mk hy159
       clear hy159
       replace H := Option.bind_eq_some_iff.mp H
       obtain ⟨t163, A140, H⟩ := H
       replace H : (some (!t163)) = some r := H
       have A14 := Aside0.mk A140
       clear A140
       obtain rfl := Option.some.inj H
       have p155 : 0 ≤ ((ji3) : Int) := of_decide_eq_true pwb_
       have q155 : (ji3) < (l0.length : Int) := of_decide_eq_true pwb_
       obtain ⟨ad155, e155, hx155_0, hx155_1⟩ := at_T41 HR0.out (ji3) p155 q155
       cases e155
       replace p155 := eq_true p155
       replace q155 := eq_true q155
       have q15 : ((ji3) : Int) ≤ ((l0.length : Int) : Int) := of_decide_eq_true pwb_
       obtain ⟨i015, hi015, _, hsz15, _⟩ := info_parts info41
       have hroom15 : l0.length ≤ c0 := HC0.out
       have hC15 : Kd.C k41 _ (some ad155) l0.length l0 := HR0.out
       have hcut15 := cut_to (P := Try.prog) 23 41 .i64 Try.underlying23 hi015 (some ad155) l0.length c0 (ji3) (of_decide_eq_true pwb_) q15 hroom15
       have hr15 := Kd.C_take (m := ((ji3) : Int).toNat) hC15 (by omega)
       have hy15 : y159.length = ((ji3) : Int).toNat := (by rw [Ny159.out, List.length_take]; omega)
       rw [← Ny159.out] at hr15
       rw [← hy15] at hcut15
       have HR162 := Aside0.mk hr15
       have HC162 := Aside0.mk (show y159.length ≤ c0 from by omega)
       clear hr15 hC15 hroom15 hi015 hsz15
       have KY15 := Aside0.mk hy15
       clear hy15
       replace q15 := eq_true q15
       go_enter Try.func59, Try.ntmps59
       go_wp2_with (first | (go_at_call 59; (with_reducible refine (ih k (by omega) _ _ y159 a1 t163 _ ?side1 ?side2 A14.out).mono ?_); (case side1 => repeat (first | exact HR162.out | (with_reducible refine Kd.C_alloc ?_ _) | (with_reducible refine Kd.C_drewN ?_ _) | (with_reducible refine Kd.C_drew ?_))); (case side2 => exact HC162.out); rintro e w' ⟨rfl, ⟨nd, rfl⟩⟩; (try first | exact ⟨rfl, _, World.drewN_drewN _ _ _⟩ | exact ⟨rfl, _, Eq.trans (World.drewN_drewN _ _ _) (congrArg (World.drewN _) (Nat.add_assoc _ _ _))⟩)))
       repeat (go_quiet (first | (go_at_call 59; (with_reducible refine (ih k (by omega) _ _ y159 a1 t163 _ ?side1 ?side2 A14.out).mono ?_); (case side1 => repeat (first | exact HR162.out | (with_reducible refine Kd.C_alloc ?_ _) | (with_reducible refine Kd.C_drewN ?_ _) | (with_reducible refine Kd.C_drew ?_))); (case side2 => exact HC162.out); rintro e w' ⟨rfl, ⟨nd, rfl⟩⟩; (try first | exact ⟨rfl, _, World.drewN_drewN _ _ _⟩ | exact ⟨rfl, _, Eq.trans (World.drewN_drewN _ _ _) (congrArg (World.drewN _) (Nat.add_assoc _ _ _))⟩))); try go_wp2_with (first | (go_at_call 59; (with_reducible refine (ih k (by omega) _ _ y159 a1 t163 _ ?side1 ?side2 A14.out).mono ?_); (case side1 => repeat (first | exact HR162.out | (with_reducible refine Kd.C_alloc ?_ _) | (with_reducible refine Kd.C_drewN ?_ _) | (with_reducible refine Kd.C_drew ?_))); (case side2 => exact HC162.out); rintro e w' ⟨rfl, ⟨nd, rfl⟩⟩; (try first | exact ⟨rfl, _, World.drewN_drewN _ _ _⟩ | exact ⟨rfl, _, Eq.trans (World.drewN_drewN _ _ _) (congrArg (World.drewN _) (Nat.add_assoc _ _ _))⟩))))
       go_ret
       exact ⟨by first | rfl | (simp; done) | (simp only [← hji3] <;> (first | rfl | simp)) | (simp [*]; done), by repeat (first | exact Drawn0.refl _ | apply Drawn0.step)⟩
      ·rw [if_neg c13] at H
       exact absurd H (by simp)
     ·rw [if_neg c11] at H
      have c11b0 : (((rd_T41 l0 (ji3)).f0) == 2) = false := beq_eq_false_iff_ne.mpr c11
      have c11b1 : (((rd_T41 l0 (ji3)).f0) != 2) = true := bne_iff_ne.mpr c11
      replace H := Option.bind_eq_some_iff.mp H
      obtain ⟨t164, A160, H⟩ := H
      replace H : (if 0 ≤ t164 then (if t164 ≤ (l0.length : Int) then ((spec_l3Holds.f k (l0.take (t164 : Int).toNat) a1).bind fun t169 => (if t164 ≤ (ji3) then (if (ji3) ≤ (l0.length : Int) then ((spec_l3Holds.f k ((l0.take ((ji3) : Int).toNat).drop (t164 : Int).toNat) a1).bind fun t174 => (if ((rd_T41 l0 (ji3)).f0) = 3 then (if t169 = true then (some t174) else (some false)) else (if ((rd_T41 l0 (ji3)).f0) = 4 then (if t169 = true then (some true) else (some t174)) else (some (t169 == t174))))) else (none)) else (none))) else (none)) else (none)) = some r := H
      have A16 := Aside0.mk A160
      clear A160
      by_cases c17 : 0 ≤ t164
      ·rw [if_pos c17] at H
       have c17b0 := eq_true c17
       have c17b1 : decide (0 ≤ t164) = true := decide_eq_true c17
       clear c17
       by_cases c18 : t164 ≤ (l0.length : Int)
       ·rw [if_pos c18] at H
        have c18b0 := eq_true c18
        have c18b1 : decide (t164 ≤ (l0.length : Int)) = true := decide_eq_true c18
        clear c18
        obtain ⟨y165, hy165⟩ : ∃ y_ : List (S41), y_ = (l0.take (t164 : Int).toNat) := ⟨_, rfl⟩
        replace H : ((spec_l3Holds.f k y165 a1).bind fun t169 => (if t164 ≤ (ji3) then (if (ji3) ≤ (l0.length : Int) then ((spec_l3Holds.f k ((l0.take ((ji3) : Int).toNat).drop (t164 : Int).toNat) a1).bind fun t174 => (if ((rd_T41 l0 (ji3)).f0) = 3 then (if t169 = true then (some t174) else (some false)) else (if ((rd_T41 l0 (ji3)).f0) = 4 then (if t169 = true then (some true) else (some t174)) else (some (t169 == t174))))) else (none)) else (none))) = some r := by first | (rw [hy165]; with_reducible exact H) | (have H2_ := (Option.bind_some _ _).symm.trans H; rw [hy165]; with_reducible exact H2_) | (have H2_ := (Option.bind_some _ _).symm.trans H; with_reducible exact H2_) | with_reducible exact H | (rw [hy165]; exact H) | exact H
        have Ny165 := Aside0.mk hy165
        clear hy165
        replace H := Option.bind_eq_some_iff.mp H
        obtain ⟨t169, A190, H⟩ := H
        replace H : (if t164 ≤ (ji3) then (if (ji3) ≤ (l0.length : Int) then ((spec_l3Holds.f k ((l0.take ((ji3) : Int).toNat).drop (t164 : Int).toNat) a1).bind fun t174 => (if ((rd_T41 l0 (ji3)).f0) = 3 then (if t169 = true then (some t174) else (some false)) else (if ((rd_T41 l0 (ji3)).f0) = 4 then (if t169 = true then (some true) else (some t174)) else (some (t169 == t174))))) else (none)) else (none)) = some r := H
        have A19 := Aside0.mk A190
        clear A190
        have c20b0 := eq_true (of_decide_eq_true pwb_ : 0 ≤ t164)
        by_cases c21 : t164 ≤ (ji3)
        ·rw [if_pos c21] at H
         have c21b0 := eq_true c21
         have c21b1 : decide (t164 ≤ (ji3)) = true := decide_eq_true c21
         clear c21
         by_cases c22 : (ji3) ≤ (l0.length : Int)
         ·rw [if_pos c22] at H
          have c22b0 := eq_true c22
          have c22b1 : decide ((ji3) ≤ (l0.length : Int)) = true := decide_eq_true c22
          clear c22
          obtain ⟨y170, hy170⟩ : ∃ y_ : List (S41), y_ = ((l0.take ((ji3) : Int).toNat).drop (t164 : Int).toNat) := ⟨_, rfl⟩
          replace H : ((spec_l3Holds.f k y170 a1).bind fun t174 => (if ((rd_T41 l0 (ji3)).f0) = 3 then (if t169 = true then (some t174) else (some false)) else (if ((rd_T41 l0 (ji3)).f0) = 4 then (if t169 = true then (some true) else (some t174)) else (some (t169 == t174))))) = some r := by first | (rw [hy170]; with_reducible exact H) | (have H2_ := (Option.bind_some _ _).symm.trans H; rw [hy170]; with_reducible exact H2_) | (have H2_ := (Option.bind_some _ _).symm.trans H; with_reducible exact H2_) | with_reducible exact H | (rw [hy170]; exact H) | exact H
          have Ny170 := Aside0.mk hy170
          clear hy170
          replace H := Option.bind_eq_some_iff.mp H
          obtain ⟨t174, A230, H⟩ := H
          replace H : (if ((rd_T41 l0 (ji3)).f0) = 3 then (if t169 = true then (some t174) else (some false)) else (if ((rd_T41 l0 (ji3)).f0) = 4 then (if t169 = true then (some true) else (some t174)) else (some (t169 == t174)))) = some r := H
          have A23 := Aside0.mk A230
          clear A230
          by_cases c24 : ((rd_T41 l0 (ji3)).f0) = 3
          ·rw [if_pos c24] at H
           have c24b0 : (((rd_T41 l0 (ji3)).f0) == 3) = true := beq_iff_eq.mpr c24
           have c24b1 : (((rd_T41 l0 (ji3)).f0) != 3) = false := bne_eq_false_iff_eq.mpr c24
           clear c24
           by_cases c25 : t169 = true
           ·subst c25
            have H1 : (some t174) = some r := by rw [if_pos rfl] at H; exact H
            clear H
            have H := H1
            clear H1
            obtain rfl := Option.some.inj H
            have p155 : 0 ≤ ((ji3) : Int) := of_decide_eq_true pwb_
            have q155 : (ji3) < (l0.length : Int) := of_decide_eq_true pwb_
            obtain ⟨ad155, e155, hx155_0, hx155_1⟩ := at_T41 HR0.out (ji3) p155 q155
            cases e155
            replace p155 := eq_true p155
            replace q155 := eq_true q155
            go_enter Try.func59, Try.ntmps59
            go_wp2_with (first | (go_at_call 68; (with_reducible refine (spec_l2Starts.calls k _ _ l0 (wrap64 ((ji3) - 1)) t164 _ ?side1 ?side2 A16.out).mono ?_); (case side1 => repeat (first | exact HR0.out | (with_reducible refine Kd.C_alloc ?_ _) | (with_reducible refine Kd.C_drewN ?_ _) | (with_reducible refine Kd.C_drew ?_))); (case side2 => exact HC0.out); rintro e w' ⟨rfl, ⟨nd, rfl⟩⟩; (try first | exact ⟨rfl, _, World.drewN_drewN _ _ _⟩ | exact ⟨rfl, _, Eq.trans (World.drewN_drewN _ _ _) (congrArg (World.drewN _) (Nat.add_assoc _ _ _))⟩); have q26 : (t164 : Int) ≤ ((l0.length : Int) : Int) := of_decide_eq_true pwb_; obtain ⟨i026, hi026, _, hsz26, _⟩ := info_parts info41; have hroom26 : l0.length ≤ c0 := HC0.out; have hC26 : Kd.C k41 _ (some ad155) l0.length l0 := HR0.out; have hcut26 := cut_to (P := Try.prog) 23 41 .i64 Try.underlying23 hi026 (some ad155) l0.length c0 t164 (of_decide_eq_true pwb_) q26 hroom26; have hr26 := Kd.C_take (m := (t164 : Int).toNat) hC26 (by omega); have hy26 : y165.length = (t164 : Int).toNat := (by rw [Ny165.out, List.length_take]; omega); rw [← Ny165.out] at hr26; rw [← hy26] at hcut26; have HR168 := Aside0.mk hr26; have HC168 := Aside0.mk (show y165.length ≤ c0 from by omega); clear hr26 hC26 hroom26 hi026 hsz26; have KY26 := Aside0.mk hy26; clear hy26; replace q26 := eq_true q26) | (go_at_call 59; (with_reducible refine (ih k (by omega) _ _ y165 a1 true _ ?side1 ?side2 A19.out).mono ?_); (case side1 => repeat (first | exact HR168.out | (with_reducible refine Kd.C_alloc ?_ _) | (with_reducible refine Kd.C_drewN ?_ _) | (with_reducible refine Kd.C_drew ?_))); (case side2 => exact HC168.out); rintro e w' ⟨rfl, ⟨nd, rfl⟩⟩; (try first | exact ⟨rfl, _, World.drewN_drewN _ _ _⟩ | exact ⟨rfl, _, Eq.trans (World.drewN_drewN _ _ _) (congrArg (World.drewN _) (Nat.add_assoc _ _ _))⟩); have q27 : ((ji3) : Int) ≤ ((l0.length : Int) : Int) := of_decide_eq_true pwb_; obtain ⟨i027, hi027, _, hsz27, _⟩ := info_parts info41; have hroom27 : l0.length ≤ c0 := HC0.out; have hC27 : Kd.C k41 _ (some ad155) l0.length l0 := HR0.out; have ql27 : (t164 : Int) ≤ ((ji3) : Int) := of_decide_eq_true pwb_; have q027 : (0 : Int) ≤ (t164 : Int) := of_decide_eq_true pwb_; have hcut27 := cut_mid (P := Try.prog) 23 41 .i64 .i64 Try.underlying23 hi027 2 hsz27 (some ad155) l0.length c0 t164 (ji3) q027 ql27 q27 hroom27; have hr27 := Kd.C_mid (lo := (t164 : Int).toNat) (hi := ((ji3) : Int).toNat) (c := c0) hC27 (by omega) (by omega) hroom27; obtain ⟨A27, hA27⟩ : ∃ A1, A1 = (if c0 = (t164 : Int).toNat then (some ad155) else ((some ad155) : Option Addr).map (·.add ((t164 : Int).toNat * 2))) := ⟨_, rfl⟩; obtain ⟨c27, hc27⟩ : ∃ c1, c1 = c0 - (t164 : Int).toNat := ⟨_, rfl⟩; have hy27 : y170.length = ((ji3) : Int).toNat - (t164 : Int).toNat := (by rw [Ny170.out, List.length_drop, List.length_take] <;> omega); rw [show ((l0).take ((ji3) : Int).toNat).drop (t164 : Int).toNat = y170 from Ny170.out.symm] at hr27; replace hr27 : Kd.C k41 _ A27 y170.length y170 := (by rw [hA27]; exact hr27); rw [← hy27, ← hA27, ← hc27] at hcut27; have HR173 := Aside0.mk hr27; have HC173 := Aside0.mk (show y170.length ≤ c27 from by rw [hy27, hc27]; exact Nat.sub_le_sub_right (Nat.le_trans (by omega) hroom27) _); clear hr27 hC27 hroom27 hi027 hsz27 hc27; have KY27 := Aside0.mk hy27; have KA27 := Aside0.mk hA27; clear hy27 hA27; replace q27 := eq_true q27) | (go_at_call 59; (with_reducible refine (ih k (by omega) _ _ y170 a1 t174 _ ?side1 ?side2 A23.out).mono ?_); (case side1 => repeat (first | exact HR173.out | (with_reducible refine Kd.C_alloc ?_ _) | (with_reducible refine Kd.C_drewN ?_ _) | (with_reducible refine Kd.C_drew ?_))); (case side2 => exact HC173.out); rintro e w' ⟨rfl, ⟨nd, rfl⟩⟩; (try first | exact ⟨rfl, _, World.drewN_drewN _ _ _⟩ | exact ⟨rfl, _, Eq.trans (World.drewN_drewN _ _ _) (congrArg (World.drewN _) (Nat.add_assoc _ _ _))⟩); have p175 : 0 ≤ ((ji3) : Int) := of_decide_eq_true pwb_; have q175 : (ji3) < (l0.length : Int) := of_decide_eq_true pwb_; obtain ⟨ad175, e175, hx175_0, hx175_1⟩ := at_T41 HR0.out (ji3) p175 q175; obtain rfl : ad155 = ad175 := (by injection e175); replace p175 := eq_true p175; replace q175 := eq_true q175))
            repeat (go_quiet (first | (go_at_call 68; (with_reducible refine (spec_l2Starts.calls k _ _ l0 (wrap64 ((ji3) - 1)) t164 _ ?side1 ?side2 A16.out).mono ?_); (case side1 => repeat (first | exact HR0.out | (with_reducible refine Kd.C_alloc ?_ _) | (with_reducible refine Kd.C_drewN ?_ _) | (with_reducible refine Kd.C_drew ?_))); (case side2 => exact HC0.out); rintro e w' ⟨rfl, ⟨nd, rfl⟩⟩; (try first | exact ⟨rfl, _, World.drewN_drewN _ _ _⟩ | exact ⟨rfl, _, Eq.trans (World.drewN_drewN _ _ _) (congrArg (World.drewN _) (Nat.add_assoc _ _ _))⟩); have q26 : (t164 : Int) ≤ ((l0.length : Int) : Int) := of_decide_eq_true pwb_; obtain ⟨i026, hi026, _, hsz26, _⟩ := info_parts info41; have hroom26 : l0.length ≤ c0 := HC0.out; have hC26 : Kd.C k41 _ (some ad155) l0.length l0 := HR0.out; have hcut26 := cut_to (P := Try.prog) 23 41 .i64 Try.underlying23 hi026 (some ad155) l0.length c0 t164 (of_decide_eq_true pwb_) q26 hroom26; have hr26 := Kd.C_take (m := (t164 : Int).toNat) hC26 (by omega); have hy26 : y165.length = (t164 : Int).toNat := (by rw [Ny165.out, List.length_take]; omega); rw [← Ny165.out] at hr26; rw [← hy26] at hcut26; have HR168 := Aside0.mk hr26; have HC168 := Aside0.mk (show y165.length ≤ c0 from by omega); clear hr26 hC26 hroom26 hi026 hsz26; have KY26 := Aside0.mk hy26; clear hy26; replace q26 := eq_true q26) | (go_at_call 59; (with_reducible refine (ih k (by omega) _ _ y165 a1 true _ ?side1 ?side2 A19.out).mono ?_); (case side1 => repeat (first | exact HR168.out | (with_reducible refine Kd.C_alloc ?_ _) | (with_reducible refine Kd.C_drewN ?_ _) | (with_reducible refine Kd.C_drew ?_))); (case side2 => exact HC168.out); rintro e w' ⟨rfl, ⟨nd, rfl⟩⟩; (try first | exact ⟨rfl, _, World.drewN_drewN _ _ _⟩ | exact ⟨rfl, _, Eq.trans (World.drewN_drewN _ _ _) (congrArg (World.drewN _) (Nat.add_assoc _ _ _))⟩); have q27 : ((ji3) : Int) ≤ ((l0.length : Int) : Int) := of_decide_eq_true pwb_; obtain ⟨i027, hi027, _, hsz27, _⟩ := info_parts info41; have hroom27 : l0.length ≤ c0 := HC0.out; have hC27 : Kd.C k41 _ (some ad155) l0.length l0 := HR0.out; have ql27 : (t164 : Int) ≤ ((ji3) : Int) := of_decide_eq_true pwb_; have q027 : (0 : Int) ≤ (t164 : Int) := of_decide_eq_true pwb_; have hcut27 := cut_mid (P := Try.prog) 23 41 .i64 .i64 Try.underlying23 hi027 2 hsz27 (some ad155) l0.length c0 t164 (ji3) q027 ql27 q27 hroom27; have hr27 := Kd.C_mid (lo := (t164 : Int).toNat) (hi := ((ji3) : Int).toNat) (c := c0) hC27 (by omega) (by omega) hroom27; obtain ⟨A27, hA27⟩ : ∃ A1, A1 = (if c0 = (t164 : Int).toNat then (some ad155) else ((some ad155) : Option Addr).map (·.add ((t164 : Int).toNat * 2))) := ⟨_, rfl⟩; obtain ⟨c27, hc27⟩ : ∃ c1, c1 = c0 - (t164 : Int).toNat := ⟨_, rfl⟩; have hy27 : y170.length = ((ji3) : Int).toNat - (t164 : Int).toNat := (by rw [Ny170.out, List.length_drop, List.length_take] <;> omega); rw [show ((l0).take ((ji3) : Int).toNat).drop (t164 : Int).toNat = y170 from Ny170.out.symm] at hr27; replace hr27 : Kd.C k41 _ A27 y170.length y170 := (by rw [hA27]; exact hr27); rw [← hy27, ← hA27, ← hc27] at hcut27; have HR173 := Aside0.mk hr27; have HC173 := Aside0.mk (show y170.length ≤ c27 from by rw [hy27, hc27]; exact Nat.sub_le_sub_right (Nat.le_trans (by omega) hroom27) _); clear hr27 hC27 hroom27 hi027 hsz27 hc27; have KY27 := Aside0.mk hy27; have KA27 := Aside0.mk hA27; clear hy27 hA27; replace q27 := eq_true q27) | (go_at_call 59; (with_reducible refine (ih k (by omega) _ _ y170 a1 t174 _ ?side1 ?side2 A23.out).mono ?_); (case side1 => repeat (first | exact HR173.out | (with_reducible refine Kd.C_alloc ?_ _) | (with_reducible refine Kd.C_drewN ?_ _) | (with_reducible refine Kd.C_drew ?_))); (case side2 => exact HC173.out); rintro e w' ⟨rfl, ⟨nd, rfl⟩⟩; (try first | exact ⟨rfl, _, World.drewN_drewN _ _ _⟩ | exact ⟨rfl, _, Eq.trans (World.drewN_drewN _ _ _) (congrArg (World.drewN _) (Nat.add_assoc _ _ _))⟩); have p175 : 0 ≤ ((ji3) : Int) := of_decide_eq_true pwb_; have q175 : (ji3) < (l0.length : Int) := of_decide_eq_true pwb_; obtain ⟨ad175, e175, hx175_0, hx175_1⟩ := at_T41 HR0.out (ji3) p175 q175; obtain rfl : ad155 = ad175 := (by injection e175); replace p175 := eq_true p175; replace q175 := eq_true q175)); try go_wp2_with (first | (go_at_call 68; (with_reducible refine (spec_l2Starts.calls k _ _ l0 (wrap64 ((ji3) - 1)) t164 _ ?side1 ?side2 A16.out).mono ?_); (case side1 => repeat (first | exact HR0.out | (with_reducible refine Kd.C_alloc ?_ _) | (with_reducible refine Kd.C_drewN ?_ _) | (with_reducible refine Kd.C_drew ?_))); (case side2 => exact HC0.out); rintro e w' ⟨rfl, ⟨nd, rfl⟩⟩; (try first | exact ⟨rfl, _, World.drewN_drewN _ _ _⟩ | exact ⟨rfl, _, Eq.trans (World.drewN_drewN _ _ _) (congrArg (World.drewN _) (Nat.add_assoc _ _ _))⟩); have q26 : (t164 : Int) ≤ ((l0.length : Int) : Int) := of_decide_eq_true pwb_; obtain ⟨i026, hi026, _, hsz26, _⟩ := info_parts info41; have hroom26 : l0.length ≤ c0 := HC0.out; have hC26 : Kd.C k41 _ (some ad155) l0.length l0 := HR0.out; have hcut26 := cut_to (P := Try.prog) 23 41 .i64 Try.underlying23 hi026 (some ad155) l0.length c0 t164 (of_decide_eq_true pwb_) q26 hroom26; have hr26 := Kd.C_take (m := (t164 : Int).toNat) hC26 (by omega); have hy26 : y165.length = (t164 : Int).toNat := (by rw [Ny165.out, List.length_take]; omega); rw [← Ny165.out] at hr26; rw [← hy26] at hcut26; have HR168 := Aside0.mk hr26; have HC168 := Aside0.mk (show y165.length ≤ c0 from by omega); clear hr26 hC26 hroom26 hi026 hsz26; have KY26 := Aside0.mk hy26; clear hy26; replace q26 := eq_true q26) | (go_at_call 59; (with_reducible refine (ih k (by omega) _ _ y165 a1 true _ ?side1 ?side2 A19.out).mono ?_); (case side1 => repeat (first | exact HR168.out | (with_reducible refine Kd.C_alloc ?_ _) | (with_reducible refine Kd.C_drewN ?_ _) | (with_reducible refine Kd.C_drew ?_))); (case side2 => exact HC168.out); rintro e w' ⟨rfl, ⟨nd, rfl⟩⟩; (try first | exact ⟨rfl, _, World.drewN_drewN _ _ _⟩ | exact ⟨rfl, _, Eq.trans (World.drewN_drewN _ _ _) (congrArg (World.drewN _) (Nat.add_assoc _ _ _))⟩); have q27 : ((ji3) : Int) ≤ ((l0.length : Int) : Int) := of_decide_eq_true pwb_; obtain ⟨i027, hi027, _, hsz27, _⟩ := info_parts info41; have hroom27 : l0.length ≤ c0 := HC0.out; have hC27 : Kd.C k41 _ (some ad155) l0.length l0 := HR0.out; have ql27 : (t164 : Int) ≤ ((ji3) : Int) := of_decide_eq_true pwb_; have q027 : (0 : Int) ≤ (t164 : Int) := of_decide_eq_true pwb_; have hcut27 := cut_mid (P := Try.prog) 23 41 .i64 .i64 Try.underlying23 hi027 2 hsz27 (some ad155) l0.length c0 t164 (ji3) q027 ql27 q27 hroom27; have hr27 := Kd.C_mid (lo := (t164 : Int).toNat) (hi := ((ji3) : Int).toNat) (c := c0) hC27 (by omega) (by omega) hroom27; obtain ⟨A27, hA27⟩ : ∃ A1, A1 = (if c0 = (t164 : Int).toNat then (some ad155) else ((some ad155) : Option Addr).map (·.add ((t164 : Int).toNat * 2))) := ⟨_, rfl⟩; obtain ⟨c27, hc27⟩ : ∃ c1, c1 = c0 - (t164 : Int).toNat := ⟨_, rfl⟩; have hy27 : y170.length = ((ji3) : Int).toNat - (t164 : Int).toNat := (by rw [Ny170.out, List.length_drop, List.length_take] <;> omega); rw [show ((l0).take ((ji3) : Int).toNat).drop (t164 : Int).toNat = y170 from Ny170.out.symm] at hr27; replace hr27 : Kd.C k41 _ A27 y170.length y170 := (by rw [hA27]; exact hr27); rw [← hy27, ← hA27, ← hc27] at hcut27; have HR173 := Aside0.mk hr27; have HC173 := Aside0.mk (show y170.length ≤ c27 from by rw [hy27, hc27]; exact Nat.sub_le_sub_right (Nat.le_trans (by omega) hroom27) _); clear hr27 hC27 hroom27 hi027 hsz27 hc27; have KY27 := Aside0.mk hy27; have KA27 := Aside0.mk hA27; clear hy27 hA27; replace q27 := eq_true q27) | (go_at_call 59; (with_reducible refine (ih k (by omega) _ _ y170 a1 t174 _ ?side1 ?side2 A23.out).mono ?_); (case side1 => repeat (first | exact HR173.out | (with_reducible refine Kd.C_alloc ?_ _) | (with_reducible refine Kd.C_drewN ?_ _) | (with_reducible refine Kd.C_drew ?_))); (case side2 => exact HC173.out); rintro e w' ⟨rfl, ⟨nd, rfl⟩⟩; (try first | exact ⟨rfl, _, World.drewN_drewN _ _ _⟩ | exact ⟨rfl, _, Eq.trans (World.drewN_drewN _ _ _) (congrArg (World.drewN _) (Nat.add_assoc _ _ _))⟩); have p175 : 0 ≤ ((ji3) : Int) := of_decide_eq_true pwb_; have q175 : (ji3) < (l0.length : Int) := of_decide_eq_true pwb_; obtain ⟨ad175, e175, hx175_0, hx175_1⟩ := at_T41 HR0.out (ji3) p175 q175; obtain rfl : ad155 = ad175 := (by injection e175); replace p175 := eq_true p175; replace q175 := eq_true q175)))
            go_ret
            exact ⟨by first | rfl | (simp; done) | (simp only [← hji3] <;> (first | rfl | simp)) | (simp [*]; done), by repeat (first | exact Drawn0.refl _ | apply Drawn0.step)⟩
           ·replace c25 := Bool.eq_false_iff.mpr c25
            subst c25
            have H1 : (some false) = some r := by rw [if_neg (show ¬ (false = true) by decide)] at H; exact H
            clear H
            have H := H1
            clear H1
            obtain rfl := Option.some.inj H
            have p155 : 0 ≤ ((ji3) : Int) := of_decide_eq_true pwb_
            have q155 : (ji3) < (l0.length : Int) := of_decide_eq_true pwb_
            obtain ⟨ad155, e155, hx155_0, hx155_1⟩ := at_T41 HR0.out (ji3) p155 q155
            cases e155
            replace p155 := eq_true p155
            replace q155 := eq_true q155
            go_enter Try.func59, Try.ntmps59
            go_wp2_with (first | (go_at_call 68; (with_reducible refine (spec_l2Starts.calls k _ _ l0 (wrap64 ((ji3) - 1)) t164 _ ?side1 ?side2 A16.out).mono ?_); (case side1 => repeat (first | exact HR0.out | (with_reducible refine Kd.C_alloc ?_ _) | (with_reducible refine Kd.C_drewN ?_ _) | (with_reducible refine Kd.C_drew ?_))); (case side2 => exact HC0.out); rintro e w' ⟨rfl, ⟨nd, rfl⟩⟩; (try first | exact ⟨rfl, _, World.drewN_drewN _ _ _⟩ | exact ⟨rfl, _, Eq.trans (World.drewN_drewN _ _ _) (congrArg (World.drewN _) (Nat.add_assoc _ _ _))⟩); have q28 : (t164 : Int) ≤ ((l0.length : Int) : Int) := of_decide_eq_true pwb_; obtain ⟨i028, hi028, _, hsz28, _⟩ := info_parts info41; have hroom28 : l0.length ≤ c0 := HC0.out; have hC28 : Kd.C k41 _ (some ad155) l0.length l0 := HR0.out; have hcut28 := cut_to (P := Try.prog) 23 41 .i64 Try.underlying23 hi028 (some ad155) l0.length c0 t164 (of_decide_eq_true pwb_) q28 hroom28; have hr28 := Kd.C_take (m := (t164 : Int).toNat) hC28 (by omega); have hy28 : y165.length = (t164 : Int).toNat := (by rw [Ny165.out, List.length_take]; omega); rw [← Ny165.out] at hr28; rw [← hy28] at hcut28; have HR168 := Aside0.mk hr28; have HC168 := Aside0.mk (show y165.length ≤ c0 from by omega); clear hr28 hC28 hroom28 hi028 hsz28; have KY28 := Aside0.mk hy28; clear hy28; replace q28 := eq_true q28) | (go_at_call 59; (with_reducible refine (ih k (by omega) _ _ y165 a1 false _ ?side1 ?side2 A19.out).mono ?_); (case side1 => repeat (first | exact HR168.out | (with_reducible refine Kd.C_alloc ?_ _) | (with_reducible refine Kd.C_drewN ?_ _) | (with_reducible refine Kd.C_drew ?_))); (case side2 => exact HC168.out); rintro e w' ⟨rfl, ⟨nd, rfl⟩⟩; (try first | exact ⟨rfl, _, World.drewN_drewN _ _ _⟩ | exact ⟨rfl, _, Eq.trans (World.drewN_drewN _ _ _) (congrArg (World.drewN _) (Nat.add_assoc _ _ _))⟩); have q29 : ((ji3) : Int) ≤ ((l0.length : Int) : Int) := of_decide_eq_true pwb_; obtain ⟨i029, hi029, _, hsz29, _⟩ := info_parts info41; have hroom29 : l0.length ≤ c0 := HC0.out; have hC29 : Kd.C k41 _ (some ad155) l0.length l0 := HR0.out; have ql29 : (t164 : Int) ≤ ((ji3) : Int) := of_decide_eq_true pwb_; have q029 : (0 : Int) ≤ (t164 : Int) := of_decide_eq_true pwb_; have hcut29 := cut_mid (P := Try.prog) 23 41 .i64 .i64 Try.underlying23 hi029 2 hsz29 (some ad155) l0.length c0 t164 (ji3) q029 ql29 q29 hroom29; have hr29 := Kd.C_mid (lo := (t164 : Int).toNat) (hi := ((ji3) : Int).toNat) (c := c0) hC29 (by omega) (by omega) hroom29; obtain ⟨A29, hA29⟩ : ∃ A1, A1 = (if c0 = (t164 : Int).toNat then (some ad155) else ((some ad155) : Option Addr).map (·.add ((t164 : Int).toNat * 2))) := ⟨_, rfl⟩; obtain ⟨c29, hc29⟩ : ∃ c1, c1 = c0 - (t164 : Int).toNat := ⟨_, rfl⟩; have hy29 : y170.length = ((ji3) : Int).toNat - (t164 : Int).toNat := (by rw [Ny170.out, List.length_drop, List.length_take] <;> omega); rw [show ((l0).take ((ji3) : Int).toNat).drop (t164 : Int).toNat = y170 from Ny170.out.symm] at hr29; replace hr29 : Kd.C k41 _ A29 y170.length y170 := (by rw [hA29]; exact hr29); rw [← hy29, ← hA29, ← hc29] at hcut29; have HR173 := Aside0.mk hr29; have HC173 := Aside0.mk (show y170.length ≤ c29 from by rw [hy29, hc29]; exact Nat.sub_le_sub_right (Nat.le_trans (by omega) hroom29) _); clear hr29 hC29 hroom29 hi029 hsz29 hc29; have KY29 := Aside0.mk hy29; have KA29 := Aside0.mk hA29; clear hy29 hA29; replace q29 := eq_true q29) | (go_at_call 59; (with_reducible refine (ih k (by omega) _ _ y170 a1 t174 _ ?side1 ?side2 A23.out).mono ?_); (case side1 => repeat (first | exact HR173.out | (with_reducible refine Kd.C_alloc ?_ _) | (with_reducible refine Kd.C_drewN ?_ _) | (with_reducible refine Kd.C_drew ?_))); (case side2 => exact HC173.out); rintro e w' ⟨rfl, ⟨nd, rfl⟩⟩; (try first | exact ⟨rfl, _, World.drewN_drewN _ _ _⟩ | exact ⟨rfl, _, Eq.trans (World.drewN_drewN _ _ _) (congrArg (World.drewN _) (Nat.add_assoc _ _ _))⟩); have p175 : 0 ≤ ((ji3) : Int) := of_decide_eq_true pwb_; have q175 : (ji3) < (l0.length : Int) := of_decide_eq_true pwb_; obtain ⟨ad175, e175, hx175_0, hx175_1⟩ := at_T41 HR0.out (ji3) p175 q175; obtain rfl : ad155 = ad175 := (by injection e175); replace p175 := eq_true p175; replace q175 := eq_true q175))
            repeat (go_quiet (first | (go_at_call 68; (with_reducible refine (spec_l2Starts.calls k _ _ l0 (wrap64 ((ji3) - 1)) t164 _ ?side1 ?side2 A16.out).mono ?_); (case side1 => repeat (first | exact HR0.out | (with_reducible refine Kd.C_alloc ?_ _) | (with_reducible refine Kd.C_drewN ?_ _) | (with_reducible refine Kd.C_drew ?_))); (case side2 => exact HC0.out); rintro e w' ⟨rfl, ⟨nd, rfl⟩⟩; (try first | exact ⟨rfl, _, World.drewN_drewN _ _ _⟩ | exact ⟨rfl, _, Eq.trans (World.drewN_drewN _ _ _) (congrArg (World.drewN _) (Nat.add_assoc _ _ _))⟩); have q28 : (t164 : Int) ≤ ((l0.length : Int) : Int) := of_decide_eq_true pwb_; obtain ⟨i028, hi028, _, hsz28, _⟩ := info_parts info41; have hroom28 : l0.length ≤ c0 := HC0.out; have hC28 : Kd.C k41 _ (some ad155) l0.length l0 := HR0.out; have hcut28 := cut_to (P := Try.prog) 23 41 .i64 Try.underlying23 hi028 (some ad155) l0.length c0 t164 (of_decide_eq_true pwb_) q28 hroom28; have hr28 := Kd.C_take (m := (t164 : Int).toNat) hC28 (by omega); have hy28 : y165.length = (t164 : Int).toNat := (by rw [Ny165.out, List.length_take]; omega); rw [← Ny165.out] at hr28; rw [← hy28] at hcut28; have HR168 := Aside0.mk hr28; have HC168 := Aside0.mk (show y165.length ≤ c0 from by omega); clear hr28 hC28 hroom28 hi028 hsz28; have KY28 := Aside0.mk hy28; clear hy28; replace q28 := eq_true q28) | (go_at_call 59; (with_reducible refine (ih k (by omega) _ _ y165 a1 false _ ?side1 ?side2 A19.out).mono ?_); (case side1 => repeat (first | exact HR168.out | (with_reducible refine Kd.C_alloc ?_ _) | (with_reducible refine Kd.C_drewN ?_ _) | (with_reducible refine Kd.C_drew ?_))); (case side2 => exact HC168.out); rintro e w' ⟨rfl, ⟨nd, rfl⟩⟩; (try first | exact ⟨rfl, _, World.drewN_drewN _ _ _⟩ | exact ⟨rfl, _, Eq.trans (World.drewN_drewN _ _ _) (congrArg (World.drewN _) (Nat.add_assoc _ _ _))⟩); have q29 : ((ji3) : Int) ≤ ((l0.length : Int) : Int) := of_decide_eq_true pwb_; obtain ⟨i029, hi029, _, hsz29, _⟩ := info_parts info41; have hroom29 : l0.length ≤ c0 := HC0.out; have hC29 : Kd.C k41 _ (some ad155) l0.length l0 := HR0.out; have ql29 : (t164 : Int) ≤ ((ji3) : Int) := of_decide_eq_true pwb_; have q029 : (0 : Int) ≤ (t164 : Int) := of_decide_eq_true pwb_; have hcut29 := cut_mid (P := Try.prog) 23 41 .i64 .i64 Try.underlying23 hi029 2 hsz29 (some ad155) l0.length c0 t164 (ji3) q029 ql29 q29 hroom29; have hr29 := Kd.C_mid (lo := (t164 : Int).toNat) (hi := ((ji3) : Int).toNat) (c := c0) hC29 (by omega) (by omega) hroom29; obtain ⟨A29, hA29⟩ : ∃ A1, A1 = (if c0 = (t164 : Int).toNat then (some ad155) else ((some ad155) : Option Addr).map (·.add ((t164 : Int).toNat * 2))) := ⟨_, rfl⟩; obtain ⟨c29, hc29⟩ : ∃ c1, c1 = c0 - (t164 : Int).toNat := ⟨_, rfl⟩; have hy29 : y170.length = ((ji3) : Int).toNat - (t164 : Int).toNat := (by rw [Ny170.out, List.length_drop, List.length_take] <;> omega); rw [show ((l0).take ((ji3) : Int).toNat).drop (t164 : Int).toNat = y170 from Ny170.out.symm] at hr29; replace hr29 : Kd.C k41 _ A29 y170.length y170 := (by rw [hA29]; exact hr29); rw [← hy29, ← hA29, ← hc29] at hcut29; have HR173 := Aside0.mk hr29; have HC173 := Aside0.mk (show y170.length ≤ c29 from by rw [hy29, hc29]; exact Nat.sub_le_sub_right (Nat.le_trans (by omega) hroom29) _); clear hr29 hC29 hroom29 hi029 hsz29 hc29; have KY29 := Aside0.mk hy29; have KA29 := Aside0.mk hA29; clear hy29 hA29; replace q29 := eq_true q29) | (go_at_call 59; (with_reducible refine (ih k (by omega) _ _ y170 a1 t174 _ ?side1 ?side2 A23.out).mono ?_); (case side1 => repeat (first | exact HR173.out | (with_reducible refine Kd.C_alloc ?_ _) | (with_reducible refine Kd.C_drewN ?_ _) | (with_reducible refine Kd.C_drew ?_))); (case side2 => exact HC173.out); rintro e w' ⟨rfl, ⟨nd, rfl⟩⟩; (try first | exact ⟨rfl, _, World.drewN_drewN _ _ _⟩ | exact ⟨rfl, _, Eq.trans (World.drewN_drewN _ _ _) (congrArg (World.drewN _) (Nat.add_assoc _ _ _))⟩); have p175 : 0 ≤ ((ji3) : Int) := of_decide_eq_true pwb_; have q175 : (ji3) < (l0.length : Int) := of_decide_eq_true pwb_; obtain ⟨ad175, e175, hx175_0, hx175_1⟩ := at_T41 HR0.out (ji3) p175 q175; obtain rfl : ad155 = ad175 := (by injection e175); replace p175 := eq_true p175; replace q175 := eq_true q175)); try go_wp2_with (first | (go_at_call 68; (with_reducible refine (spec_l2Starts.calls k _ _ l0 (wrap64 ((ji3) - 1)) t164 _ ?side1 ?side2 A16.out).mono ?_); (case side1 => repeat (first | exact HR0.out | (with_reducible refine Kd.C_alloc ?_ _) | (with_reducible refine Kd.C_drewN ?_ _) | (with_reducible refine Kd.C_drew ?_))); (case side2 => exact HC0.out); rintro e w' ⟨rfl, ⟨nd, rfl⟩⟩; (try first | exact ⟨rfl, _, World.drewN_drewN _ _ _⟩ | exact ⟨rfl, _, Eq.trans (World.drewN_drewN _ _ _) (congrArg (World.drewN _) (Nat.add_assoc _ _ _))⟩); have q28 : (t164 : Int) ≤ ((l0.length : Int) : Int) := of_decide_eq_true pwb_; obtain ⟨i028, hi028, _, hsz28, _⟩ := info_parts info41; have hroom28 : l0.length ≤ c0 := HC0.out; have hC28 : Kd.C k41 _ (some ad155) l0.length l0 := HR0.out; have hcut28 := cut_to (P := Try.prog) 23 41 .i64 Try.underlying23 hi028 (some ad155) l0.length c0 t164 (of_decide_eq_true pwb_) q28 hroom28; have hr28 := Kd.C_take (m := (t164 : Int).toNat) hC28 (by omega); have hy28 : y165.length = (t164 : Int).toNat := (by rw [Ny165.out, List.length_take]; omega); rw [← Ny165.out] at hr28; rw [← hy28] at hcut28; have HR168 := Aside0.mk hr28; have HC168 := Aside0.mk (show y165.length ≤ c0 from by omega); clear hr28 hC28 hroom28 hi028 hsz28; have KY28 := Aside0.mk hy28; clear hy28; replace q28 := eq_true q28) | (go_at_call 59; (with_reducible refine (ih k (by omega) _ _ y165 a1 false _ ?side1 ?side2 A19.out).mono ?_); (case side1 => repeat (first | exact HR168.out | (with_reducible refine Kd.C_alloc ?_ _) | (with_reducible refine Kd.C_drewN ?_ _) | (with_reducible refine Kd.C_drew ?_))); (case side2 => exact HC168.out); rintro e w' ⟨rfl, ⟨nd, rfl⟩⟩; (try first | exact ⟨rfl, _, World.drewN_drewN _ _ _⟩ | exact ⟨rfl, _, Eq.trans (World.drewN_drewN _ _ _) (congrArg (World.drewN _) (Nat.add_assoc _ _ _))⟩); have q29 : ((ji3) : Int) ≤ ((l0.length : Int) : Int) := of_decide_eq_true pwb_; obtain ⟨i029, hi029, _, hsz29, _⟩ := info_parts info41; have hroom29 : l0.length ≤ c0 := HC0.out; have hC29 : Kd.C k41 _ (some ad155) l0.length l0 := HR0.out; have ql29 : (t164 : Int) ≤ ((ji3) : Int) := of_decide_eq_true pwb_; have q029 : (0 : Int) ≤ (t164 : Int) := of_decide_eq_true pwb_; have hcut29 := cut_mid (P := Try.prog) 23 41 .i64 .i64 Try.underlying23 hi029 2 hsz29 (some ad155) l0.length c0 t164 (ji3) q029 ql29 q29 hroom29; have hr29 := Kd.C_mid (lo := (t164 : Int).toNat) (hi := ((ji3) : Int).toNat) (c := c0) hC29 (by omega) (by omega) hroom29; obtain ⟨A29, hA29⟩ : ∃ A1, A1 = (if c0 = (t164 : Int).toNat then (some ad155) else ((some ad155) : Option Addr).map (·.add ((t164 : Int).toNat * 2))) := ⟨_, rfl⟩; obtain ⟨c29, hc29⟩ : ∃ c1, c1 = c0 - (t164 : Int).toNat := ⟨_, rfl⟩; have hy29 : y170.length = ((ji3) : Int).toNat - (t164 : Int).toNat := (by rw [Ny170.out, List.length_drop, List.length_take] <;> omega); rw [show ((l0).take ((ji3) : Int).toNat).drop (t164 : Int).toNat = y170 from Ny170.out.symm] at hr29; replace hr29 : Kd.C k41 _ A29 y170.length y170 := (by rw [hA29]; exact hr29); rw [← hy29, ← hA29, ← hc29] at hcut29; have HR173 := Aside0.mk hr29; have HC173 := Aside0.mk (show y170.length ≤ c29 from by rw [hy29, hc29]; exact Nat.sub_le_sub_right (Nat.le_trans (by omega) hroom29) _); clear hr29 hC29 hroom29 hi029 hsz29 hc29; have KY29 := Aside0.mk hy29; have KA29 := Aside0.mk hA29; clear hy29 hA29; replace q29 := eq_true q29) | (go_at_call 59; (with_reducible refine (ih k (by omega) _ _ y170 a1 t174 _ ?side1 ?side2 A23.out).mono ?_); (case side1 => repeat (first | exact HR173.out | (with_reducible refine Kd.C_alloc ?_ _) | (with_reducible refine Kd.C_drewN ?_ _) | (with_reducible refine Kd.C_drew ?_))); (case side2 => exact HC173.out); rintro e w' ⟨rfl, ⟨nd, rfl⟩⟩; (try first | exact ⟨rfl, _, World.drewN_drewN _ _ _⟩ | exact ⟨rfl, _, Eq.trans (World.drewN_drewN _ _ _) (congrArg (World.drewN _) (Nat.add_assoc _ _ _))⟩); have p175 : 0 ≤ ((ji3) : Int) := of_decide_eq_true pwb_; have q175 : (ji3) < (l0.length : Int) := of_decide_eq_true pwb_; obtain ⟨ad175, e175, hx175_0, hx175_1⟩ := at_T41 HR0.out (ji3) p175 q175; obtain rfl : ad155 = ad175 := (by injection e175); replace p175 := eq_true p175; replace q175 := eq_true q175)))
            go_ret
            exact ⟨by first | rfl | (simp; done) | (simp only [← hji3] <;> (first | rfl | simp)) | (simp [*]; done), by repeat (first | exact Drawn0.refl _ | apply Drawn0.step)⟩
          ·rw [if_neg c24] at H
           have c24b0 : (((rd_T41 l0 (ji3)).f0) == 3) = false := beq_eq_false_iff_ne.mpr c24
           have c24b1 : (((rd_T41 l0 (ji3)).f0) != 3) = true := bne_iff_ne.mpr c24
           by_cases c30 : ((rd_T41 l0 (ji3)).f0) = 4
           ·rw [if_pos c30] at H
            have c30b0 : (((rd_T41 l0 (ji3)).f0) == 4) = true := beq_iff_eq.mpr c30
            have c30b1 : (((rd_T41 l0 (ji3)).f0) != 4) = false := bne_eq_false_iff_eq.mpr c30
            clear c30
            by_cases c31 : t169 = true
            ·subst c31
             have H1 : (some true) = some r := by rw [if_pos rfl] at H; exact H
             clear H
             have H := H1
             clear H1
             obtain rfl := Option.some.inj H
             have p155 : 0 ≤ ((ji3) : Int) := of_decide_eq_true pwb_
             have q155 : (ji3) < (l0.length : Int) := of_decide_eq_true pwb_
             obtain ⟨ad155, e155, hx155_0, hx155_1⟩ := at_T41 HR0.out (ji3) p155 q155
             cases e155
             replace p155 := eq_true p155
             replace q155 := eq_true q155
             go_enter Try.func59, Try.ntmps59
             go_wp2_with (first | (go_at_call 68; (with_reducible refine (spec_l2Starts.calls k _ _ l0 (wrap64 ((ji3) - 1)) t164 _ ?side1 ?side2 A16.out).mono ?_); (case side1 => repeat (first | exact HR0.out | (with_reducible refine Kd.C_alloc ?_ _) | (with_reducible refine Kd.C_drewN ?_ _) | (with_reducible refine Kd.C_drew ?_))); (case side2 => exact HC0.out); rintro e w' ⟨rfl, ⟨nd, rfl⟩⟩; (try first | exact ⟨rfl, _, World.drewN_drewN _ _ _⟩ | exact ⟨rfl, _, Eq.trans (World.drewN_drewN _ _ _) (congrArg (World.drewN _) (Nat.add_assoc _ _ _))⟩); have q32 : (t164 : Int) ≤ ((l0.length : Int) : Int) := of_decide_eq_true pwb_; obtain ⟨i032, hi032, _, hsz32, _⟩ := info_parts info41; have hroom32 : l0.length ≤ c0 := HC0.out; have hC32 : Kd.C k41 _ (some ad155) l0.length l0 := HR0.out; have hcut32 := cut_to (P := Try.prog) 23 41 .i64 Try.underlying23 hi032 (some ad155) l0.length c0 t164 (of_decide_eq_true pwb_) q32 hroom32; have hr32 := Kd.C_take (m := (t164 : Int).toNat) hC32 (by omega); have hy32 : y165.length = (t164 : Int).toNat := (by rw [Ny165.out, List.length_take]; omega); rw [← Ny165.out] at hr32; rw [← hy32] at hcut32; have HR168 := Aside0.mk hr32; have HC168 := Aside0.mk (show y165.length ≤ c0 from by omega); clear hr32 hC32 hroom32 hi032 hsz32; have KY32 := Aside0.mk hy32; clear hy32; replace q32 := eq_true q32) | (go_at_call 59; (with_reducible refine (ih k (by omega) _ _ y165 a1 true _ ?side1 ?side2 A19.out).mono ?_); (case side1 => repeat (first | exact HR168.out | (with_reducible refine Kd.C_alloc ?_ _) | (with_reducible refine Kd.C_drewN ?_ _) | (with_reducible refine Kd.C_drew ?_))); (case side2 => exact HC168.out); rintro e w' ⟨rfl, ⟨nd, rfl⟩⟩; (try first | exact ⟨rfl, _, World.drewN_drewN _ _ _⟩ | exact ⟨rfl, _, Eq.trans (World.drewN_drewN _ _ _) (congrArg (World.drewN _) (Nat.add_assoc _ _ _))⟩); have q33 : ((ji3) : Int) ≤ ((l0.length : Int) : Int) := of_decide_eq_true pwb_; obtain ⟨i033, hi033, _, hsz33, _⟩ := info_parts info41; have hroom33 : l0.length ≤ c0 := HC0.out; have hC33 : Kd.C k41 _ (some ad155) l0.length l0 := HR0.out; have ql33 : (t164 : Int) ≤ ((ji3) : Int) := of_decide_eq_true pwb_; have q033 : (0 : Int) ≤ (t164 : Int) := of_decide_eq_true pwb_; have hcut33 := cut_mid (P := Try.prog) 23 41 .i64 .i64 Try.underlying23 hi033 2 hsz33 (some ad155) l0.length c0 t164 (ji3) q033 ql33 q33 hroom33; have hr33 := Kd.C_mid (lo := (t164 : Int).toNat) (hi := ((ji3) : Int).toNat) (c := c0) hC33 (by omega) (by omega) hroom33; obtain ⟨A33, hA33⟩ : ∃ A1, A1 = (if c0 = (t164 : Int).toNat then (some ad155) else ((some ad155) : Option Addr).map (·.add ((t164 : Int).toNat * 2))) := ⟨_, rfl⟩; obtain ⟨c33, hc33⟩ : ∃ c1, c1 = c0 - (t164 : Int).toNat := ⟨_, rfl⟩; have hy33 : y170.length = ((ji3) : Int).toNat - (t164 : Int).toNat := (by rw [Ny170.out, List.length_drop, List.length_take] <;> omega); rw [show ((l0).take ((ji3) : Int).toNat).drop (t164 : Int).toNat = y170 from Ny170.out.symm] at hr33; replace hr33 : Kd.C k41 _ A33 y170.length y170 := (by rw [hA33]; exact hr33); rw [← hy33, ← hA33, ← hc33] at hcut33; have HR173 := Aside0.mk hr33; have HC173 := Aside0.mk (show y170.length ≤ c33 from by rw [hy33, hc33]; exact Nat.sub_le_sub_right (Nat.le_trans (by omega) hroom33) _); clear hr33 hC33 hroom33 hi033 hsz33 hc33; have KY33 := Aside0.mk hy33; have KA33 := Aside0.mk hA33; clear hy33 hA33; replace q33 := eq_true q33) | (go_at_call 59; (with_reducible refine (ih k (by omega) _ _ y170 a1 t174 _ ?side1 ?side2 A23.out).mono ?_); (case side1 => repeat (first | exact HR173.out | (with_reducible refine Kd.C_alloc ?_ _) | (with_reducible refine Kd.C_drewN ?_ _) | (with_reducible refine Kd.C_drew ?_))); (case side2 => exact HC173.out); rintro e w' ⟨rfl, ⟨nd, rfl⟩⟩; (try first | exact ⟨rfl, _, World.drewN_drewN _ _ _⟩ | exact ⟨rfl, _, Eq.trans (World.drewN_drewN _ _ _) (congrArg (World.drewN _) (Nat.add_assoc _ _ _))⟩); have p175 : 0 ≤ ((ji3) : Int) := of_decide_eq_true pwb_; have q175 : (ji3) < (l0.length : Int) := of_decide_eq_true pwb_; obtain ⟨ad175, e175, hx175_0, hx175_1⟩ := at_T41 HR0.out (ji3) p175 q175; obtain rfl : ad155 = ad175 := (by injection e175); replace p175 := eq_true p175; replace q175 := eq_true q175))
             repeat (go_quiet (first | (go_at_call 68; (with_reducible refine (spec_l2Starts.calls k _ _ l0 (wrap64 ((ji3) - 1)) t164 _ ?side1 ?side2 A16.out).mono ?_); (case side1 => repeat (first | exact HR0.out | (with_reducible refine Kd.C_alloc ?_ _) | (with_reducible refine Kd.C_drewN ?_ _) | (with_reducible refine Kd.C_drew ?_))); (case side2 => exact HC0.out); rintro e w' ⟨rfl, ⟨nd, rfl⟩⟩; (try first | exact ⟨rfl, _, World.drewN_drewN _ _ _⟩ | exact ⟨rfl, _, Eq.trans (World.drewN_drewN _ _ _) (congrArg (World.drewN _) (Nat.add_assoc _ _ _))⟩); have q32 : (t164 : Int) ≤ ((l0.length : Int) : Int) := of_decide_eq_true pwb_; obtain ⟨i032, hi032, _, hsz32, _⟩ := info_parts info41; have hroom32 : l0.length ≤ c0 := HC0.out; have hC32 : Kd.C k41 _ (some ad155) l0.length l0 := HR0.out; have hcut32 := cut_to (P := Try.prog) 23 41 .i64 Try.underlying23 hi032 (some ad155) l0.length c0 t164 (of_decide_eq_true pwb_) q32 hroom32; have hr32 := Kd.C_take (m := (t164 : Int).toNat) hC32 (by omega); have hy32 : y165.length = (t164 : Int).toNat := (by rw [Ny165.out, List.length_take]; omega); rw [← Ny165.out] at hr32; rw [← hy32] at hcut32; have HR168 := Aside0.mk hr32; have HC168 := Aside0.mk (show y165.length ≤ c0 from by omega); clear hr32 hC32 hroom32 hi032 hsz32; have KY32 := Aside0.mk hy32; clear hy32; replace q32 := eq_true q32) | (go_at_call 59; (with_reducible refine (ih k (by omega) _ _ y165 a1 true _ ?side1 ?side2 A19.out).mono ?_); (case side1 => repeat (first | exact HR168.out | (with_reducible refine Kd.C_alloc ?_ _) | (with_reducible refine Kd.C_drewN ?_ _) | (with_reducible refine Kd.C_drew ?_))); (case side2 => exact HC168.out); rintro e w' ⟨rfl, ⟨nd, rfl⟩⟩; (try first | exact ⟨rfl, _, World.drewN_drewN _ _ _⟩ | exact ⟨rfl, _, Eq.trans (World.drewN_drewN _ _ _) (congrArg (World.drewN _) (Nat.add_assoc _ _ _))⟩); have q33 : ((ji3) : Int) ≤ ((l0.length : Int) : Int) := of_decide_eq_true pwb_; obtain ⟨i033, hi033, _, hsz33, _⟩ := info_parts info41; have hroom33 : l0.length ≤ c0 := HC0.out; have hC33 : Kd.C k41 _ (some ad155) l0.length l0 := HR0.out; have ql33 : (t164 : Int) ≤ ((ji3) : Int) := of_decide_eq_true pwb_; have q033 : (0 : Int) ≤ (t164 : Int) := of_decide_eq_true pwb_; have hcut33 := cut_mid (P := Try.prog) 23 41 .i64 .i64 Try.underlying23 hi033 2 hsz33 (some ad155) l0.length c0 t164 (ji3) q033 ql33 q33 hroom33; have hr33 := Kd.C_mid (lo := (t164 : Int).toNat) (hi := ((ji3) : Int).toNat) (c := c0) hC33 (by omega) (by omega) hroom33; obtain ⟨A33, hA33⟩ : ∃ A1, A1 = (if c0 = (t164 : Int).toNat then (some ad155) else ((some ad155) : Option Addr).map (·.add ((t164 : Int).toNat * 2))) := ⟨_, rfl⟩; obtain ⟨c33, hc33⟩ : ∃ c1, c1 = c0 - (t164 : Int).toNat := ⟨_, rfl⟩; have hy33 : y170.length = ((ji3) : Int).toNat - (t164 : Int).toNat := (by rw [Ny170.out, List.length_drop, List.length_take] <;> omega); rw [show ((l0).take ((ji3) : Int).toNat).drop (t164 : Int).toNat = y170 from Ny170.out.symm] at hr33; replace hr33 : Kd.C k41 _ A33 y170.length y170 := (by rw [hA33]; exact hr33); rw [← hy33, ← hA33, ← hc33] at hcut33; have HR173 := Aside0.mk hr33; have HC173 := Aside0.mk (show y170.length ≤ c33 from by rw [hy33, hc33]; exact Nat.sub_le_sub_right (Nat.le_trans (by omega) hroom33) _); clear hr33 hC33 hroom33 hi033 hsz33 hc33; have KY33 := Aside0.mk hy33; have KA33 := Aside0.mk hA33; clear hy33 hA33; replace q33 := eq_true q33) | (go_at_call 59; (with_reducible refine (ih k (by omega) _ _ y170 a1 t174 _ ?side1 ?side2 A23.out).mono ?_); (case side1 => repeat (first | exact HR173.out | (with_reducible refine Kd.C_alloc ?_ _) | (with_reducible refine Kd.C_drewN ?_ _) | (with_reducible refine Kd.C_drew ?_))); (case side2 => exact HC173.out); rintro e w' ⟨rfl, ⟨nd, rfl⟩⟩; (try first | exact ⟨rfl, _, World.drewN_drewN _ _ _⟩ | exact ⟨rfl, _, Eq.trans (World.drewN_drewN _ _ _) (congrArg (World.drewN _) (Nat.add_assoc _ _ _))⟩); have p175 : 0 ≤ ((ji3) : Int) := of_decide_eq_true pwb_; have q175 : (ji3) < (l0.length : Int) := of_decide_eq_true pwb_; obtain ⟨ad175, e175, hx175_0, hx175_1⟩ := at_T41 HR0.out (ji3) p175 q175; obtain rfl : ad155 = ad175 := (by injection e175); replace p175 := eq_true p175; replace q175 := eq_true q175)); try go_wp2_with (first | (go_at_call 68; (with_reducible refine (spec_l2Starts.calls k _ _ l0 (wrap64 ((ji3) - 1)) t164 _ ?side1 ?side2 A16.out).mono ?_); (case side1 => repeat (first | exact HR0.out | (with_reducible refine Kd.C_alloc ?_ _) | (with_reducible refine Kd.C_drewN ?_ _) | (with_reducible refine Kd.C_drew ?_))); (case side2 => exact HC0.out); rintro e w' ⟨rfl, ⟨nd, rfl⟩⟩; (try first | exact ⟨rfl, _, World.drewN_drewN _ _ _⟩ | exact ⟨rfl, _, Eq.trans (World.drewN_drewN _ _ _) (congrArg (World.drewN _) (Nat.add_assoc _ _ _))⟩); have q32 : (t164 : Int) ≤ ((l0.length : Int) : Int) := of_decide_eq_true pwb_; obtain ⟨i032, hi032, _, hsz32, _⟩ := info_parts info41; have hroom32 : l0.length ≤ c0 := HC0.out; have hC32 : Kd.C k41 _ (some ad155) l0.length l0 := HR0.out; have hcut32 := cut_to (P := Try.prog) 23 41 .i64 Try.underlying23 hi032 (some ad155) l0.length c0 t164 (of_decide_eq_true pwb_) q32 hroom32; have hr32 := Kd.C_take (m := (t164 : Int).toNat) hC32 (by omega); have hy32 : y165.length = (t164 : Int).toNat := (by rw [Ny165.out, List.length_take]; omega); rw [← Ny165.out] at hr32; rw [← hy32] at hcut32; have HR168 := Aside0.mk hr32; have HC168 := Aside0.mk (show y165.length ≤ c0 from by omega); clear hr32 hC32 hroom32 hi032 hsz32; have KY32 := Aside0.mk hy32; clear hy32; replace q32 := eq_true q32) | (go_at_call 59; (with_reducible refine (ih k (by omega) _ _ y165 a1 true _ ?side1 ?side2 A19.out).mono ?_); (case side1 => repeat (first | exact HR168.out | (with_reducible refine Kd.C_alloc ?_ _) | (with_reducible refine Kd.C_drewN ?_ _) | (with_reducible refine Kd.C_drew ?_))); (case side2 => exact HC168.out); rintro e w' ⟨rfl, ⟨nd, rfl⟩⟩; (try first | exact ⟨rfl, _, World.drewN_drewN _ _ _⟩ | exact ⟨rfl, _, Eq.trans (World.drewN_drewN _ _ _) (congrArg (World.drewN _) (Nat.add_assoc _ _ _))⟩); have q33 : ((ji3) : Int) ≤ ((l0.length : Int) : Int) := of_decide_eq_true pwb_; obtain ⟨i033, hi033, _, hsz33, _⟩ := info_parts info41; have hroom33 : l0.length ≤ c0 := HC0.out; have hC33 : Kd.C k41 _ (some ad155) l0.length l0 := HR0.out; have ql33 : (t164 : Int) ≤ ((ji3) : Int) := of_decide_eq_true pwb_; have q033 : (0 : Int) ≤ (t164 : Int) := of_decide_eq_true pwb_; have hcut33 := cut_mid (P := Try.prog) 23 41 .i64 .i64 Try.underlying23 hi033 2 hsz33 (some ad155) l0.length c0 t164 (ji3) q033 ql33 q33 hroom33; have hr33 := Kd.C_mid (lo := (t164 : Int).toNat) (hi := ((ji3) : Int).toNat) (c := c0) hC33 (by omega) (by omega) hroom33; obtain ⟨A33, hA33⟩ : ∃ A1, A1 = (if c0 = (t164 : Int).toNat then (some ad155) else ((some ad155) : Option Addr).map (·.add ((t164 : Int).toNat * 2))) := ⟨_, rfl⟩; obtain ⟨c33, hc33⟩ : ∃ c1, c1 = c0 - (t164 : Int).toNat := ⟨_, rfl⟩; have hy33 : y170.length = ((ji3) : Int).toNat - (t164 : Int).toNat := (by rw [Ny170.out, List.length_drop, List.length_take] <;> omega); rw [show ((l0).take ((ji3) : Int).toNat).drop (t164 : Int).toNat = y170 from Ny170.out.symm] at hr33; replace hr33 : Kd.C k41 _ A33 y170.length y170 := (by rw [hA33]; exact hr33); rw [← hy33, ← hA33, ← hc33] at hcut33; have HR173 := Aside0.mk hr33; have HC173 := Aside0.mk (show y170.length ≤ c33 from by rw [hy33, hc33]; exact Nat.sub_le_sub_right (Nat.le_trans (by omega) hroom33) _); clear hr33 hC33 hroom33 hi033 hsz33 hc33; have KY33 := Aside0.mk hy33; have KA33 := Aside0.mk hA33; clear hy33 hA33; replace q33 := eq_true q33) | (go_at_call 59; (with_reducible refine (ih k (by omega) _ _ y170 a1 t174 _ ?side1 ?side2 A23.out).mono ?_); (case side1 => repeat (first | exact HR173.out | (with_reducible refine Kd.C_alloc ?_ _) | (with_reducible refine Kd.C_drewN ?_ _) | (with_reducible refine Kd.C_drew ?_))); (case side2 => exact HC173.out); rintro e w' ⟨rfl, ⟨nd, rfl⟩⟩; (try first | exact ⟨rfl, _, World.drewN_drewN _ _ _⟩ | exact ⟨rfl, _, Eq.trans (World.drewN_drewN _ _ _) (congrArg (World.drewN _) (Nat.add_assoc _ _ _))⟩); have p175 : 0 ≤ ((ji3) : Int) := of_decide_eq_true pwb_; have q175 : (ji3) < (l0.length : Int) := of_decide_eq_true pwb_; obtain ⟨ad175, e175, hx175_0, hx175_1⟩ := at_T41 HR0.out (ji3) p175 q175; obtain rfl : ad155 = ad175 := (by injection e175); replace p175 := eq_true p175; replace q175 := eq_true q175)))
             go_ret
             exact ⟨by first | rfl | (simp; done) | (simp only [← hji3] <;> (first | rfl | simp)) | (simp [*]; done), by repeat (first | exact Drawn0.refl _ | apply Drawn0.step)⟩
            ·replace c31 := Bool.eq_false_iff.mpr c31
             subst c31
             have H1 : (some t174) = some r := by rw [if_neg (show ¬ (false = true) by decide)] at H; exact H
             clear H
             have H := H1
             clear H1
             obtain rfl := Option.some.inj H
             have p155 : 0 ≤ ((ji3) : Int) := of_decide_eq_true pwb_
             have q155 : (ji3) < (l0.length : Int) := of_decide_eq_true pwb_
             obtain ⟨ad155, e155, hx155_0, hx155_1⟩ := at_T41 HR0.out (ji3) p155 q155
             cases e155
             replace p155 := eq_true p155
             replace q155 := eq_true q155
             go_enter Try.func59, Try.ntmps59
             go_wp2_with (first | (go_at_call 68; (with_reducible refine (spec_l2Starts.calls k _ _ l0 (wrap64 ((ji3) - 1)) t164 _ ?side1 ?side2 A16.out).mono ?_); (case side1 => repeat (first | exact HR0.out | (with_reducible refine Kd.C_alloc ?_ _) | (with_reducible refine Kd.C_drewN ?_ _) | (with_reducible refine Kd.C_drew ?_))); (case side2 => exact HC0.out); rintro e w' ⟨rfl, ⟨nd, rfl⟩⟩; (try first | exact ⟨rfl, _, World.drewN_drewN _ _ _⟩ | exact ⟨rfl, _, Eq.trans (World.drewN_drewN _ _ _) (congrArg (World.drewN _) (Nat.add_assoc _ _ _))⟩); have q34 : (t164 : Int) ≤ ((l0.length : Int) : Int) := of_decide_eq_true pwb_; obtain ⟨i034, hi034, _, hsz34, _⟩ := info_parts info41; have hroom34 : l0.length ≤ c0 := HC0.out; have hC34 : Kd.C k41 _ (some ad155) l0.length l0 := HR0.out; have hcut34 := cut_to (P := Try.prog) 23 41 .i64 Try.underlying23 hi034 (some ad155) l0.length c0 t164 (of_decide_eq_true pwb_) q34 hroom34; have hr34 := Kd.C_take (m := (t164 : Int).toNat) hC34 (by omega); have hy34 : y165.length = (t164 : Int).toNat := (by rw [Ny165.out, List.length_take]; omega); rw [← Ny165.out] at hr34; rw [← hy34] at hcut34; have HR168 := Aside0.mk hr34; have HC168 := Aside0.mk (show y165.length ≤ c0 from by omega); clear hr34 hC34 hroom34 hi034 hsz34; have KY34 := Aside0.mk hy34; clear hy34; replace q34 := eq_true q34) | (go_at_call 59; (with_reducible refine (ih k (by omega) _ _ y165 a1 false _ ?side1 ?side2 A19.out).mono ?_); (case side1 => repeat (first | exact HR168.out | (with_reducible refine Kd.C_alloc ?_ _) | (with_reducible refine Kd.C_drewN ?_ _) | (with_reducible refine Kd.C_drew ?_))); (case side2 => exact HC168.out); rintro e w' ⟨rfl, ⟨nd, rfl⟩⟩; (try first | exact ⟨rfl, _, World.drewN_drewN _ _ _⟩ | exact ⟨rfl, _, Eq.trans (World.drewN_drewN _ _ _) (congrArg (World.drewN _) (Nat.add_assoc _ _ _))⟩); have q35 : ((ji3) : Int) ≤ ((l0.length : Int) : Int) := of_decide_eq_true pwb_; obtain ⟨i035, hi035, _, hsz35, _⟩ := info_parts info41; have hroom35 : l0.length ≤ c0 := HC0.out; have hC35 : Kd.C k41 _ (some ad155) l0.length l0 := HR0.out; have ql35 : (t164 : Int) ≤ ((ji3) : Int) := of_decide_eq_true pwb_; have q035 : (0 : Int) ≤ (t164 : Int) := of_decide_eq_true pwb_; have hcut35 := cut_mid (P := Try.prog) 23 41 .i64 .i64 Try.underlying23 hi035 2 hsz35 (some ad155) l0.length c0 t164 (ji3) q035 ql35 q35 hroom35; have hr35 := Kd.C_mid (lo := (t164 : Int).toNat) (hi := ((ji3) : Int).toNat) (c := c0) hC35 (by omega) (by omega) hroom35; obtain ⟨A35, hA35⟩ : ∃ A1, A1 = (if c0 = (t164 : Int).toNat then (some ad155) else ((some ad155) : Option Addr).map (·.add ((t164 : Int).toNat * 2))) := ⟨_, rfl⟩; obtain ⟨c35, hc35⟩ : ∃ c1, c1 = c0 - (t164 : Int).toNat := ⟨_, rfl⟩; have hy35 : y170.length = ((ji3) : Int).toNat - (t164 : Int).toNat := (by rw [Ny170.out, List.length_drop, List.length_take] <;> omega); rw [show ((l0).take ((ji3) : Int).toNat).drop (t164 : Int).toNat = y170 from Ny170.out.symm] at hr35; replace hr35 : Kd.C k41 _ A35 y170.length y170 := (by rw [hA35]; exact hr35); rw [← hy35, ← hA35, ← hc35] at hcut35; have HR173 := Aside0.mk hr35; have HC173 := Aside0.mk (show y170.length ≤ c35 from by rw [hy35, hc35]; exact Nat.sub_le_sub_right (Nat.le_trans (by omega) hroom35) _); clear hr35 hC35 hroom35 hi035 hsz35 hc35; have KY35 := Aside0.mk hy35; have KA35 := Aside0.mk hA35; clear hy35 hA35; replace q35 := eq_true q35) | (go_at_call 59; (with_reducible refine (ih k (by omega) _ _ y170 a1 t174 _ ?side1 ?side2 A23.out).mono ?_); (case side1 => repeat (first | exact HR173.out | (with_reducible refine Kd.C_alloc ?_ _) | (with_reducible refine Kd.C_drewN ?_ _) | (with_reducible refine Kd.C_drew ?_))); (case side2 => exact HC173.out); rintro e w' ⟨rfl, ⟨nd, rfl⟩⟩; (try first | exact ⟨rfl, _, World.drewN_drewN _ _ _⟩ | exact ⟨rfl, _, Eq.trans (World.drewN_drewN _ _ _) (congrArg (World.drewN _) (Nat.add_assoc _ _ _))⟩); have p175 : 0 ≤ ((ji3) : Int) := of_decide_eq_true pwb_; have q175 : (ji3) < (l0.length : Int) := of_decide_eq_true pwb_; obtain ⟨ad175, e175, hx175_0, hx175_1⟩ := at_T41 HR0.out (ji3) p175 q175; obtain rfl : ad155 = ad175 := (by injection e175); replace p175 := eq_true p175; replace q175 := eq_true q175))
             repeat (go_quiet (first | (go_at_call 68; (with_reducible refine (spec_l2Starts.calls k _ _ l0 (wrap64 ((ji3) - 1)) t164 _ ?side1 ?side2 A16.out).mono ?_); (case side1 => repeat (first | exact HR0.out | (with_reducible refine Kd.C_alloc ?_ _) | (with_reducible refine Kd.C_drewN ?_ _) | (with_reducible refine Kd.C_drew ?_))); (case side2 => exact HC0.out); rintro e w' ⟨rfl, ⟨nd, rfl⟩⟩; (try first | exact ⟨rfl, _, World.drewN_drewN _ _ _⟩ | exact ⟨rfl, _, Eq.trans (World.drewN_drewN _ _ _) (congrArg (World.drewN _) (Nat.add_assoc _ _ _))⟩); have q34 : (t164 : Int) ≤ ((l0.length : Int) : Int) := of_decide_eq_true pwb_; obtain ⟨i034, hi034, _, hsz34, _⟩ := info_parts info41; have hroom34 : l0.length ≤ c0 := HC0.out; have hC34 : Kd.C k41 _ (some ad155) l0.length l0 := HR0.out; have hcut34 := cut_to (P := Try.prog) 23 41 .i64 Try.underlying23 hi034 (some ad155) l0.length c0 t164 (of_decide_eq_true pwb_) q34 hroom34; have hr34 := Kd.C_take (m := (t164 : Int).toNat) hC34 (by omega); have hy34 : y165.length = (t164 : Int).toNat := (by rw [Ny165.out, List.length_take]; omega); rw [← Ny165.out] at hr34; rw [← hy34] at hcut34; have HR168 := Aside0.mk hr34; have HC168 := Aside0.mk (show y165.length ≤ c0 from by omega); clear hr34 hC34 hroom34 hi034 hsz34; have KY34 := Aside0.mk hy34; clear hy34; replace q34 := eq_true q34) | (go_at_call 59; (with_reducible refine (ih k (by omega) _ _ y165 a1 false _ ?side1 ?side2 A19.out).mono ?_); (case side1 => repeat (first | exact HR168.out | (with_reducible refine Kd.C_alloc ?_ _) | (with_reducible refine Kd.C_drewN ?_ _) | (with_reducible refine Kd.C_drew ?_))); (case side2 => exact HC168.out); rintro e w' ⟨rfl, ⟨nd, rfl⟩⟩; (try first | exact ⟨rfl, _, World.drewN_drewN _ _ _⟩ | exact ⟨rfl, _, Eq.trans (World.drewN_drewN _ _ _) (congrArg (World.drewN _) (Nat.add_assoc _ _ _))⟩); have q35 : ((ji3) : Int) ≤ ((l0.length : Int) : Int) := of_decide_eq_true pwb_; obtain ⟨i035, hi035, _, hsz35, _⟩ := info_parts info41; have hroom35 : l0.length ≤ c0 := HC0.out; have hC35 : Kd.C k41 _ (some ad155) l0.length l0 := HR0.out; have ql35 : (t164 : Int) ≤ ((ji3) : Int) := of_decide_eq_true pwb_; have q035 : (0 : Int) ≤ (t164 : Int) := of_decide_eq_true pwb_; have hcut35 := cut_mid (P := Try.prog) 23 41 .i64 .i64 Try.underlying23 hi035 2 hsz35 (some ad155) l0.length c0 t164 (ji3) q035 ql35 q35 hroom35; have hr35 := Kd.C_mid (lo := (t164 : Int).toNat) (hi := ((ji3) : Int).toNat) (c := c0) hC35 (by omega) (by omega) hroom35; obtain ⟨A35, hA35⟩ : ∃ A1, A1 = (if c0 = (t164 : Int).toNat then (some ad155) else ((some ad155) : Option Addr).map (·.add ((t164 : Int).toNat * 2))) := ⟨_, rfl⟩; obtain ⟨c35, hc35⟩ : ∃ c1, c1 = c0 - (t164 : Int).toNat := ⟨_, rfl⟩; have hy35 : y170.length = ((ji3) : Int).toNat - (t164 : Int).toNat := (by rw [Ny170.out, List.length_drop, List.length_take] <;> omega); rw [show ((l0).take ((ji3) : Int).toNat).drop (t164 : Int).toNat = y170 from Ny170.out.symm] at hr35; replace hr35 : Kd.C k41 _ A35 y170.length y170 := (by rw [hA35]; exact hr35); rw [← hy35, ← hA35, ← hc35] at hcut35; have HR173 := Aside0.mk hr35; have HC173 := Aside0.mk (show y170.length ≤ c35 from by rw [hy35, hc35]; exact Nat.sub_le_sub_right (Nat.le_trans (by omega) hroom35) _); clear hr35 hC35 hroom35 hi035 hsz35 hc35; have KY35 := Aside0.mk hy35; have KA35 := Aside0.mk hA35; clear hy35 hA35; replace q35 := eq_true q35) | (go_at_call 59; (with_reducible refine (ih k (by omega) _ _ y170 a1 t174 _ ?side1 ?side2 A23.out).mono ?_); (case side1 => repeat (first | exact HR173.out | (with_reducible refine Kd.C_alloc ?_ _) | (with_reducible refine Kd.C_drewN ?_ _) | (with_reducible refine Kd.C_drew ?_))); (case side2 => exact HC173.out); rintro e w' ⟨rfl, ⟨nd, rfl⟩⟩; (try first | exact ⟨rfl, _, World.drewN_drewN _ _ _⟩ | exact ⟨rfl, _, Eq.trans (World.drewN_drewN _ _ _) (congrArg (World.drewN _) (Nat.add_assoc _ _ _))⟩); have p175 : 0 ≤ ((ji3) : Int) := of_decide_eq_true pwb_; have q175 : (ji3) < (l0.length : Int) := of_decide_eq_true pwb_; obtain ⟨ad175, e175, hx175_0, hx175_1⟩ := at_T41 HR0.out (ji3) p175 q175; obtain rfl : ad155 = ad175 := (by injection e175); replace p175 := eq_true p175; replace q175 := eq_true q175)); try go_wp2_with (first | (go_at_call 68; (with_reducible refine (spec_l2Starts.calls k _ _ l0 (wrap64 ((ji3) - 1)) t164 _ ?side1 ?side2 A16.out).mono ?_); (case side1 => repeat (first | exact HR0.out | (with_reducible refine Kd.C_alloc ?_ _) | (with_reducible refine Kd.C_drewN ?_ _) | (with_reducible refine Kd.C_drew ?_))); (case side2 => exact HC0.out); rintro e w' ⟨rfl, ⟨nd, rfl⟩⟩; (try first | exact ⟨rfl, _, World.drewN_drewN _ _ _⟩ | exact ⟨rfl, _, Eq.trans (World.drewN_drewN _ _ _) (congrArg (World.drewN _) (Nat.add_assoc _ _ _))⟩); have q34 : (t164 : Int) ≤ ((l0.length : Int) : Int) := of_decide_eq_true pwb_; obtain ⟨i034, hi034, _, hsz34, _⟩ := info_parts info41; have hroom34 : l0.length ≤ c0 := HC0.out; have hC34 : Kd.C k41 _ (some ad155) l0.length l0 := HR0.out; have hcut34 := cut_to (P := Try.prog) 23 41 .i64 Try.underlying23 hi034 (some ad155) l0.length c0 t164 (of_decide_eq_true pwb_) q34 hroom34; have hr34 := Kd.C_take (m := (t164 : Int).toNat) hC34 (by omega); have hy34 : y165.length = (t164 : Int).toNat := (by rw [Ny165.out, List.length_take]; omega); rw [← Ny165.out] at hr34; rw [← hy34] at hcut34; have HR168 := Aside0.mk hr34; have HC168 := Aside0.mk (show y165.length ≤ c0 from by omega); clear hr34 hC34 hroom34 hi034 hsz34; have KY34 := Aside0.mk hy34; clear hy34; replace q34 := eq_true q34) | (go_at_call 59; (with_reducible refine (ih k (by omega) _ _ y165 a1 false _ ?side1 ?side2 A19.out).mono ?_); (case side1 => repeat (first | exact HR168.out | (with_reducible refine Kd.C_alloc ?_ _) | (with_reducible refine Kd.C_drewN ?_ _) | (with_reducible refine Kd.C_drew ?_))); (case side2 => exact HC168.out); rintro e w' ⟨rfl, ⟨nd, rfl⟩⟩; (try first | exact ⟨rfl, _, World.drewN_drewN _ _ _⟩ | exact ⟨rfl, _, Eq.trans (World.drewN_drewN _ _ _) (congrArg (World.drewN _) (Nat.add_assoc _ _ _))⟩); have q35 : ((ji3) : Int) ≤ ((l0.length : Int) : Int) := of_decide_eq_true pwb_; obtain ⟨i035, hi035, _, hsz35, _⟩ := info_parts info41; have hroom35 : l0.length ≤ c0 := HC0.out; have hC35 : Kd.C k41 _ (some ad155) l0.length l0 := HR0.out; have ql35 : (t164 : Int) ≤ ((ji3) : Int) := of_decide_eq_true pwb_; have q035 : (0 : Int) ≤ (t164 : Int) := of_decide_eq_true pwb_; have hcut35 := cut_mid (P := Try.prog) 23 41 .i64 .i64 Try.underlying23 hi035 2 hsz35 (some ad155) l0.length c0 t164 (ji3) q035 ql35 q35 hroom35; have hr35 := Kd.C_mid (lo := (t164 : Int).toNat) (hi := ((ji3) : Int).toNat) (c := c0) hC35 (by omega) (by omega) hroom35; obtain ⟨A35, hA35⟩ : ∃ A1, A1 = (if c0 = (t164 : Int).toNat then (some ad155) else ((some ad155) : Option Addr).map (·.add ((t164 : Int).toNat * 2))) := ⟨_, rfl⟩; obtain ⟨c35, hc35⟩ : ∃ c1, c1 = c0 - (t164 : Int).toNat := ⟨_, rfl⟩; have hy35 : y170.length = ((ji3) : Int).toNat - (t164 : Int).toNat := (by rw [Ny170.out, List.length_drop, List.length_take] <;> omega); rw [show ((l0).take ((ji3) : Int).toNat).drop (t164 : Int).toNat = y170 from Ny170.out.symm] at hr35; replace hr35 : Kd.C k41 _ A35 y170.length y170 := (by rw [hA35]; exact hr35); rw [← hy35, ← hA35, ← hc35] at hcut35; have HR173 := Aside0.mk hr35; have HC173 := Aside0.mk (show y170.length ≤ c35 from by rw [hy35, hc35]; exact Nat.sub_le_sub_right (Nat.le_trans (by omega) hroom35) _); clear hr35 hC35 hroom35 hi035 hsz35 hc35; have KY35 := Aside0.mk hy35; have KA35 := Aside0.mk hA35; clear hy35 hA35; replace q35 := eq_true q35) | (go_at_call 59; (with_reducible refine (ih k (by omega) _ _ y170 a1 t174 _ ?side1 ?side2 A23.out).mono ?_); (case side1 => repeat (first | exact HR173.out | (with_reducible refine Kd.C_alloc ?_ _) | (with_reducible refine Kd.C_drewN ?_ _) | (with_reducible refine Kd.C_drew ?_))); (case side2 => exact HC173.out); rintro e w' ⟨rfl, ⟨nd, rfl⟩⟩; (try first | exact ⟨rfl, _, World.drewN_drewN _ _ _⟩ | exact ⟨rfl, _, Eq.trans (World.drewN_drewN _ _ _) (congrArg (World.drewN _) (Nat.add_assoc _ _ _))⟩); have p175 : 0 ≤ ((ji3) : Int) := of_decide_eq_true pwb_; have q175 : (ji3) < (l0.length : Int) := of_decide_eq_true pwb_; obtain ⟨ad175, e175, hx175_0, hx175_1⟩ := at_T41 HR0.out (ji3) p175 q175; obtain rfl : ad155 = ad175 := (by injection e175); replace p175 := eq_true p175; replace q175 := eq_true q175)))
             go_ret
             exact ⟨by first | rfl | (simp; done) | (simp only [← hji3] <;> (first | rfl | simp)) | (simp [*]; done), by repeat (first | exact Drawn0.refl _ | apply Drawn0.step)⟩
           ·rw [if_neg c30] at H
            have c30b0 : (((rd_T41 l0 (ji3)).f0) == 4) = false := beq_eq_false_iff_ne.mpr c30
            have c30b1 : (((rd_T41 l0 (ji3)).f0) != 4) = true := bne_iff_ne.mpr c30
            obtain rfl := Option.some.inj H
            have p155 : 0 ≤ ((ji3) : Int) := of_decide_eq_true pwb_
            have q155 : (ji3) < (l0.length : Int) := of_decide_eq_true pwb_
            obtain ⟨ad155, e155, hx155_0, hx155_1⟩ := at_T41 HR0.out (ji3) p155 q155
            cases e155
            replace p155 := eq_true p155
            replace q155 := eq_true q155
            go_enter Try.func59, Try.ntmps59
            go_wp2_with (first | (go_at_call 68; (with_reducible refine (spec_l2Starts.calls k _ _ l0 (wrap64 ((ji3) - 1)) t164 _ ?side1 ?side2 A16.out).mono ?_); (case side1 => repeat (first | exact HR0.out | (with_reducible refine Kd.C_alloc ?_ _) | (with_reducible refine Kd.C_drewN ?_ _) | (with_reducible refine Kd.C_drew ?_))); (case side2 => exact HC0.out); rintro e w' ⟨rfl, ⟨nd, rfl⟩⟩; (try first | exact ⟨rfl, _, World.drewN_drewN _ _ _⟩ | exact ⟨rfl, _, Eq.trans (World.drewN_drewN _ _ _) (congrArg (World.drewN _) (Nat.add_assoc _ _ _))⟩); have q36 : (t164 : Int) ≤ ((l0.length : Int) : Int) := of_decide_eq_true pwb_; obtain ⟨i036, hi036, _, hsz36, _⟩ := info_parts info41; have hroom36 : l0.length ≤ c0 := HC0.out; have hC36 : Kd.C k41 _ (some ad155) l0.length l0 := HR0.out; have hcut36 := cut_to (P := Try.prog) 23 41 .i64 Try.underlying23 hi036 (some ad155) l0.length c0 t164 (of_decide_eq_true pwb_) q36 hroom36; have hr36 := Kd.C_take (m := (t164 : Int).toNat) hC36 (by omega); have hy36 : y165.length = (t164 : Int).toNat := (by rw [Ny165.out, List.length_take]; omega); rw [← Ny165.out] at hr36; rw [← hy36] at hcut36; have HR168 := Aside0.mk hr36; have HC168 := Aside0.mk (show y165.length ≤ c0 from by omega); clear hr36 hC36 hroom36 hi036 hsz36; have KY36 := Aside0.mk hy36; clear hy36; replace q36 := eq_true q36) | (go_at_call 59; (with_reducible refine (ih k (by omega) _ _ y165 a1 t169 _ ?side1 ?side2 A19.out).mono ?_); (case side1 => repeat (first | exact HR168.out | (with_reducible refine Kd.C_alloc ?_ _) | (with_reducible refine Kd.C_drewN ?_ _) | (with_reducible refine Kd.C_drew ?_))); (case side2 => exact HC168.out); rintro e w' ⟨rfl, ⟨nd, rfl⟩⟩; (try first | exact ⟨rfl, _, World.drewN_drewN _ _ _⟩ | exact ⟨rfl, _, Eq.trans (World.drewN_drewN _ _ _) (congrArg (World.drewN _) (Nat.add_assoc _ _ _))⟩); have q37 : ((ji3) : Int) ≤ ((l0.length : Int) : Int) := of_decide_eq_true pwb_; obtain ⟨i037, hi037, _, hsz37, _⟩ := info_parts info41; have hroom37 : l0.length ≤ c0 := HC0.out; have hC37 : Kd.C k41 _ (some ad155) l0.length l0 := HR0.out; have ql37 : (t164 : Int) ≤ ((ji3) : Int) := of_decide_eq_true pwb_; have q037 : (0 : Int) ≤ (t164 : Int) := of_decide_eq_true pwb_; have hcut37 := cut_mid (P := Try.prog) 23 41 .i64 .i64 Try.underlying23 hi037 2 hsz37 (some ad155) l0.length c0 t164 (ji3) q037 ql37 q37 hroom37; have hr37 := Kd.C_mid (lo := (t164 : Int).toNat) (hi := ((ji3) : Int).toNat) (c := c0) hC37 (by omega) (by omega) hroom37; obtain ⟨A37, hA37⟩ : ∃ A1, A1 = (if c0 = (t164 : Int).toNat then (some ad155) else ((some ad155) : Option Addr).map (·.add ((t164 : Int).toNat * 2))) := ⟨_, rfl⟩; obtain ⟨c37, hc37⟩ : ∃ c1, c1 = c0 - (t164 : Int).toNat := ⟨_, rfl⟩; have hy37 : y170.length = ((ji3) : Int).toNat - (t164 : Int).toNat := (by rw [Ny170.out, List.length_drop, List.length_take] <;> omega); rw [show ((l0).take ((ji3) : Int).toNat).drop (t164 : Int).toNat = y170 from Ny170.out.symm] at hr37; replace hr37 : Kd.C k41 _ A37 y170.length y170 := (by rw [hA37]; exact hr37); rw [← hy37, ← hA37, ← hc37] at hcut37; have HR173 := Aside0.mk hr37; have HC173 := Aside0.mk (show y170.length ≤ c37 from by rw [hy37, hc37]; exact Nat.sub_le_sub_right (Nat.le_trans (by omega) hroom37) _); clear hr37 hC37 hroom37 hi037 hsz37 hc37; have KY37 := Aside0.mk hy37; have KA37 := Aside0.mk hA37; clear hy37 hA37; replace q37 := eq_true q37) | (go_at_call 59; (with_reducible refine (ih k (by omega) _ _ y170 a1 t174 _ ?side1 ?side2 A23.out).mono ?_); (case side1 => repeat (first | exact HR173.out | (with_reducible refine Kd.C_alloc ?_ _) | (with_reducible refine Kd.C_drewN ?_ _) | (with_reducible refine Kd.C_drew ?_))); (case side2 => exact HC173.out); rintro e w' ⟨rfl, ⟨nd, rfl⟩⟩; (try first | exact ⟨rfl, _, World.drewN_drewN _ _ _⟩ | exact ⟨rfl, _, Eq.trans (World.drewN_drewN _ _ _) (congrArg (World.drewN _) (Nat.add_assoc _ _ _))⟩); have p175 : 0 ≤ ((ji3) : Int) := of_decide_eq_true pwb_; have q175 : (ji3) < (l0.length : Int) := of_decide_eq_true pwb_; obtain ⟨ad175, e175, hx175_0, hx175_1⟩ := at_T41 HR0.out (ji3) p175 q175; obtain rfl : ad155 = ad175 := (by injection e175); replace p175 := eq_true p175; replace q175 := eq_true q175))
            repeat (go_quiet (first | (go_at_call 68; (with_reducible refine (spec_l2Starts.calls k _ _ l0 (wrap64 ((ji3) - 1)) t164 _ ?side1 ?side2 A16.out).mono ?_); (case side1 => repeat (first | exact HR0.out | (with_reducible refine Kd.C_alloc ?_ _) | (with_reducible refine Kd.C_drewN ?_ _) | (with_reducible refine Kd.C_drew ?_))); (case side2 => exact HC0.out); rintro e w' ⟨rfl, ⟨nd, rfl⟩⟩; (try first | exact ⟨rfl, _, World.drewN_drewN _ _ _⟩ | exact ⟨rfl, _, Eq.trans (World.drewN_drewN _ _ _) (congrArg (World.drewN _) (Nat.add_assoc _ _ _))⟩); have q36 : (t164 : Int) ≤ ((l0.length : Int) : Int) := of_decide_eq_true pwb_; obtain ⟨i036, hi036, _, hsz36, _⟩ := info_parts info41; have hroom36 : l0.length ≤ c0 := HC0.out; have hC36 : Kd.C k41 _ (some ad155) l0.length l0 := HR0.out; have hcut36 := cut_to (P := Try.prog) 23 41 .i64 Try.underlying23 hi036 (some ad155) l0.length c0 t164 (of_decide_eq_true pwb_) q36 hroom36; have hr36 := Kd.C_take (m := (t164 : Int).toNat) hC36 (by omega); have hy36 : y165.length = (t164 : Int).toNat := (by rw [Ny165.out, List.length_take]; omega); rw [← Ny165.out] at hr36; rw [← hy36] at hcut36; have HR168 := Aside0.mk hr36; have HC168 := Aside0.mk (show y165.length ≤ c0 from by omega); clear hr36 hC36 hroom36 hi036 hsz36; have KY36 := Aside0.mk hy36; clear hy36; replace q36 := eq_true q36) | (go_at_call 59; (with_reducible refine (ih k (by omega) _ _ y165 a1 t169 _ ?side1 ?side2 A19.out).mono ?_); (case side1 => repeat (first | exact HR168.out | (with_reducible refine Kd.C_alloc ?_ _) | (with_reducible refine Kd.C_drewN ?_ _) | (with_reducible refine Kd.C_drew ?_))); (case side2 => exact HC168.out); rintro e w' ⟨rfl, ⟨nd, rfl⟩⟩; (try first | exact ⟨rfl, _, World.drewN_drewN _ _ _⟩ | exact ⟨rfl, _, Eq.trans (World.drewN_drewN _ _ _) (congrArg (World.drewN _) (Nat.add_assoc _ _ _))⟩); have q37 : ((ji3) : Int) ≤ ((l0.length : Int) : Int) := of_decide_eq_true pwb_; obtain ⟨i037, hi037, _, hsz37, _⟩ := info_parts info41; have hroom37 : l0.length ≤ c0 := HC0.out; have hC37 : Kd.C k41 _ (some ad155) l0.length l0 := HR0.out; have ql37 : (t164 : Int) ≤ ((ji3) : Int) := of_decide_eq_true pwb_; have q037 : (0 : Int) ≤ (t164 : Int) := of_decide_eq_true pwb_; have hcut37 := cut_mid (P := Try.prog) 23 41 .i64 .i64 Try.underlying23 hi037 2 hsz37 (some ad155) l0.length c0 t164 (ji3) q037 ql37 q37 hroom37; have hr37 := Kd.C_mid (lo := (t164 : Int).toNat) (hi := ((ji3) : Int).toNat) (c := c0) hC37 (by omega) (by omega) hroom37; obtain ⟨A37, hA37⟩ : ∃ A1, A1 = (if c0 = (t164 : Int).toNat then (some ad155) else ((some ad155) : Option Addr).map (·.add ((t164 : Int).toNat * 2))) := ⟨_, rfl⟩; obtain ⟨c37, hc37⟩ : ∃ c1, c1 = c0 - (t164 : Int).toNat := ⟨_, rfl⟩; have hy37 : y170.length = ((ji3) : Int).toNat - (t164 : Int).toNat := (by rw [Ny170.out, List.length_drop, List.length_take] <;> omega); rw [show ((l0).take ((ji3) : Int).toNat).drop (t164 : Int).toNat = y170 from Ny170.out.symm] at hr37; replace hr37 : Kd.C k41 _ A37 y170.length y170 := (by rw [hA37]; exact hr37); rw [← hy37, ← hA37, ← hc37] at hcut37; have HR173 := Aside0.mk hr37; have HC173 := Aside0.mk (show y170.length ≤ c37 from by rw [hy37, hc37]; exact Nat.sub_le_sub_right (Nat.le_trans (by omega) hroom37) _); clear hr37 hC37 hroom37 hi037 hsz37 hc37; have KY37 := Aside0.mk hy37; have KA37 := Aside0.mk hA37; clear hy37 hA37; replace q37 := eq_true q37) | (go_at_call 59; (with_reducible refine (ih k (by omega) _ _ y170 a1 t174 _ ?side1 ?side2 A23.out).mono ?_); (case side1 => repeat (first | exact HR173.out | (with_reducible refine Kd.C_alloc ?_ _) | (with_reducible refine Kd.C_drewN ?_ _) | (with_reducible refine Kd.C_drew ?_))); (case side2 => exact HC173.out); rintro e w' ⟨rfl, ⟨nd, rfl⟩⟩; (try first | exact ⟨rfl, _, World.drewN_drewN _ _ _⟩ | exact ⟨rfl, _, Eq.trans (World.drewN_drewN _ _ _) (congrArg (World.drewN _) (Nat.add_assoc _ _ _))⟩); have p175 : 0 ≤ ((ji3) : Int) := of_decide_eq_true pwb_; have q175 : (ji3) < (l0.length : Int) := of_decide_eq_true pwb_; obtain ⟨ad175, e175, hx175_0, hx175_1⟩ := at_T41 HR0.out (ji3) p175 q175; obtain rfl : ad155 = ad175 := (by injection e175); replace p175 := eq_true p175; replace q175 := eq_true q175)); try go_wp2_with (first | (go_at_call 68; (with_reducible refine (spec_l2Starts.calls k _ _ l0 (wrap64 ((ji3) - 1)) t164 _ ?side1 ?side2 A16.out).mono ?_); (case side1 => repeat (first | exact HR0.out | (with_reducible refine Kd.C_alloc ?_ _) | (with_reducible refine Kd.C_drewN ?_ _) | (with_reducible refine Kd.C_drew ?_))); (case side2 => exact HC0.out); rintro e w' ⟨rfl, ⟨nd, rfl⟩⟩; (try first | exact ⟨rfl, _, World.drewN_drewN _ _ _⟩ | exact ⟨rfl, _, Eq.trans (World.drewN_drewN _ _ _) (congrArg (World.drewN _) (Nat.add_assoc _ _ _))⟩); have q36 : (t164 : Int) ≤ ((l0.length : Int) : Int) := of_decide_eq_true pwb_; obtain ⟨i036, hi036, _, hsz36, _⟩ := info_parts info41; have hroom36 : l0.length ≤ c0 := HC0.out; have hC36 : Kd.C k41 _ (some ad155) l0.length l0 := HR0.out; have hcut36 := cut_to (P := Try.prog) 23 41 .i64 Try.underlying23 hi036 (some ad155) l0.length c0 t164 (of_decide_eq_true pwb_) q36 hroom36; have hr36 := Kd.C_take (m := (t164 : Int).toNat) hC36 (by omega); have hy36 : y165.length = (t164 : Int).toNat := (by rw [Ny165.out, List.length_take]; omega); rw [← Ny165.out] at hr36; rw [← hy36] at hcut36; have HR168 := Aside0.mk hr36; have HC168 := Aside0.mk (show y165.length ≤ c0 from by omega); clear hr36 hC36 hroom36 hi036 hsz36; have KY36 := Aside0.mk hy36; clear hy36; replace q36 := eq_true q36) | (go_at_call 59; (with_reducible refine (ih k (by omega) _ _ y165 a1 t169 _ ?side1 ?side2 A19.out).mono ?_); (case side1 => repeat (first | exact HR168.out | (with_reducible refine Kd.C_alloc ?_ _) | (with_reducible refine Kd.C_drewN ?_ _) | (with_reducible refine Kd.C_drew ?_))); (case side2 => exact HC168.out); rintro e w' ⟨rfl, ⟨nd, rfl⟩⟩; (try first | exact ⟨rfl, _, World.drewN_drewN _ _ _⟩ | exact ⟨rfl, _, Eq.trans (World.drewN_drewN _ _ _) (congrArg (World.drewN _) (Nat.add_assoc _ _ _))⟩); have q37 : ((ji3) : Int) ≤ ((l0.length : Int) : Int) := of_decide_eq_true pwb_; obtain ⟨i037, hi037, _, hsz37, _⟩ := info_parts info41; have hroom37 : l0.length ≤ c0 := HC0.out; have hC37 : Kd.C k41 _ (some ad155) l0.length l0 := HR0.out; have ql37 : (t164 : Int) ≤ ((ji3) : Int) := of_decide_eq_true pwb_; have q037 : (0 : Int) ≤ (t164 : Int) := of_decide_eq_true pwb_; have hcut37 := cut_mid (P := Try.prog) 23 41 .i64 .i64 Try.underlying23 hi037 2 hsz37 (some ad155) l0.length c0 t164 (ji3) q037 ql37 q37 hroom37; have hr37 := Kd.C_mid (lo := (t164 : Int).toNat) (hi := ((ji3) : Int).toNat) (c := c0) hC37 (by omega) (by omega) hroom37; obtain ⟨A37, hA37⟩ : ∃ A1, A1 = (if c0 = (t164 : Int).toNat then (some ad155) else ((some ad155) : Option Addr).map (·.add ((t164 : Int).toNat * 2))) := ⟨_, rfl⟩; obtain ⟨c37, hc37⟩ : ∃ c1, c1 = c0 - (t164 : Int).toNat := ⟨_, rfl⟩; have hy37 : y170.length = ((ji3) : Int).toNat - (t164 : Int).toNat := (by rw [Ny170.out, List.length_drop, List.length_take] <;> omega); rw [show ((l0).take ((ji3) : Int).toNat).drop (t164 : Int).toNat = y170 from Ny170.out.symm] at hr37; replace hr37 : Kd.C k41 _ A37 y170.length y170 := (by rw [hA37]; exact hr37); rw [← hy37, ← hA37, ← hc37] at hcut37; have HR173 := Aside0.mk hr37; have HC173 := Aside0.mk (show y170.length ≤ c37 from by rw [hy37, hc37]; exact Nat.sub_le_sub_right (Nat.le_trans (by omega) hroom37) _); clear hr37 hC37 hroom37 hi037 hsz37 hc37; have KY37 := Aside0.mk hy37; have KA37 := Aside0.mk hA37; clear hy37 hA37; replace q37 := eq_true q37) | (go_at_call 59; (with_reducible refine (ih k (by omega) _ _ y170 a1 t174 _ ?side1 ?side2 A23.out).mono ?_); (case side1 => repeat (first | exact HR173.out | (with_reducible refine Kd.C_alloc ?_ _) | (with_reducible refine Kd.C_drewN ?_ _) | (with_reducible refine Kd.C_drew ?_))); (case side2 => exact HC173.out); rintro e w' ⟨rfl, ⟨nd, rfl⟩⟩; (try first | exact ⟨rfl, _, World.drewN_drewN _ _ _⟩ | exact ⟨rfl, _, Eq.trans (World.drewN_drewN _ _ _) (congrArg (World.drewN _) (Nat.add_assoc _ _ _))⟩); have p175 : 0 ≤ ((ji3) : Int) := of_decide_eq_true pwb_; have q175 : (ji3) < (l0.length : Int) := of_decide_eq_true pwb_; obtain ⟨ad175, e175, hx175_0, hx175_1⟩ := at_T41 HR0.out (ji3) p175 q175; obtain rfl : ad155 = ad175 := (by injection e175); replace p175 := eq_true p175; replace q175 := eq_true q175)))
            go_ret
            exact ⟨by first | rfl | (simp; done) | (simp only [← hji3] <;> (first | rfl | simp)) | (simp [*]; done), by repeat (first | exact Drawn0.refl _ | apply Drawn0.step)⟩
         ·rw [if_neg c22] at H
          exact absurd H (by simp)
        ·rw [if_neg c21] at H
         exact absurd H (by simp)
       ·rw [if_neg c18] at H
        exact absurd H (by simp)
      ·rw [if_neg c17] at H
       exact absurd H (by simp)
  ·rw [if_neg c5] at H
   exact absurd H (by simp)
 ·rw [if_neg c4] at H
  exact absurd H (by simp)

/-! ### spec_l3Table: function 54 -/
def spec_l3Table.l0 : Nat → Int → List (S41) → Int → Int → Option (Int)
 | 0, _, _, _, _ => none
 | k + 1, x0, x1, x5, x6 => if 0 ≤ x0 then (if x6 < (shl .i64 1 x0) then ((spec_l3Holds.f k x1 x6).bind fun t176 => (if t176 = true then (if 0 ≤ x6 then (spec_l3Table.l0 k x0 x1 (Go.bits .or .i64 x5 (shl .i64 1 x6)) (wrap64 (x6 + 1))) else (none)) else (spec_l3Table.l0 k x0 x1 x5 (wrap64 (x6 + 1))))) else (some x5)) else (none)
def spec_l3Table.f (k : Nat) (a0 : Int) (l1 : List (S41)) : Option (Int) := spec_l3Table.l0 k a0 l1 0 0
theorem spec_l3Table.mono_l : ∀ k, (∀ y0 y1 y2 y3, LeO (spec_l3Table.l0 k y0 y1 y2 y3) (spec_l3Table.l0 (k + 1) y0 y1 y2 y3))
 | 0 => fun _ _ _ _ r h => by simp [spec_l3Table.l0] at h
 | k + 1 => by
  have ih0 := spec_l3Table.mono_l k
  ·intro y0 y1 y2 y3
   unfold spec_l3Table.l0
   repeat' first
   | (with_reducible exact ih0 _ _ _ _)
   | (with_reducible exact spec_l3Holds.mono _ _ _)
   | (with_reducible exact LeO.refl _)
   | (with_reducible exact LeO.none _)
   | (with_reducible refine LeO.ite ?_ ?_)
   | (with_reducible refine LeO.bind ?_ (fun _ => ?_))
   | exact ih0 _ _ _ _
   | exact spec_l3Holds.mono _ _ _
   | exact LeO.none _
   | refine LeO.ite ?_ ?_
   | refine LeO.bind ?_ (fun _ => ?_)
theorem spec_l3Table.mono : ∀ a0 a1 k, LeO (spec_l3Table.f k a0 a1) (spec_l3Table.f (k + 1) a0 a1) := by
 intro a0 a1 k
 have ih0 := spec_l3Table.mono_l k
 unfold spec_l3Table.f
 repeat' first
   | (with_reducible exact ih0 _ _ _ _)
   | (with_reducible exact spec_l3Holds.mono _ _ _)
   | (with_reducible exact LeO.refl _)
   | (with_reducible exact LeO.none _)
   | (with_reducible refine LeO.ite ?_ ?_)
   | (with_reducible refine LeO.bind ?_ (fun _ => ?_))
   | exact ih0 _ _ _ _
   | exact spec_l3Holds.mono _ _ _
   | exact LeO.none _
   | refine LeO.ite ?_ ?_
   | refine LeO.bind ?_ (fun _ => ?_)
set_option maxHeartbeats 8000000 in
set_option maxRecDepth 100000 in
theorem spec_l3Table.calls (k : Nat) (a0 : Int) (A1 : Option Addr) (c1 : Nat) (l1 : List (S41)) (r : Int) (w : World) (hr1 : Kd.C k41 w A1 l1.length l1) (hc1 : l1.length ≤ c1) (h : spec_l3Table.f k a0 l1 = some r) :
  Calls Try.prog 54 #[.int .i64 a0, .slice A1 l1.length c1] w fun e w' => e = .returned (.int .i64 r) ∧ Drawn0 w w' := by
 have HR1 := Aside0.mk hr1
 have HC1 := Aside0.mk hc1
 clear hr1 hc1
 have H : (spec_l3Table.l0 k a0 l1 0 0) = some r := h
 clear h
 have H' := Aside0.mk H
 clear H
 go_enter Try.func54, Try.ntmps54
 go_wp2
 go_loopg [5, 6] k (fun kq v5 v6 w' => ∃ (x5_1 : Int) (x6_1 : Int), v5 = .int .i64 x5_1 ∧ v6 = .int .i64 x6_1 ∧ Aside0 (spec_l3Table.l0 kq a0 l1 x5_1 x6_1 = some r) ∧ Aside0 (kq ≤ k) ∧ Drawn0 w w')
 case atStart => exact ⟨(0), (0), pwa_, pwa_, H', ⟨Nat.le_refl _⟩, by repeat (first | exact Drawn0.refl _ | apply Drawn0.step)⟩
 case round =>
  clear H'
  try clear c1
  try clear p2
  obtain ⟨x5_1, x6_1, rfl, rfl, HA, HK1, ⟨m1, rfl⟩⟩ := hrel
  cases gk with
  | zero => exact absurd HA.out (by simp [spec_l3Table.l0])
  | succ k1 =>
   have H := HA.out
   clear HA
   simp only [spec_l3Table.l0] at H
   by_cases c3 : 0 ≤ a0
   ·rw [if_pos c3] at H
    have c3b0 := eq_true c3
    have c3b1 : decide (0 ≤ a0) = true := decide_eq_true c3
    clear c3
    obtain ⟨ji4, hji4⟩ : ∃ j_ : Int, (shl .i64 1 a0) = j_ := ⟨_, rfl⟩
    replace H : (if x6_1 < (ji4) then ((spec_l3Holds.f k1 l1 x6_1).bind fun t176 => (if t176 = true then (if 0 ≤ x6_1 then (spec_l3Table.l0 k1 a0 l1 (Go.bits .or .i64 x5_1 (shl .i64 1 x6_1)) (wrap64 (x6_1 + 1))) else (none)) else (spec_l3Table.l0 k1 a0 l1 x5_1 (wrap64 (x6_1 + 1))))) else (some x5_1)) = some r := by first | (rw [hji4] at H; exact H) | (simp only [hji4] at H ⊢; exact H)
    have hji4_ : (IntKind.i64.wrap (1 * 2 ^ min a0.toNat 64)) = ji4 := hji4
    have hji4z : a0 ≤ 64 → (IntKind.i64.wrap (1 * 2 ^ a0.toNat)) = ji4 := shl_small hji4
    have hji4u : (IntKind.i64.wrap (2 ^ min a0.toNat 64)) = ji4 := by have h_ := hji4_; rw [Int.one_mul] at h_; exact h_
    have hji4v : a0 ≤ 64 → (IntKind.i64.wrap (2 ^ a0.toNat)) = ji4 := fun hle_ => by have h_ := hji4z hle_; rw [Int.one_mul] at h_; exact h_
    have hji4y : (wrap64 (1 * 2 ^ min a0.toNat 64)) = ji4 := (i64_w _).symm.trans hji4_
    have hji4x : a0 ≤ 64 → (wrap64 (1 * 2 ^ a0.toNat)) = ji4 := fun h_ => (i64_w _).symm.trans (hji4z h_)
    by_cases c5 : x6_1 < (ji4)
    ·rw [if_pos c5] at H
     have c5b0 : decide (x6_1 < (ji4)) = true := decide_eq_true c5
     clear c5
     replace H := Option.bind_eq_some_iff.mp H
     obtain ⟨t176, A60, H⟩ := H
     replace H : (if t176 = true then (if 0 ≤ x6_1 then (spec_l3Table.l0 k1 a0 l1 (Go.bits .or .i64 x5_1 (shl .i64 1 x6_1)) (wrap64 (x6_1 + 1))) else (none)) else (spec_l3Table.l0 k1 a0 l1 x5_1 (wrap64 (x6_1 + 1)))) = some r := H
     have A6 := Aside0.mk A60
     clear A60
     by_cases c7 : t176 = true
     ·subst c7
      have H1 : (if 0 ≤ x6_1 then (spec_l3Table.l0 k1 a0 l1 (Go.bits .or .i64 x5_1 (shl .i64 1 x6_1)) (wrap64 (x6_1 + 1))) else (none)) = some r := by rw [if_pos rfl] at H; exact H
      clear H
      have H := H1
      clear H1
      by_cases c8 : 0 ≤ x6_1
      ·rw [if_pos c8] at H
       have c8b0 := eq_true c8
       have c8b1 : decide (0 ≤ x6_1) = true := decide_eq_true c8
       clear c8
       obtain ⟨ji9, hji9⟩ : ∃ j_ : Int, (shl .i64 1 x6_1) = j_ := ⟨_, rfl⟩
       replace H : (spec_l3Table.l0 k1 a0 l1 (Go.bits .or .i64 x5_1 (ji9)) (wrap64 (x6_1 + 1))) = some r := by first | (rw [hji9] at H; exact H) | (simp only [hji9] at H ⊢; exact H)
       (try rw [hji9] at A6)
       have hji9_ : (IntKind.i64.wrap (1 * 2 ^ min x6_1.toNat 64)) = ji9 := hji9
       have hji9z : x6_1 ≤ 64 → (IntKind.i64.wrap (1 * 2 ^ x6_1.toNat)) = ji9 := shl_small hji9
       have hji9u : (IntKind.i64.wrap (2 ^ min x6_1.toNat 64)) = ji9 := by have h_ := hji9_; rw [Int.one_mul] at h_; exact h_
       have hji9v : x6_1 ≤ 64 → (IntKind.i64.wrap (2 ^ x6_1.toNat)) = ji9 := fun hle_ => by have h_ := hji9z hle_; rw [Int.one_mul] at h_; exact h_
       have hji9y : (wrap64 (1 * 2 ^ min x6_1.toNat 64)) = ji9 := (i64_w _).symm.trans hji9_
       have hji9x : x6_1 ≤ 64 → (wrap64 (1 * 2 ^ x6_1.toNat)) = ji9 := fun h_ => (i64_w _).symm.trans (hji9z h_)
       have H' := Aside0.mk H
       clear H
       go_wp2_with (first | ((with_reducible refine gate_callee (f := 59) rfl ?_); refine goesL_ (some 15) rfl rfl Try.func59 (by kernel_rfl) rfl #[.slice A1 l1.length c1, .int .i64 x6_1] rfl pwi_ ?_; (with_reducible refine (spec_l3Holds.calls k1 _ _ l1 x6_1 true _ ?side1 ?side2 A6.out).mono ?_); (case side1 => repeat (first | exact HR1.out | (with_reducible refine Kd.C_alloc ?_ _) | (with_reducible refine Kd.C_drewN ?_ _) | (with_reducible refine Kd.C_drew ?_))); (case side2 => exact HC1.out); rintro e w' ⟨rfl, ⟨nd, rfl⟩⟩; refine ⟨_, rfl, ?_⟩))
       go_roundg k1
       case measure => have := HK1.out; omega
       case rel => exact ⟨(Go.bits .or .i64 x5_1 (ji9)), (wrap64 (x6_1 + 1)), (by first | rfl | (simp; done) | (simp only [← hji9] <;> (first | rfl | simp)) | (simp [*]; done)), pwa_, H', ⟨by have := HK1.out; omega⟩, by repeat (first | exact Drawn0.refl _ | apply Drawn0.step)⟩
      ·rw [if_neg c8] at H
       exact absurd H (by simp)
     ·replace c7 := Bool.eq_false_iff.mpr c7
      subst c7
      have H1 : (spec_l3Table.l0 k1 a0 l1 x5_1 (wrap64 (x6_1 + 1))) = some r := by rw [if_neg (show ¬ (false = true) by decide)] at H; exact H
      clear H
      have H := H1
      clear H1
      have H' := Aside0.mk H
      clear H
      go_wp2_with (first | ((with_reducible refine gate_callee (f := 59) rfl ?_); refine goesL_ (some 15) rfl rfl Try.func59 (by kernel_rfl) rfl #[.slice A1 l1.length c1, .int .i64 x6_1] rfl pwi_ ?_; (with_reducible refine (spec_l3Holds.calls k1 _ _ l1 x6_1 false _ ?side1 ?side2 A6.out).mono ?_); (case side1 => repeat (first | exact HR1.out | (with_reducible refine Kd.C_alloc ?_ _) | (with_reducible refine Kd.C_drewN ?_ _) | (with_reducible refine Kd.C_drew ?_))); (case side2 => exact HC1.out); rintro e w' ⟨rfl, ⟨nd, rfl⟩⟩; refine ⟨_, rfl, ?_⟩))
      go_roundg k1
      case measure => have := HK1.out; omega
      case rel => exact ⟨(x5_1), (wrap64 (x6_1 + 1)), pwa_, pwa_, H', ⟨by have := HK1.out; omega⟩, by repeat (first | exact Drawn0.refl _ | apply Drawn0.step)⟩
    ·rw [if_neg c5] at H
     have c5b0 : decide (x6_1 < (ji4)) = false := decide_eq_false c5
     clear c5
     obtain rfl := Option.some.inj H
     go_wp2
     go_ret
     exact ⟨by first | rfl | (simp; done) | (simp only [← hji4] <;> (first | rfl | simp)) | (simp [*]; done), by repeat (first | exact Drawn0.refl _ | apply Drawn0.step)⟩
   ·rw [if_neg c3] at H
    exact absurd H (by simp)

/-! ### spec_FollowsOk: function 41 -/
def spec_FollowsOk.f (k : Nat) (a0 : Int) (l1 : List (S41)) (l2 : List (S41)) : Option (Bool) := (spec_TermOk.f k a0 l1).bind fun t177 => (if t177 = true then ((spec_TermOk.f k a0 l2).bind fun t178 => (if t178 = true then ((spec_l3Table.f k a0 l1).bind fun t179 => ((spec_l3Table.f k a0 l2).bind fun t180 => (some ((Go.bits .andNot .i64 t179 t180) == 0)))) else (some false))) else (some false))
theorem spec_FollowsOk.mono : ∀ a0 a1 a2 k, LeO (spec_FollowsOk.f k a0 a1 a2) (spec_FollowsOk.f (k + 1) a0 a1 a2) := by
 intro a0 a1 a2 k
 unfold spec_FollowsOk.f
 repeat' first
   | (with_reducible exact spec_TermOk.mono _ _ _)
   | (with_reducible exact spec_l3Table.mono _ _ _)
   | (with_reducible exact LeO.refl _)
   | (with_reducible exact LeO.none _)
   | (with_reducible refine LeO.ite ?_ ?_)
   | (with_reducible refine LeO.bind ?_ (fun _ => ?_))
   | exact spec_TermOk.mono _ _ _
   | exact spec_l3Table.mono _ _ _
   | exact LeO.none _
   | refine LeO.ite ?_ ?_
   | refine LeO.bind ?_ (fun _ => ?_)
set_option maxHeartbeats 8000000 in
set_option maxRecDepth 100000 in
theorem spec_FollowsOk.calls (k : Nat) (a0 : Int) (A1 : Option Addr) (c1 : Nat) (l1 : List (S41)) (A2 : Option Addr) (c2 : Nat) (l2 : List (S41)) (r : Bool) (w : World) (hr1 : Kd.C k41 w A1 l1.length l1) (hc1 : l1.length ≤ c1) (hr2 : Kd.C k41 w A2 l2.length l2) (hc2 : l2.length ≤ c2) (h : spec_FollowsOk.f k a0 l1 l2 = some r) :
  Calls Try.prog 41 #[.int .i64 a0, .slice A1 l1.length c1, .slice A2 l2.length c2] w fun e w' => e = .returned (.bool r) ∧ Drawn0 w w' := by
 have HR1 := Aside0.mk hr1
 have HC1 := Aside0.mk hc1
 clear hr1 hc1
 have HR2 := Aside0.mk hr2
 have HC2 := Aside0.mk hc2
 clear hr2 hc2
 have H : ((spec_TermOk.f k a0 l1).bind fun t177 => (if t177 = true then ((spec_TermOk.f k a0 l2).bind fun t178 => (if t178 = true then ((spec_l3Table.f k a0 l1).bind fun t179 => ((spec_l3Table.f k a0 l2).bind fun t180 => (some ((Go.bits .andNot .i64 t179 t180) == 0)))) else (some false))) else (some false))) = some r := h
 clear h
 replace H := Option.bind_eq_some_iff.mp H
 obtain ⟨t177, A40, H⟩ := H
 replace H : (if t177 = true then ((spec_TermOk.f k a0 l2).bind fun t178 => (if t178 = true then ((spec_l3Table.f k a0 l1).bind fun t179 => ((spec_l3Table.f k a0 l2).bind fun t180 => (some ((Go.bits .andNot .i64 t179 t180) == 0)))) else (some false))) else (some false)) = some r := H
 have A4 := Aside0.mk A40
 clear A40
 by_cases c5 : t177 = true
 ·subst c5
  have H1 : ((spec_TermOk.f k a0 l2).bind fun t178 => (if t178 = true then ((spec_l3Table.f k a0 l1).bind fun t179 => ((spec_l3Table.f k a0 l2).bind fun t180 => (some ((Go.bits .andNot .i64 t179 t180) == 0)))) else (some false))) = some r := by rw [if_pos rfl] at H; exact H
  clear H
  have H := H1
  clear H1
  replace H := Option.bind_eq_some_iff.mp H
  obtain ⟨t178, A60, H⟩ := H
  replace H : (if t178 = true then ((spec_l3Table.f k a0 l1).bind fun t179 => ((spec_l3Table.f k a0 l2).bind fun t180 => (some ((Go.bits .andNot .i64 t179 t180) == 0)))) else (some false)) = some r := H
  have A6 := Aside0.mk A60
  clear A60
  by_cases c7 : t178 = true
  ·subst c7
   have H1 : ((spec_l3Table.f k a0 l1).bind fun t179 => ((spec_l3Table.f k a0 l2).bind fun t180 => (some ((Go.bits .andNot .i64 t179 t180) == 0)))) = some r := by rw [if_pos rfl] at H; exact H
   clear H
   have H := H1
   clear H1
   replace H := Option.bind_eq_some_iff.mp H
   obtain ⟨t179, A80, H⟩ := H
   replace H : ((spec_l3Table.f k a0 l2).bind fun t180 => (some ((Go.bits .andNot .i64 t179 t180) == 0))) = some r := H
   have A8 := Aside0.mk A80
   clear A80
   replace H := Option.bind_eq_some_iff.mp H
   obtain ⟨t180, A90, H⟩ := H
   replace H : (some ((Go.bits .andNot .i64 t179 t180) == 0)) = some r := H
   have A9 := Aside0.mk A90
   clear A90
   obtain rfl := Option.some.inj H
   go_enter Try.func41, Try.ntmps41
   go_wp2_with (first | ((with_reducible refine gate_callee (f := 35) rfl ?_); refine goesL_ (some 9) rfl rfl Try.func35 (by kernel_rfl) rfl #[.int .i64 a0, .slice A1 l1.length c1] rfl pwi_ ?_; (with_reducible refine (spec_TermOk.calls k a0 _ _ l1 true _ ?side1 ?side2 A4.out).mono ?_); (case side1 => repeat (first | exact HR1.out | (with_reducible refine Kd.C_alloc ?_ _) | (with_reducible refine Kd.C_drewN ?_ _) | (with_reducible refine Kd.C_drew ?_))); (case side2 => exact HC1.out); rintro e w' ⟨rfl, ⟨nd, rfl⟩⟩; refine ⟨_, rfl, ?_⟩) | (go_at_call 35; (with_reducible refine (spec_TermOk.calls k a0 _ _ l2 true _ ?side1 ?side2 A6.out).mono ?_); (case side1 => repeat (first | exact HR2.out | (with_reducible refine Kd.C_alloc ?_ _) | (with_reducible refine Kd.C_drewN ?_ _) | (with_reducible refine Kd.C_drew ?_))); (case side2 => exact HC2.out); rintro e w' ⟨rfl, ⟨nd, rfl⟩⟩) | (go_at_call 54; (with_reducible refine (spec_l3Table.calls k a0 _ _ l1 t179 _ ?side1 ?side2 A8.out).mono ?_); (case side1 => repeat (first | exact HR1.out | (with_reducible refine Kd.C_alloc ?_ _) | (with_reducible refine Kd.C_drewN ?_ _) | (with_reducible refine Kd.C_drew ?_))); (case side2 => exact HC1.out); rintro e w' ⟨rfl, ⟨nd, rfl⟩⟩) | (go_at_call 54; (with_reducible refine (spec_l3Table.calls k a0 _ _ l2 t180 _ ?side1 ?side2 A9.out).mono ?_); (case side1 => repeat (first | exact HR2.out | (with_reducible refine Kd.C_alloc ?_ _) | (with_reducible refine Kd.C_drewN ?_ _) | (with_reducible refine Kd.C_drew ?_))); (case side2 => exact HC2.out); rintro e w' ⟨rfl, ⟨nd, rfl⟩⟩))
   go_ret
   exact ⟨pwa_, by repeat (first | exact Drawn0.refl _ | apply Drawn0.step)⟩
  ·replace c7 := Bool.eq_false_iff.mpr c7
   subst c7
   have H1 : (some false) = some r := by rw [if_neg (show ¬ (false = true) by decide)] at H; exact H
   clear H
   have H := H1
   clear H1
   obtain rfl := Option.some.inj H
   go_enter Try.func41, Try.ntmps41
   go_wp2_with (first | ((with_reducible refine gate_callee (f := 35) rfl ?_); refine goesL_ (some 9) rfl rfl Try.func35 (by kernel_rfl) rfl #[.int .i64 a0, .slice A1 l1.length c1] rfl pwi_ ?_; (with_reducible refine (spec_TermOk.calls k a0 _ _ l1 true _ ?side1 ?side2 A4.out).mono ?_); (case side1 => repeat (first | exact HR1.out | (with_reducible refine Kd.C_alloc ?_ _) | (with_reducible refine Kd.C_drewN ?_ _) | (with_reducible refine Kd.C_drew ?_))); (case side2 => exact HC1.out); rintro e w' ⟨rfl, ⟨nd, rfl⟩⟩; refine ⟨_, rfl, ?_⟩) | (go_at_call 35; (with_reducible refine (spec_TermOk.calls k a0 _ _ l2 false _ ?side1 ?side2 A6.out).mono ?_); (case side1 => repeat (first | exact HR2.out | (with_reducible refine Kd.C_alloc ?_ _) | (with_reducible refine Kd.C_drewN ?_ _) | (with_reducible refine Kd.C_drew ?_))); (case side2 => exact HC2.out); rintro e w' ⟨rfl, ⟨nd, rfl⟩⟩))
   go_ret
   exact ⟨pwa_, by repeat (first | exact Drawn0.refl _ | apply Drawn0.step)⟩
 ·replace c5 := Bool.eq_false_iff.mpr c5
  subst c5
  have H1 : (some false) = some r := by rw [if_neg (show ¬ (false = true) by decide)] at H; exact H
  clear H
  have H := H1
  clear H1
  obtain rfl := Option.some.inj H
  go_enter Try.func41, Try.ntmps41
  go_wp2_with (first | ((with_reducible refine gate_callee (f := 35) rfl ?_); refine goesL_ (some 9) rfl rfl Try.func35 (by kernel_rfl) rfl #[.int .i64 a0, .slice A1 l1.length c1] rfl pwi_ ?_; (with_reducible refine (spec_TermOk.calls k a0 _ _ l1 false _ ?side1 ?side2 A4.out).mono ?_); (case side1 => repeat (first | exact HR1.out | (with_reducible refine Kd.C_alloc ?_ _) | (with_reducible refine Kd.C_drewN ?_ _) | (with_reducible refine Kd.C_drew ?_))); (case side2 => exact HC1.out); rintro e w' ⟨rfl, ⟨nd, rfl⟩⟩; refine ⟨_, rfl, ?_⟩))
  go_ret
  exact ⟨pwa_, by repeat (first | exact Drawn0.refl _ | apply Drawn0.step)⟩

/-- A state of type 68 at block g of W; what its slices lead to came in by w0. -/
def IsS68 (w0 W : World) (g : Nat) (f0 : List Int) (f1 : Int) : Prop := ∃ A0 c0, W.heap[g]? = some (.cells #[.slice A0 f0.length c0, .int .i64 f1] 68 (0, 0)) ∧ w0.heap.size ≤ g ∧ Kd.C (Kd.int .u8) w0 A0 f0.length f0
theorem IsS68.grown {w0 W : World} {g : Nat} {f0 : List Int} {f1 : Int} {W1 : World} {row : Option Nat} (h : IsS68 w0 W g f0 f1) (hw : W.grownBy W1 row) (hne : some g ≠ row) : IsS68 w0 W1 g f0 f1 := by
 obtain ⟨A0, c0, hb, hg, hr0⟩ := h
 exact ⟨A0, c0, blk_grown hb hw hne, hg, hr0⟩
theorem IsS68.own_neN {w0 W : World} {g : Nat} {f0 : List Int} {f1 : Int} {α : Type} {d : Kd α} {e : Nat} {base : Nat} {ok : Nat → Prop} {v : Value} {xs : List α} (h : IsS68 w0 W g f0 f1) (ho : Kd.N d e W base ok v xs) (ht : e ≠ 68) : some g ≠ v.ownBlock := by
 obtain ⟨A0, c0, hb, hg, hr0⟩ := h
 exact Kd.N_ne ho hb ht
theorem IsS68.fresh {w0 W : World} {g : Nat} {f0 : List Int} {f1 : Int} (h : IsS68 w0 W g f0 f1) : ∀ k, W.heap.size ≤ k → k ≠ g := by
 obtain ⟨A0, c0, hb, hg, hr0⟩ := h
 exact Kd.freshB hb
theorem IsS68.kept {w0 W : World} {g : Nat} {f0 : List Int} {f1 : Int} {W1 : World} {S : Nat → Prop} (h : IsS68 w0 W g f0 f1) (hk : Kept W W1 S) (hne : ¬ S g) : IsS68 w0 W1 g f0 f1 := by
 obtain ⟨A0, c0, hb, hg, hr0⟩ := h
 exact ⟨A0, c0, blk_kept hb hk hne, hg, hr0⟩
theorem IsS68.below {w0 W : World} {g : Nat} {f0 : List Int} {f1 : Int} {W1 : World} (h : IsS68 w0 W g f0 f1) (hw : Below W.heap.size W W1) : IsS68 w0 W1 g f0 f1 := h.grown (grown_of_below hw none) (by simp)
theorem IsS68.alloc {w0 W : World} {g : Nat} {f0 : List Int} {f1 : Int} (h : IsS68 w0 W g f0 f1) (o : Obj) : IsS68 w0 (W.alloc o) g f0 f1 := h.below (below_alloc (Below.refl _ _) o)
theorem IsS68.drewN {w0 W : World} {g : Nat} {f0 : List Int} {f1 : Int} (h : IsS68 w0 W g f0 f1) (m : Nat) : IsS68 w0 (W.drewN m) g f0 f1 := h
theorem IsS68.drew {w0 W : World} {g : Nat} {f0 : List Int} {f1 : Int} (h : IsS68 w0 W g f0 f1) : IsS68 w0 W.drew g f0 f1 := h
theorem IsS68.at_ {w0 W : World} {g : Nat} {f0 : List Int} {f1 : Int} {w' : World} {m : Nat} (hq : W.drewN m = w') (h : IsS68 w0 W g f0 f1) : IsS68 w0 w' g f0 f1 := by subst hq; exact IsS68.drewN h m
theorem IsS68.apart {w0 W : World} {g : Nat} {f0 : List Int} {f1 : Int} {α : Type} {d : Kd α} {e : Nat} {base : Nat} {ok : Nat → Prop} {v : Value} {xs : List α} (h : IsS68 w0 W g f0 f1) (ho : d.R e W base ok v xs) (ht : ∀ q, q ∈ e :: d.E → q ≠ 68) : d.R e W base (fun k => ok k ∧ k ≠ g) v xs := by
 obtain ⟨A0, c0, hb, hg, hr0⟩ := h
 exact Kd.R_types ho hb ht
theorem IsS68.own_ne {w0 W : World} {g : Nat} {f0 : List Int} {f1 : Int} {α : Type} {d : Kd α} {e : Nat} {base : Nat} {ok : Nat → Prop} {v : Value} {xs : List α} (h : IsS68 w0 W g f0 f1) (ho : d.R e W base ok v xs) (ht : e ≠ 68) : some g ≠ v.ownBlock := by
 obtain ⟨A0, c0, hb, hg, hr0⟩ := h
 exact Kd.R_ne ho hb ht
theorem IsS68.apartQ {w0 W : World} {g : Nat} {f0 : List Int} {f1 : Int} {α : Type} {d : Kd α} {e : Nat} {base : Nat} {ok : Nat → Prop} {v : Value} {xs : List α} (h : IsS68 w0 W g f0 f1) (ho : d.Q e W base ok v xs) (ht : ∀ q, q ∈ e :: d.E → q ≠ 68) : d.Q e W base (fun k => ok k ∧ k ≠ g) v xs := by
 obtain ⟨A0, c0, hb, hg, hr0⟩ := h
 exact Kd.Q_types ho hb ht
theorem IsS68.own_neQ {w0 W : World} {g : Nat} {f0 : List Int} {f1 : Int} {α : Type} {d : Kd α} {e : Nat} {base : Nat} {ok : Nat → Prop} {v : Value} {xs : List α} (h : IsS68 w0 W g f0 f1) (ho : d.Q e W base ok v xs) (ht : e ≠ 68) : some g ≠ v.ownBlock := by
 obtain ⟨A0, c0, hb, hg, hr0⟩ := h
 exact Kd.Q_ne ho hb ht
theorem IsS68.apartS {w0 W : World} {g : Nat} {f0 : List Int} {f1 : Int} {α : Type} {d : Kd α} {e : Nat} {base : Nat} {ok : Nat → Prop} {v : Value} {xs : List α} (h : IsS68 w0 W g f0 f1) (ho : d.S e W base ok v xs) (ht : ∀ q, q ∈ e :: d.E → q ≠ 68) : d.S e W base (fun k => ok k ∧ k ≠ g) v xs := by
 obtain ⟨A0, c0, hb, hg, hr0⟩ := h
 exact Kd.S_types ho hb ht
theorem IsS68.own_neS {w0 W : World} {g : Nat} {f0 : List Int} {f1 : Int} {α : Type} {d : Kd α} {e : Nat} {base : Nat} {ok : Nat → Prop} {v : Value} {xs : List α} (h : IsS68 w0 W g f0 f1) (ho : d.S e W base ok v xs) (ht : e ≠ 68) : some g ≠ v.ownBlock := by
 obtain ⟨A0, c0, hb, hg, hr0⟩ := h
 exact Kd.S_ne ho hb ht
theorem IsS68.lt {w0 W : World} {g : Nat} {f0 : List Int} {f1 : Int} (h : IsS68 w0 W g f0 f1) : g < W.heap.size := by
 obtain ⟨A0, c0, hb, hg, hr0⟩ := h
 exact blk_lt hb
theorem IsS68.ge {w0 W : World} {g : Nat} {f0 : List Int} {f1 : Int} (h : IsS68 w0 W g f0 f1) : w0.heap.size ≤ g := by
 obtain ⟨A0, c0, hb, hg, hr0⟩ := h
 exact hg
theorem IsS68.ne_blk {w0 W : World} {g : Nat} {f0 : List Int} {f1 : Int} {a : Nat} {cs : Array Value} {t : TypeId} {fr : Nat × Nat} (h : IsS68 w0 W g f0 f1) (hb2 : W.heap[a]? = some (.cells cs t fr)) (ht : t ≠ 68) : g ≠ a := by
 obtain ⟨A0, c0, hb, hg, hr0⟩ := h
 rintro rfl
 rw [hb] at hb2
 injection hb2 with hb2
 injection hb2 with _ ht2
 exact ht ht2.symm
theorem IsS68.far {w0 W : World} {g : Nat} {f0 : List Int} {f1 : Int} {p : Addr} (h : IsS68 w0 W g f0 f1) (hne : g ≠ p.block) (u : Value) : IsS68 w0 (W.setCell p u) g f0 f1 := by
 obtain ⟨A0, c0, hb, hg, hr0⟩ := h
 exact ⟨A0, c0, blk_far hb hne u, hg, hr0⟩
theorem cellS68_0 {W : World} {g : Nat} {A0 : Option Addr} {c0 : Nat} {f0 : List Int} {f1 : Int} (h : W.heap[g]? = some (.cells #[.slice A0 f0.length c0, .int .i64 f1] 68 (0, 0))) : W.cell? ⟨g, 0, none⟩ = some (.slice A0 f0.length c0) := (blk_cell h 0).trans rfl
theorem cellS68_1 {W : World} {g : Nat} {A0 : Option Addr} {c0 : Nat} {f0 : List Int} {f1 : Int} (h : W.heap[g]? = some (.cells #[.slice A0 f0.length c0, .int .i64 f1] 68 (0, 0))) : W.cell? ⟨g, 1, none⟩ = some (.int .i64 f1) := (blk_cell h 1).trans rfl
theorem IsS68.set_1 {w0 W : World} {g : Nat} {f0 : List Int} {f1 : Int} (h : IsS68 w0 W g f0 f1) (x : Int) : IsS68 w0 (W.setCell ⟨g, 1, none⟩ (.int .i64 x)) g f0 x := by
 obtain ⟨A0, c0, hb, hg, hr0⟩ := h
 exact ⟨A0, c0, by simpa using blk_set hb 1 (.int .i64 x), hg, hr0⟩
theorem IsS68.new (w0 W : World) (A0 : Option Addr) (c0 : Nat) (f0 : List Int) (f1 : Int) (hB : Below w0.heap.size w0 W) (hr0 : Kd.C (Kd.int .u8) w0 A0 f0.length f0) : IsS68 w0 (W.alloc (.cells #[.slice A0 f0.length c0, .int .i64 f1] 68)) W.heap.size f0 f1 := ⟨A0, c0, by simpa using heap_alloc_new W _, hB.size, hr0⟩

/-! ### spec_l20Open: function 50 -/
def spec_l20Open.f (l0 : List Int) : Option (List Int × Int) := if (l0.length : Int) > 2000 then (if 2000 ≤ (l0.length : Int) then (some (l0.take 2000, 0)) else (none)) else (some (l0, 0))
set_option maxHeartbeats 8000000 in
set_option maxRecDepth 100000 in
theorem spec_l20Open.calls (A0 : Option Addr) (c0 : Nat) (l0 : List Int) (r1 : List Int) (r2 : Int) (w0 w : World) (hB : Below w0.heap.size w0 w) (hr0 : Kd.C (Kd.int .u8) w0 A0 l0.length l0) (hc0 : l0.length ≤ c0) (h : spec_l20Open.f l0 = some (r1, r2)) :
  Calls Try.prog 50 #[.slice A0 l0.length c0] w fun e w' => ∃ g_ : Nat, e = .returned (.pointer (some ⟨g_, 0, none⟩)) ∧ IsS68 w0 w' g_ r1 r2 ∧ Below w0.heap.size w0 w' ∧ Below w.heap.size w w' := by
 have hu68 := Try.underlying68
 have HR0 := Aside0.mk hr0
 have HC0 := Aside0.mk hc0
 clear hr0 hc0
 have HBW := Aside0.mk (Below.refl w.heap.size w)
 have HW0 := Aside0.mk hB.size
 have HB := Aside0.mk hB
 clear hB
 have H : (if (l0.length : Int) > 2000 then (if 2000 ≤ (l0.length : Int) then (some (l0.take 2000, 0)) else (none)) else (some (l0, 0))) = some (r1, r2) := h
 clear h
 by_cases c2 : (l0.length : Int) > 2000
 ·rw [if_pos c2] at H
  have c2b0 : decide (2000 < (l0.length : Int)) = true := decide_eq_true c2
  have c2b1 : decide (2000 < l0.length) = true := decide_eq_true (by omega)
  clear c2
  by_cases c3 : 2000 ≤ (l0.length : Int)
  ·rw [if_pos c3] at H
   have c3b0 := eq_true c3
   have c3b1 : decide (2000 ≤ (l0.length : Int)) = true := decide_eq_true c3
   clear c3
   simp only [Option.some.injEq, Prod.mk.injEq] at H
   obtain ⟨rfl, rfl⟩ := H
   obtain ⟨i04, hi04, _, hsz4, _⟩ := info_parts info5
   obtain ⟨hcut4, hA4, hC4⟩ := print_take_of (P := Try.prog) (Value.int .u8) 0 22 5 .i64 Try.underlying22 hi04 hsz4 A0 c0 l0 2000 (by omega) (of_decide_eq_true pwb_) HC0.out
   have HR181 := Aside0.mk (Kd.C_of_reads (h1 := fun _ => rfl) (hA4 _ (Kd.reads_of_C HR0.out)))
   have HC181 := Aside0.mk hC4
   clear hA4 hC4 hi04 hsz4
   go_enter Try.func50, Try.ntmps50
   go_wp2_with (first | ((with_reducible refine gate_dst (N := 10) rfl ?_); refine box_event ?hg (N := 10) ?hd (cs := #[.slice A0 (l0.take 2000).length c0, .int .i64 0]) (t := 68) ?hr ?_; (case hd => rfl); (case hg => rfl); (case hr => first | (go_simp; done) | (go_simp; rfl)); intro gb182 hg w5 hbox hb; have n0_ := Aside0.mk (below_step HBW.out hb); have n1_ := Aside0.mk (below_step pwg_ hb); have n2_ := Aside0.mk (hbox); have n3_ := Aside0.mk ((by rw [hg]; exact (below_size pwh_) : w.heap.size ≤ gb182)); have n4_ := Aside0.mk ((Nat.le_trans HW0.out (by rw [hg]; exact (below_size pwh_) : w.heap.size ≤ gb182) : w0.heap.size ≤ gb182)); clear HBW; clear HB; have HBW := n0_; have HB := n1_; have BK182 := n2_; have GW182 := n3_; have GE182 := n4_; clear n0_ n1_ n2_ n3_ n4_; clear hb hbox hg))
   go_ret
   exact ⟨_, rfl, (show IsS68 w0 _ gb182 (l0.take 2000) 0 from ⟨_, _, by (with_reducible repeat (first | refine blk_drewN ?_ _ | refine blk_drew ?_ | refine blk_alloc ?_ _)); exact BK182.out, GE182.out, HR181.out⟩), by repeat (first | (with_reducible first | exact HB.out | apply below_alloc | apply pw_below_drewN | apply below_drew1 | refine below_set ?_ GE182.out) | exact HB.out), by repeat (first | (with_reducible first | exact HBW.out | apply below_alloc | apply pw_below_drewN | apply below_drew1 | refine below_set ?_ GW182.out) | exact HBW.out)⟩
  ·rw [if_neg c3] at H
   exact absurd H (by simp)
 ·rw [if_neg c2] at H
  have c2b0 : decide (2000 < (l0.length : Int)) = false := decide_eq_false c2
  have c2b1 : decide (2000 < l0.length) = false := decide_eq_false (by omega)
  clear c2
  simp only [Option.some.injEq, Prod.mk.injEq] at H
  obtain ⟨rfl, rfl⟩ := H
  go_enter Try.func50, Try.ntmps50
  go_wp2_with (first | ((with_reducible refine gate_dst (N := 10) rfl ?_); refine box_event ?hg (N := 10) ?hd (cs := #[.slice A0 l0.length c0, .int .i64 0]) (t := 68) ?hr ?_; (case hd => rfl); (case hg => rfl); (case hr => first | (go_simp; done) | (go_simp; rfl)); intro gb183 hg w6 hbox hb; have n0_ := Aside0.mk (below_step HBW.out hb); have n1_ := Aside0.mk (below_step pwg_ hb); have n2_ := Aside0.mk (hbox); have n3_ := Aside0.mk ((by rw [hg]; exact (below_size pwh_) : w.heap.size ≤ gb183)); have n4_ := Aside0.mk ((Nat.le_trans HW0.out (by rw [hg]; exact (below_size pwh_) : w.heap.size ≤ gb183) : w0.heap.size ≤ gb183)); clear HBW; clear HB; have HBW := n0_; have HB := n1_; have BK183 := n2_; have GW183 := n3_; have GE183 := n4_; clear n0_ n1_ n2_ n3_ n4_; clear hb hbox hg))
  go_ret
  exact ⟨_, rfl, (show IsS68 w0 _ gb183 l0 0 from ⟨_, _, by (with_reducible repeat (first | refine blk_drewN ?_ _ | refine blk_drew ?_ | refine blk_alloc ?_ _)); exact BK183.out, GE183.out, HR0.out⟩), by repeat (first | (with_reducible first | exact HB.out | apply below_alloc | apply pw_below_drewN | apply below_drew1 | refine below_set ?_ GE183.out) | exact HB.out), by repeat (first | (with_reducible first | exact HBW.out | apply below_alloc | apply pw_below_drewN | apply below_drew1 | refine below_set ?_ GW183.out) | exact HBW.out)⟩

end Go.Proofs.Ytigkmppgbaoafaa.PFnFollowsOk
