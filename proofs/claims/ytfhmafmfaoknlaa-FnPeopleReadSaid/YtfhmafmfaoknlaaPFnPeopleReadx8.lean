-- Made by a program of this session (wip/tools/patchprint.py), not by the kit itself.
import Derived.Test.YtfhmafmfaoknlaaPFnPeopleReadx0
import Derived.Test.YtfhmafmfaoknlaaPFnPeopleReadx2
import Derived.Test.YtfhmafmfaoknlaaPFnPeopleReadx4
import Derived.Test.YtfhmafmfaoknlaaPFnPeopleReadx6
import Derived.Test.YtfhmafmfaoknlaaPFnPeopleReadx7
namespace Go.Proofs.Ytfhmafmfaoknlaa.PFnPeopleRead
open Go.RowKit Go.Proofs.YtfhmafmfaoknlaaW.PrintWords Go.Proofs.YtfhmafmfaoknlaaW.PrintLast Go.Proofs.YtfhmafmfaoknlaaW.PrintMore
attribute [local go_sem] max2_int min2_int max_two min_two max_three min_three max_four min_four   -- for this text's walks alone
set_option linter.unusedVariables false
set_option linter.unusedSimpArgs false

attribute [local go_sem] setCell_isSome
/-! ### spec_PeopleRead: function 28 -/
def spec_PeopleRead.l0 : Nat → List (S62) → Int → Int → Option (Int)
 | 0, _, _, _ => none
 | k + 1, x1, x5, x6 => if x6 < (x1.length : Int) then (if 0 ≤ x6 then (if ((rd_T62 x1 x6).f0) = 0 then (if 0 ≤ ((rd_T62 x1 x6).f1) then (spec_PeopleRead.l0 k x1 (Go.bits .or .i64 x5 (shl .i64 1 ((rd_T62 x1 x6).f1))) (wrap64 (x6 + 1))) else (none)) else (spec_PeopleRead.l0 k x1 x5 (wrap64 (x6 + 1)))) else (none)) else (some x5)
def spec_PeopleRead.f (k : Nat) (a0 : Int) (l1 : List (S62)) : Option (Int) := (spec_TermOk.f k a0 l1).bind fun t331 => (if t331 = true then (spec_PeopleRead.l0 k l1 0 0) else (some (-1)))
theorem spec_PeopleRead.mono_l : ∀ k, (∀ y0 y1 y2, LeO (spec_PeopleRead.l0 k y0 y1 y2) (spec_PeopleRead.l0 (k + 1) y0 y1 y2))
 | 0 => fun _ _ _ r h => by simp [spec_PeopleRead.l0] at h
 | k + 1 => by
  have ih0 := spec_PeopleRead.mono_l k
  ·intro y0 y1 y2
   unfold spec_PeopleRead.l0
   repeat' first
   | (with_reducible exact ih0 _ _ _)
   | (with_reducible exact spec_TermOk.mono _ _ _)
   | (with_reducible exact LeO.refl _)
   | (with_reducible exact LeO.none _)
   | (with_reducible refine LeO.ite ?_ ?_)
   | (with_reducible refine LeO.bind ?_ (fun _ => ?_))
   | exact ih0 _ _ _
   | exact spec_TermOk.mono _ _ _
   | exact LeO.none _
   | refine LeO.ite ?_ ?_
   | refine LeO.bind ?_ (fun _ => ?_)
theorem spec_PeopleRead.mono : ∀ a0 a1 k, LeO (spec_PeopleRead.f k a0 a1) (spec_PeopleRead.f (k + 1) a0 a1) := by
 intro a0 a1 k
 have ih0 := spec_PeopleRead.mono_l k
 unfold spec_PeopleRead.f
 repeat' first
   | (with_reducible exact ih0 _ _ _)
   | (with_reducible exact spec_TermOk.mono _ _ _)
   | (with_reducible exact LeO.refl _)
   | (with_reducible exact LeO.none _)
   | (with_reducible refine LeO.ite ?_ ?_)
   | (with_reducible refine LeO.bind ?_ (fun _ => ?_))
   | exact ih0 _ _ _
   | exact spec_TermOk.mono _ _ _
   | exact LeO.none _
   | refine LeO.ite ?_ ?_
   | refine LeO.bind ?_ (fun _ => ?_)
set_option maxHeartbeats 8000000 in
set_option maxRecDepth 100000 in
theorem spec_PeopleRead.calls (k : Nat) (a0 : Int) (A1 : Option Addr) (c1 : Nat) (l1 : List (S62)) (r : Int) (w : World) (hr1 : Kd.C k62 w A1 l1.length l1) (hc1 : l1.length ≤ c1) (h : spec_PeopleRead.f k a0 l1 = some r) :
  Calls Try.prog 28 #[.int .i64 a0, .slice A1 l1.length c1] w fun e w' => e = .returned (.int .i64 r) ∧ Drawn0 w w' := by
 have HR1 := Aside0.mk hr1
 have HC1 := Aside0.mk hc1
 clear hr1 hc1
 have H : ((spec_TermOk.f k a0 l1).bind fun t331 => (if t331 = true then (spec_PeopleRead.l0 k l1 0 0) else (some (-1)))) = some r := h
 clear h
 replace H := Option.bind_eq_some_iff.mp H
 obtain ⟨t331, A30, H⟩ := H
 replace H : (if t331 = true then (spec_PeopleRead.l0 k l1 0 0) else (some (-1))) = some r := H
 have A3 := Aside0.mk A30
 clear A30
 by_cases c4 : t331 = true
 ·subst c4
  have H1 : (spec_PeopleRead.l0 k l1 0 0) = some r := by rw [if_pos rfl] at H; exact H
  clear H
  have H := H1
  clear H1
  have H' := Aside0.mk H
  clear H
  go_enter Try.func28, Try.ntmps28
  go_wp2_with (first | ((with_reducible refine gate_callee (f := 65) rfl ?_); refine goesL_ (some 9) rfl rfl Try.func65 (by kernel_rfl) rfl #[.int .i64 a0, .slice A1 l1.length c1] rfl pwh_ ?_; (with_reducible refine (spec_TermOk.calls k a0 _ _ l1 true _ ?side1 ?side2 A3.out).mono ?_); (case side1 => repeat (first | exact HR1.out | (with_reducible refine Kd.C_alloc ?_ _) | (with_reducible refine Kd.C_drewN ?_ _) | (with_reducible refine Kd.C_drew ?_))); (case side2 => exact HC1.out); rintro e w' ⟨rfl, ⟨nd, rfl⟩⟩; refine ⟨_, rfl, ?_⟩))
  go_loopg [5, 6] k (fun kq v5 v6 w' => ∃ (x5_1 : Int) (x6_1 : Int), v5 = .int .i64 x5_1 ∧ v6 = .int .i64 x6_1 ∧ Aside0 (spec_PeopleRead.l0 kq l1 x5_1 x6_1 = some r) ∧ Aside0 (kq ≤ k) ∧ Drawn0 w w')
  case atStart => exact ⟨(0), (0), pwa_, pwa_, H', ⟨Nat.le_refl _⟩, by repeat (first | exact Drawn0.refl _ | apply Drawn0.step)⟩
  case round =>
   clear H'
   try clear c1
   try clear c2
   try clear p2
   try clear c4
   obtain ⟨x5_1, x6_1, rfl, rfl, HA, HK1, ⟨m1, rfl⟩⟩ := hrel
   cases gk with
   | zero => exact absurd HA.out (by simp [spec_PeopleRead.l0])
   | succ k1 =>
    have H := HA.out
    clear HA
    simp only [spec_PeopleRead.l0] at H
    by_cases c5 : x6_1 < (l1.length : Int)
    ·rw [if_pos c5] at H
     have c5b0 : decide (x6_1 < (l1.length : Int)) = true := decide_eq_true c5
     clear c5
     by_cases c6 : 0 ≤ x6_1
     ·rw [if_pos c6] at H
      have c6b0 : decide (0 ≤ x6_1) = true := decide_eq_true c6
      clear c6
      by_cases c7 : ((rd_T62 l1 x6_1).f0) = 0
      ·rw [if_pos c7] at H
       have c7b0 : (((rd_T62 l1 x6_1).f0) == 0) = true := beq_iff_eq.mpr c7
       have c7b1 : (((rd_T62 l1 x6_1).f0) != 0) = false := bne_eq_false_iff_eq.mpr c7
       clear c7
       by_cases c8 : 0 ≤ ((rd_T62 l1 x6_1).f1)
       ·rw [if_pos c8] at H
        have c8b0 := eq_true c8
        have c8b1 : decide (0 ≤ ((rd_T62 l1 x6_1).f1)) = true := decide_eq_true c8
        clear c8
        obtain ⟨ji9, hji9⟩ : ∃ j_ : Int, (shl .i64 1 ((rd_T62 l1 x6_1).f1)) = j_ := ⟨_, rfl⟩
        replace H : (spec_PeopleRead.l0 k1 l1 (Go.bits .or .i64 x5_1 (ji9)) (wrap64 (x6_1 + 1))) = some r := by first | (rw [hji9] at H; exact H) | (simp only [hji9] at H ⊢; exact H)
        have hji9_ : (IntKind.i64.wrap (1 * 2 ^ min ((rd_T62 l1 x6_1).f1).toNat 64)) = ji9 := hji9
        have hji9z : ((rd_T62 l1 x6_1).f1) ≤ 64 → (IntKind.i64.wrap (1 * 2 ^ ((rd_T62 l1 x6_1).f1).toNat)) = ji9 := shl_small hji9
        have hji9u : (IntKind.i64.wrap (2 ^ min ((rd_T62 l1 x6_1).f1).toNat 64)) = ji9 := by have h_ := hji9_; rw [Int.one_mul] at h_; exact h_
        have hji9v : ((rd_T62 l1 x6_1).f1) ≤ 64 → (IntKind.i64.wrap (2 ^ ((rd_T62 l1 x6_1).f1).toNat)) = ji9 := fun hle_ => by have h_ := hji9z hle_; rw [Int.one_mul] at h_; exact h_
        have hji9y : (wrap64 (1 * 2 ^ min ((rd_T62 l1 x6_1).f1).toNat 64)) = ji9 := (i64_w _).symm.trans hji9_
        have hji9x : ((rd_T62 l1 x6_1).f1) ≤ 64 → (wrap64 (1 * 2 ^ ((rd_T62 l1 x6_1).f1).toNat)) = ji9 := fun h_ => (i64_w _).symm.trans (hji9z h_)
        have H' := Aside0.mk H
        clear H
        have p332 : 0 ≤ (x6_1 : Int) := of_decide_eq_true pwb_
        have q332 : x6_1 < (l1.length : Int) := of_decide_eq_true pwb_
        obtain ⟨ad332, e332, hx332_0, hx332_1⟩ := at_T62 HR1.out x6_1 p332 q332
        cases e332
        replace p332 := eq_true p332
        replace q332 := eq_true q332
        have p333 : 0 ≤ (x6_1 : Int) := of_decide_eq_true pwb_
        have q333 : x6_1 < (l1.length : Int) := of_decide_eq_true pwb_
        obtain ⟨ad333, e333, hx333_0, hx333_1⟩ := at_T62 HR1.out x6_1 p333 q333
        obtain rfl : ad332 = ad333 := (by injection e333)
        replace p333 := eq_true p333
        replace q333 := eq_true q333
        go_wp2
        go_roundg k1
        case measure => have := HK1.out; omega
        case rel => exact ⟨(Go.bits .or .i64 x5_1 (ji9)), (wrap64 (x6_1 + 1)), (by first | rfl | (simp; done) | (simp only [← hji9] <;> (first | rfl | simp)) | (simp [*]; done)), pwa_, H', ⟨by have := HK1.out; omega⟩, by repeat (first | exact Drawn0.refl _ | apply Drawn0.step)⟩
       ·rw [if_neg c8] at H
        exact absurd H (by simp)
      ·rw [if_neg c7] at H
       have c7b0 : (((rd_T62 l1 x6_1).f0) == 0) = false := beq_eq_false_iff_ne.mpr c7
       have c7b1 : (((rd_T62 l1 x6_1).f0) != 0) = true := bne_iff_ne.mpr c7
       have H' := Aside0.mk H
       clear H
       have p332 : 0 ≤ (x6_1 : Int) := of_decide_eq_true pwb_
       have q332 : x6_1 < (l1.length : Int) := of_decide_eq_true pwb_
       obtain ⟨ad332, e332, hx332_0, hx332_1⟩ := at_T62 HR1.out x6_1 p332 q332
       cases e332
       replace p332 := eq_true p332
       replace q332 := eq_true q332
       go_wp2
       go_roundg k1
       case measure => have := HK1.out; omega
       case rel => exact ⟨(x5_1), (wrap64 (x6_1 + 1)), pwa_, pwa_, H', ⟨by have := HK1.out; omega⟩, by repeat (first | exact Drawn0.refl _ | apply Drawn0.step)⟩
     ·rw [if_neg c6] at H
      exact absurd H (by simp)
    ·rw [if_neg c5] at H
     have c5b0 : decide (x6_1 < (l1.length : Int)) = false := decide_eq_false c5
     clear c5
     obtain rfl := Option.some.inj H
     go_wp2
     go_ret
     exact ⟨pwa_, by repeat (first | exact Drawn0.refl _ | apply Drawn0.step)⟩
 ·replace c4 := Bool.eq_false_iff.mpr c4
  subst c4
  have H1 : (some (-1)) = some r := by rw [if_neg (show ¬ (false = true) by decide)] at H; exact H
  clear H
  have H := H1
  clear H1
  obtain rfl := Option.some.inj H
  go_enter Try.func28, Try.ntmps28
  go_wp2_with (first | ((with_reducible refine gate_callee (f := 65) rfl ?_); refine goesL_ (some 9) rfl rfl Try.func65 (by kernel_rfl) rfl #[.int .i64 a0, .slice A1 l1.length c1] rfl pwh_ ?_; (with_reducible refine (spec_TermOk.calls k a0 _ _ l1 false _ ?side1 ?side2 A3.out).mono ?_); (case side1 => repeat (first | exact HR1.out | (with_reducible refine Kd.C_alloc ?_ _) | (with_reducible refine Kd.C_drewN ?_ _) | (with_reducible refine Kd.C_drew ?_))); (case side2 => exact HC1.out); rintro e w' ⟨rfl, ⟨nd, rfl⟩⟩; refine ⟨_, rfl, ?_⟩))
  go_ret
  exact ⟨pwa_, by repeat (first | exact Drawn0.refl _ | apply Drawn0.step)⟩

/-! ### laws_FnPeopleRead: function 5 -/
mutual
def laws_FnPeopleRead.l0 : Nat → Int → Int → ByteArray → Int → Option (Bool)
 | 0, _, _, _, _ => none
 | k + 1, x3, x5, x6, x7 => if x7 < x3 then (laws_FnPeopleRead.l1 k x3 x5 x6 x7 false 0) else (if 0 ≤ x3 then (if x5 < (shl .i64 1 x3) then (some (decide ((x6.size : Int) > 0))) else (some false)) else (none))
def laws_FnPeopleRead.l1 : Nat → Int → Int → ByteArray → Int → Bool → Int → Option (Bool)
 | 0, _, _, _, _, _, _ => none
 | k + 1, x3, x5, x6, x7, x8, x9 => if x9 < (x6.size : Int) then (if x8 = true then (laws_FnPeopleRead.l1 k x3 x5 x6 x7 true (wrap64 (x9 + 1))) else (if 0 ≤ x9 then (laws_FnPeopleRead.l1 k x3 x5 x6 x7 ((wrap64 (bt x6 x9)) == (wrap64 (97 + x7))) (wrap64 (x9 + 1))) else (none))) else (if 0 ≤ x7 then (if (x8 != ((Int.tmod (shr .i64 x5 x7) 2) == 1)) = true then (some false) else (laws_FnPeopleRead.l0 k x3 x5 x6 (wrap64 (x7 + 1)))) else (none))
end
def laws_FnPeopleRead.f (k : Nat) (l0 : List Int) : Option (Bool) := if (l0.length : Int) > 1048576 then (some true) else ((spec_DrawPeopleRead.f k l0).bind fun bt334 => ((impl_PeopleRead.f k bt334.1 bt334.2).bind fun t338 => ((spec_PeopleRead.f k bt334.1 bt334.2).bind fun t339 => (if t338 = t339 then (if t338 < 0 then (if t338 = (-1) then ((impl_TermOk.f k bt334.1 bt334.2).bind fun t340 => (if t340 = true then (some false) else ((laws_alive.f).bind fun t341 => (some t341)))) else (some false)) else ((impl_TermText.f k bt334.1 bt334.2).bind fun t342 => (laws_FnPeopleRead.l0 k bt334.1 t338 t342 0))) else (some false)))))
theorem laws_FnPeopleRead.mono_l : ∀ k, (∀ y0 y1 y2 y3, LeO (laws_FnPeopleRead.l0 k y0 y1 y2 y3) (laws_FnPeopleRead.l0 (k + 1) y0 y1 y2 y3)) ∧ (∀ y0 y1 y2 y3 y4 y5, LeO (laws_FnPeopleRead.l1 k y0 y1 y2 y3 y4 y5) (laws_FnPeopleRead.l1 (k + 1) y0 y1 y2 y3 y4 y5))
 | 0 => ⟨fun _ _ _ _ r h => by simp [laws_FnPeopleRead.l0] at h, fun _ _ _ _ _ _ r h => by simp [laws_FnPeopleRead.l1] at h⟩
 | k + 1 => by
  obtain ⟨ih0, ih1⟩ := laws_FnPeopleRead.mono_l k
  refine ⟨?_, ?_⟩
  ·intro y0 y1 y2 y3
   unfold laws_FnPeopleRead.l0
   repeat' first
   | (with_reducible exact ih0 _ _ _ _)
   | (with_reducible exact ih1 _ _ _ _ _ _)
   | (with_reducible exact impl_PeopleRead.mono _ _ _)
   | (with_reducible exact impl_TermOk.mono _ _ _)
   | (with_reducible exact impl_TermText.mono _ _ _)
   | (with_reducible exact spec_DrawPeopleRead.mono _ _)
   | (with_reducible exact spec_PeopleRead.mono _ _ _)
   | (with_reducible exact LeO.refl _)
   | (with_reducible exact LeO.none _)
   | (with_reducible refine LeO.ite ?_ ?_)
   | (with_reducible refine LeO.bind ?_ (fun _ => ?_))
   | exact ih0 _ _ _ _
   | exact ih1 _ _ _ _ _ _
   | exact impl_PeopleRead.mono _ _ _
   | exact impl_TermOk.mono _ _ _
   | exact impl_TermText.mono _ _ _
   | exact spec_DrawPeopleRead.mono _ _
   | exact spec_PeopleRead.mono _ _ _
   | exact LeO.none _
   | refine LeO.ite ?_ ?_
   | refine LeO.bind ?_ (fun _ => ?_)
  ·intro y0 y1 y2 y3 y4 y5
   unfold laws_FnPeopleRead.l1
   repeat' first
   | (with_reducible exact ih0 _ _ _ _)
   | (with_reducible exact ih1 _ _ _ _ _ _)
   | (with_reducible exact impl_PeopleRead.mono _ _ _)
   | (with_reducible exact impl_TermOk.mono _ _ _)
   | (with_reducible exact impl_TermText.mono _ _ _)
   | (with_reducible exact spec_DrawPeopleRead.mono _ _)
   | (with_reducible exact spec_PeopleRead.mono _ _ _)
   | (with_reducible exact LeO.refl _)
   | (with_reducible exact LeO.none _)
   | (with_reducible refine LeO.ite ?_ ?_)
   | (with_reducible refine LeO.bind ?_ (fun _ => ?_))
   | exact ih0 _ _ _ _
   | exact ih1 _ _ _ _ _ _
   | exact impl_PeopleRead.mono _ _ _
   | exact impl_TermOk.mono _ _ _
   | exact impl_TermText.mono _ _ _
   | exact spec_DrawPeopleRead.mono _ _
   | exact spec_PeopleRead.mono _ _ _
   | exact LeO.none _
   | refine LeO.ite ?_ ?_
   | refine LeO.bind ?_ (fun _ => ?_)
theorem laws_FnPeopleRead.mono : ∀ a0 k, LeO (laws_FnPeopleRead.f k a0) (laws_FnPeopleRead.f (k + 1) a0) := by
 intro a0 k
 obtain ⟨ih0, ih1⟩ := laws_FnPeopleRead.mono_l k
 unfold laws_FnPeopleRead.f
 repeat' first
   | (with_reducible exact ih0 _ _ _ _)
   | (with_reducible exact ih1 _ _ _ _ _ _)
   | (with_reducible exact impl_PeopleRead.mono _ _ _)
   | (with_reducible exact impl_TermOk.mono _ _ _)
   | (with_reducible exact impl_TermText.mono _ _ _)
   | (with_reducible exact spec_DrawPeopleRead.mono _ _)
   | (with_reducible exact spec_PeopleRead.mono _ _ _)
   | (with_reducible exact LeO.refl _)
   | (with_reducible exact LeO.none _)
   | (with_reducible refine LeO.ite ?_ ?_)
   | (with_reducible refine LeO.bind ?_ (fun _ => ?_))
   | exact ih0 _ _ _ _
   | exact ih1 _ _ _ _ _ _
   | exact impl_PeopleRead.mono _ _ _
   | exact impl_TermOk.mono _ _ _
   | exact impl_TermText.mono _ _ _
   | exact spec_DrawPeopleRead.mono _ _
   | exact spec_PeopleRead.mono _ _ _
   | exact LeO.none _
   | refine LeO.ite ?_ ?_
   | refine LeO.bind ?_ (fun _ => ?_)
set_option maxHeartbeats 8000000 in
set_option maxRecDepth 100000 in
theorem laws_FnPeopleRead.calls (k : Nat) (A0 : Option Addr) (c0 : Nat) (l0 : List Int) (r : Bool) (w : World) (hr0 : Kd.C (Kd.int .u8) w A0 l0.length l0) (hc0 : l0.length ≤ c0) (h : laws_FnPeopleRead.f k l0 = some r) :
  Calls Try.prog 5 #[.slice A0 l0.length c0] w fun e w' => e = .returned (.bool r) ∧ Below w.heap.size w w' := by
 have HR0 := Aside0.mk hr0
 have HC0 := Aside0.mk hc0
 clear hr0 hc0
 have HB := Aside0.mk (Below.refl w.heap.size w)
 have H : (if (l0.length : Int) > 1048576 then (some true) else ((spec_DrawPeopleRead.f k l0).bind fun bt334 => ((impl_PeopleRead.f k bt334.1 bt334.2).bind fun t338 => ((spec_PeopleRead.f k bt334.1 bt334.2).bind fun t339 => (if t338 = t339 then (if t338 < 0 then (if t338 = (-1) then ((impl_TermOk.f k bt334.1 bt334.2).bind fun t340 => (if t340 = true then (some false) else ((laws_alive.f).bind fun t341 => (some t341)))) else (some false)) else ((impl_TermText.f k bt334.1 bt334.2).bind fun t342 => (laws_FnPeopleRead.l0 k bt334.1 t338 t342 0))) else (some false)))))) = some r := h
 clear h
 by_cases c2 : (l0.length : Int) > 1048576
 ·rw [if_pos c2] at H
  have c2b0 : decide (1048576 < (l0.length : Int)) = true := decide_eq_true c2
  have c2b1 : decide (1048576 < l0.length) = true := decide_eq_true (by omega)
  clear c2
  obtain rfl := Option.some.inj H
  go_enter Try.func5, Try.ntmps5
  go_wp2
  go_ret
  exact ⟨by first | rfl | (simp [errW_none, errW_some] <;> rfl) | (simp [*, errW_none, errW_some] <;> rfl), pwf_⟩
 ·rw [if_neg c2] at H
  have c2b0 : decide (1048576 < (l0.length : Int)) = false := decide_eq_false c2
  have c2b1 : decide (1048576 < l0.length) = false := decide_eq_false (by omega)
  clear c2
  replace H := Option.bind_eq_some_iff.mp H
  obtain ⟨⟨t334, t335⟩, A30, H⟩ := H
  replace H : ((impl_PeopleRead.f k t334 t335).bind fun t338 => ((spec_PeopleRead.f k t334 t335).bind fun t339 => (if t338 = t339 then (if t338 < 0 then (if t338 = (-1) then ((impl_TermOk.f k t334 t335).bind fun t340 => (if t340 = true then (some false) else ((laws_alive.f).bind fun t341 => (some t341)))) else (some false)) else ((impl_TermText.f k t334 t335).bind fun t342 => (laws_FnPeopleRead.l0 k t334 t338 t342 0))) else (some false)))) = some r := H
  have A3 := Aside0.mk A30
  clear A30
  replace H := Option.bind_eq_some_iff.mp H
  obtain ⟨t338, A40, H⟩ := H
  replace H : ((spec_PeopleRead.f k t334 t335).bind fun t339 => (if t338 = t339 then (if t338 < 0 then (if t338 = (-1) then ((impl_TermOk.f k t334 t335).bind fun t340 => (if t340 = true then (some false) else ((laws_alive.f).bind fun t341 => (some t341)))) else (some false)) else ((impl_TermText.f k t334 t335).bind fun t342 => (laws_FnPeopleRead.l0 k t334 t338 t342 0))) else (some false))) = some r := H
  have A4 := Aside0.mk A40
  clear A40
  replace H := Option.bind_eq_some_iff.mp H
  obtain ⟨t339, A50, H⟩ := H
  replace H : (if t338 = t339 then (if t338 < 0 then (if t338 = (-1) then ((impl_TermOk.f k t334 t335).bind fun t340 => (if t340 = true then (some false) else ((laws_alive.f).bind fun t341 => (some t341)))) else (some false)) else ((impl_TermText.f k t334 t335).bind fun t342 => (laws_FnPeopleRead.l0 k t334 t338 t342 0))) else (some false)) = some r := H
  have A5 := Aside0.mk A50
  clear A50
  by_cases c6 : t338 = t339
  ·rw [if_pos c6] at H
   have c6b0 : (t338 == t339) = true := beq_iff_eq.mpr c6
   have c6b1 : (t338 != t339) = false := bne_eq_false_iff_eq.mpr c6
   clear c6
   by_cases c7 : t338 < 0
   ·rw [if_pos c7] at H
    have c7b0 : decide (t338 < 0) = true := decide_eq_true c7
    clear c7
    by_cases c8 : t338 = (-1)
    ·rw [if_pos c8] at H
     have c8b0 : (t338 == (-1)) = true := beq_iff_eq.mpr c8
     have c8b1 : (t338 != (-1)) = false := bne_eq_false_iff_eq.mpr c8
     clear c8
     replace H := Option.bind_eq_some_iff.mp H
     obtain ⟨t340, A90, H⟩ := H
     replace H : (if t340 = true then (some false) else ((laws_alive.f).bind fun t341 => (some t341))) = some r := H
     have A9 := Aside0.mk A90
     clear A90
     by_cases c10 : t340 = true
     ·subst c10
      have H1 : (some false) = some r := by rw [if_pos rfl] at H; exact H
      clear H
      have H := H1
      clear H1
      obtain rfl := Option.some.inj H
      go_enter Try.func5, Try.ntmps5
      go_wp2_with (first | ((with_reducible refine gate_callee (f := 26) rfl ?_); refine goesL_ (some 15) rfl rfl Try.func26 (by kernel_rfl) rfl #[.slice A0 l0.length c0] rfl pwh_ ?_; (with_reducible refine (spec_DrawPeopleRead.calls k _ _ l0 t334 t335 _ ?side1 ?side2 A3.out).mono ?_); (case side1 => repeat (first | exact HR0.out | (with_reducible refine Kd.C_alloc ?_ _) | (with_reducible refine Kd.C_drewN ?_ _) | (with_reducible refine Kd.C_drew ?_))); (case side2 => exact HC0.out); rintro e w11 ⟨v336, rfl, ho0, hb⟩; refine ⟨_, rfl, ?_⟩; have n0_ := Aside0.mk (Kd.R_lower ho0 (below_size pwf_)); have n1_ := Aside0.mk (below_step pwf_ hb); clear HB; have HO337 := n0_; have HB := n1_; clear n0_ n1_; (try clear hb); (try clear hb2); (try clear hk); (try clear hi); (try clear ho0); obtain ⟨Ao12, co12, eo12⟩ := Kd.R_slice HO337.out; subst eo12) | ((with_reducible refine gate_callee (f := 27) rfl ?_); refine goesL_ (some 20) rfl rfl Try.func27 (by kernel_rfl) rfl #[.int .i64 t334, .slice Ao12 t335.length co12] rfl pwh_ ?_; (with_reducible refine (impl_PeopleRead.calls k t334 _ _ t335 t338 _ ?side1 ?side2 A4.out).mono ?_); (case side1 => repeat (first | exact (Kd.R_reads' HO337.out).2.2 | (with_reducible refine Kd.C_alloc ?_ _) | (with_reducible refine Kd.C_drewN ?_ _) | (with_reducible refine Kd.C_drew ?_))); (case side2 => exact (Kd.R_reads' HO337.out).2.1); rintro e w13 ⟨rfl, hb⟩; refine ⟨_, rfl, ?_⟩; have n0_ := Aside0.mk (Kd.R_below (by (with_reducible repeat apply Kd.R_alloc); exact HO337.out) hb); have n1_ := Aside0.mk (below_step pwf_ hb); clear HO337; clear HB; have HO337 := n0_; have HB := n1_; clear n0_ n1_; (try clear hb); (try clear hb2); (try clear hk); (try clear hi)) | ((with_reducible refine gate_callee (f := 28) rfl ?_); refine goesL_ (some 24) rfl rfl Try.func28 (by kernel_rfl) rfl #[.int .i64 t334, .slice Ao12 t335.length co12] rfl pwh_ ?_; (with_reducible refine (spec_PeopleRead.calls k t334 _ _ t335 t339 _ ?side1 ?side2 A5.out).mono ?_); (case side1 => repeat (first | exact (Kd.R_reads' HO337.out).2.2 | (with_reducible refine Kd.C_alloc ?_ _) | (with_reducible refine Kd.C_drewN ?_ _) | (with_reducible refine Kd.C_drew ?_))); (case side2 => exact (Kd.R_reads' HO337.out).2.1); rintro e w' ⟨rfl, ⟨nd, rfl⟩⟩; refine ⟨_, rfl, ?_⟩) | (go_at_call 21; (with_reducible refine (impl_TermOk.calls k t334 _ _ t335 true _ ?side1 ?side2 A9.out).mono ?_); (case side1 => repeat (first | exact (Kd.R_reads' HO337.out).2.2 | (with_reducible refine Kd.C_alloc ?_ _) | (with_reducible refine Kd.C_drewN ?_ _) | (with_reducible refine Kd.C_drew ?_))); (case side2 => exact (Kd.R_reads' HO337.out).2.1); rintro e w14 ⟨rfl, hb⟩; have n0_ := Aside0.mk (Kd.R_below (by (with_reducible repeat apply Kd.R_alloc); exact HO337.out) hb); have n1_ := Aside0.mk (below_step pwf_ hb); clear HO337; clear HB; have HO337 := n0_; have HB := n1_; clear n0_ n1_; (try clear hb); (try clear hb2); (try clear hk); (try clear hi)))
      go_ret
      exact ⟨by first | rfl | (simp [errW_none, errW_some] <;> rfl) | (simp [*, errW_none, errW_some] <;> rfl), pwf_⟩
     ·replace c10 := Bool.eq_false_iff.mpr c10
      subst c10
      have H1 : ((laws_alive.f).bind fun t341 => (some t341)) = some r := by rw [if_neg (show ¬ (false = true) by decide)] at H; exact H
      clear H
      have H := H1
      clear H1
      replace H := Option.bind_eq_some_iff.mp H
      obtain ⟨t341, A150, H⟩ := H
      replace H : (some t341) = some r := H
      have A15 := Aside0.mk A150
      clear A150
      obtain rfl := Option.some.inj H
      go_enter Try.func5, Try.ntmps5
      go_wp2_with (first | ((with_reducible refine gate_callee (f := 26) rfl ?_); refine goesL_ (some 15) rfl rfl Try.func26 (by kernel_rfl) rfl #[.slice A0 l0.length c0] rfl pwh_ ?_; (with_reducible refine (spec_DrawPeopleRead.calls k _ _ l0 t334 t335 _ ?side1 ?side2 A3.out).mono ?_); (case side1 => repeat (first | exact HR0.out | (with_reducible refine Kd.C_alloc ?_ _) | (with_reducible refine Kd.C_drewN ?_ _) | (with_reducible refine Kd.C_drew ?_))); (case side2 => exact HC0.out); rintro e w16 ⟨v336, rfl, ho0, hb⟩; refine ⟨_, rfl, ?_⟩; have n0_ := Aside0.mk (Kd.R_lower ho0 (below_size pwf_)); have n1_ := Aside0.mk (below_step pwf_ hb); clear HB; have HO337 := n0_; have HB := n1_; clear n0_ n1_; (try clear hb); (try clear hb2); (try clear hk); (try clear hi); (try clear ho0); obtain ⟨Ao17, co17, eo17⟩ := Kd.R_slice HO337.out; subst eo17) | ((with_reducible refine gate_callee (f := 27) rfl ?_); refine goesL_ (some 20) rfl rfl Try.func27 (by kernel_rfl) rfl #[.int .i64 t334, .slice Ao17 t335.length co17] rfl pwh_ ?_; (with_reducible refine (impl_PeopleRead.calls k t334 _ _ t335 t338 _ ?side1 ?side2 A4.out).mono ?_); (case side1 => repeat (first | exact (Kd.R_reads' HO337.out).2.2 | (with_reducible refine Kd.C_alloc ?_ _) | (with_reducible refine Kd.C_drewN ?_ _) | (with_reducible refine Kd.C_drew ?_))); (case side2 => exact (Kd.R_reads' HO337.out).2.1); rintro e w18 ⟨rfl, hb⟩; refine ⟨_, rfl, ?_⟩; have n0_ := Aside0.mk (Kd.R_below (by (with_reducible repeat apply Kd.R_alloc); exact HO337.out) hb); have n1_ := Aside0.mk (below_step pwf_ hb); clear HO337; clear HB; have HO337 := n0_; have HB := n1_; clear n0_ n1_; (try clear hb); (try clear hb2); (try clear hk); (try clear hi)) | ((with_reducible refine gate_callee (f := 28) rfl ?_); refine goesL_ (some 24) rfl rfl Try.func28 (by kernel_rfl) rfl #[.int .i64 t334, .slice Ao17 t335.length co17] rfl pwh_ ?_; (with_reducible refine (spec_PeopleRead.calls k t334 _ _ t335 t339 _ ?side1 ?side2 A5.out).mono ?_); (case side1 => repeat (first | exact (Kd.R_reads' HO337.out).2.2 | (with_reducible refine Kd.C_alloc ?_ _) | (with_reducible refine Kd.C_drewN ?_ _) | (with_reducible refine Kd.C_drew ?_))); (case side2 => exact (Kd.R_reads' HO337.out).2.1); rintro e w' ⟨rfl, ⟨nd, rfl⟩⟩; refine ⟨_, rfl, ?_⟩) | (go_at_call 21; (with_reducible refine (impl_TermOk.calls k t334 _ _ t335 false _ ?side1 ?side2 A9.out).mono ?_); (case side1 => repeat (first | exact (Kd.R_reads' HO337.out).2.2 | (with_reducible refine Kd.C_alloc ?_ _) | (with_reducible refine Kd.C_drewN ?_ _) | (with_reducible refine Kd.C_drew ?_))); (case side2 => exact (Kd.R_reads' HO337.out).2.1); rintro e w19 ⟨rfl, hb⟩; have n0_ := Aside0.mk (Kd.R_below (by (with_reducible repeat apply Kd.R_alloc); exact HO337.out) hb); have n1_ := Aside0.mk (below_step pwf_ hb); clear HO337; clear HB; have HO337 := n0_; have HB := n1_; clear n0_ n1_; (try clear hb); (try clear hb2); (try clear hk); (try clear hi)) | (go_at_call 19; (with_reducible refine (laws_alive.calls  t341 _ A15.out).mono ?_); rintro e w' ⟨rfl, ⟨nd, rfl⟩⟩))
      go_ret
      exact ⟨by first | rfl | (simp [errW_none, errW_some] <;> rfl) | (simp [*, errW_none, errW_some] <;> rfl), pwf_⟩
    ·rw [if_neg c8] at H
     have c8b0 : (t338 == (-1)) = false := beq_eq_false_iff_ne.mpr c8
     have c8b1 : (t338 != (-1)) = true := bne_iff_ne.mpr c8
     obtain rfl := Option.some.inj H
     go_enter Try.func5, Try.ntmps5
     go_wp2_with (first | ((with_reducible refine gate_callee (f := 26) rfl ?_); refine goesL_ (some 15) rfl rfl Try.func26 (by kernel_rfl) rfl #[.slice A0 l0.length c0] rfl pwh_ ?_; (with_reducible refine (spec_DrawPeopleRead.calls k _ _ l0 t334 t335 _ ?side1 ?side2 A3.out).mono ?_); (case side1 => repeat (first | exact HR0.out | (with_reducible refine Kd.C_alloc ?_ _) | (with_reducible refine Kd.C_drewN ?_ _) | (with_reducible refine Kd.C_drew ?_))); (case side2 => exact HC0.out); rintro e w20 ⟨v336, rfl, ho0, hb⟩; refine ⟨_, rfl, ?_⟩; have n0_ := Aside0.mk (Kd.R_lower ho0 (below_size pwf_)); have n1_ := Aside0.mk (below_step pwf_ hb); clear HB; have HO337 := n0_; have HB := n1_; clear n0_ n1_; (try clear hb); (try clear hb2); (try clear hk); (try clear hi); (try clear ho0); obtain ⟨Ao21, co21, eo21⟩ := Kd.R_slice HO337.out; subst eo21) | ((with_reducible refine gate_callee (f := 27) rfl ?_); refine goesL_ (some 20) rfl rfl Try.func27 (by kernel_rfl) rfl #[.int .i64 t334, .slice Ao21 t335.length co21] rfl pwh_ ?_; (with_reducible refine (impl_PeopleRead.calls k t334 _ _ t335 t338 _ ?side1 ?side2 A4.out).mono ?_); (case side1 => repeat (first | exact (Kd.R_reads' HO337.out).2.2 | (with_reducible refine Kd.C_alloc ?_ _) | (with_reducible refine Kd.C_drewN ?_ _) | (with_reducible refine Kd.C_drew ?_))); (case side2 => exact (Kd.R_reads' HO337.out).2.1); rintro e w22 ⟨rfl, hb⟩; refine ⟨_, rfl, ?_⟩; have n0_ := Aside0.mk (Kd.R_below (by (with_reducible repeat apply Kd.R_alloc); exact HO337.out) hb); have n1_ := Aside0.mk (below_step pwf_ hb); clear HO337; clear HB; have HO337 := n0_; have HB := n1_; clear n0_ n1_; (try clear hb); (try clear hb2); (try clear hk); (try clear hi)) | ((with_reducible refine gate_callee (f := 28) rfl ?_); refine goesL_ (some 24) rfl rfl Try.func28 (by kernel_rfl) rfl #[.int .i64 t334, .slice Ao21 t335.length co21] rfl pwh_ ?_; (with_reducible refine (spec_PeopleRead.calls k t334 _ _ t335 t339 _ ?side1 ?side2 A5.out).mono ?_); (case side1 => repeat (first | exact (Kd.R_reads' HO337.out).2.2 | (with_reducible refine Kd.C_alloc ?_ _) | (with_reducible refine Kd.C_drewN ?_ _) | (with_reducible refine Kd.C_drew ?_))); (case side2 => exact (Kd.R_reads' HO337.out).2.1); rintro e w' ⟨rfl, ⟨nd, rfl⟩⟩; refine ⟨_, rfl, ?_⟩))
     go_ret
     exact ⟨by first | rfl | (simp [errW_none, errW_some] <;> rfl) | (simp [*, errW_none, errW_some] <;> rfl), pwf_⟩
   ·rw [if_neg c7] at H
    have c7b0 : decide (t338 < 0) = false := decide_eq_false c7
    clear c7
    replace H := Option.bind_eq_some_iff.mp H
    obtain ⟨t342, A230, H⟩ := H
    replace H : (laws_FnPeopleRead.l0 k t334 t338 t342 0) = some r := H
    have A23 := Aside0.mk A230
    clear A230
    have H' := Aside0.mk H
    clear H
    go_enter Try.func5, Try.ntmps5
    go_wp2_with (first | ((with_reducible refine gate_callee (f := 26) rfl ?_); refine goesL_ (some 15) rfl rfl Try.func26 (by kernel_rfl) rfl #[.slice A0 l0.length c0] rfl pwh_ ?_; (with_reducible refine (spec_DrawPeopleRead.calls k _ _ l0 t334 t335 _ ?side1 ?side2 A3.out).mono ?_); (case side1 => repeat (first | exact HR0.out | (with_reducible refine Kd.C_alloc ?_ _) | (with_reducible refine Kd.C_drewN ?_ _) | (with_reducible refine Kd.C_drew ?_))); (case side2 => exact HC0.out); rintro e w24 ⟨v336, rfl, ho0, hb⟩; refine ⟨_, rfl, ?_⟩; have n0_ := Aside0.mk (Kd.R_lower ho0 (below_size pwf_)); have n1_ := Aside0.mk (below_step pwf_ hb); clear HB; have HO337 := n0_; have HB := n1_; clear n0_ n1_; (try clear hb); (try clear hb2); (try clear hk); (try clear hi); (try clear ho0); obtain ⟨Ao25, co25, eo25⟩ := Kd.R_slice HO337.out; subst eo25) | ((with_reducible refine gate_callee (f := 27) rfl ?_); refine goesL_ (some 20) rfl rfl Try.func27 (by kernel_rfl) rfl #[.int .i64 t334, .slice Ao25 t335.length co25] rfl pwh_ ?_; (with_reducible refine (impl_PeopleRead.calls k t334 _ _ t335 t338 _ ?side1 ?side2 A4.out).mono ?_); (case side1 => repeat (first | exact (Kd.R_reads' HO337.out).2.2 | (with_reducible refine Kd.C_alloc ?_ _) | (with_reducible refine Kd.C_drewN ?_ _) | (with_reducible refine Kd.C_drew ?_))); (case side2 => exact (Kd.R_reads' HO337.out).2.1); rintro e w26 ⟨rfl, hb⟩; refine ⟨_, rfl, ?_⟩; have n0_ := Aside0.mk (Kd.R_below (by (with_reducible repeat apply Kd.R_alloc); exact HO337.out) hb); have n1_ := Aside0.mk (below_step pwf_ hb); clear HO337; clear HB; have HO337 := n0_; have HB := n1_; clear n0_ n1_; (try clear hb); (try clear hb2); (try clear hk); (try clear hi)) | ((with_reducible refine gate_callee (f := 28) rfl ?_); refine goesL_ (some 24) rfl rfl Try.func28 (by kernel_rfl) rfl #[.int .i64 t334, .slice Ao25 t335.length co25] rfl pwh_ ?_; (with_reducible refine (spec_PeopleRead.calls k t334 _ _ t335 t339 _ ?side1 ?side2 A5.out).mono ?_); (case side1 => repeat (first | exact (Kd.R_reads' HO337.out).2.2 | (with_reducible refine Kd.C_alloc ?_ _) | (with_reducible refine Kd.C_drewN ?_ _) | (with_reducible refine Kd.C_drew ?_))); (case side2 => exact (Kd.R_reads' HO337.out).2.1); rintro e w' ⟨rfl, ⟨nd, rfl⟩⟩; refine ⟨_, rfl, ?_⟩) | ((with_reducible refine gate_callee (f := 20) rfl ?_); refine goesL_ (some 41) rfl rfl Try.func20 (by kernel_rfl) rfl #[.int .i64 t334, .slice Ao25 t335.length co25] rfl pwh_ ?_; (with_reducible refine (impl_TermText.calls k t334 _ _ t335 t342 _ ?side1 ?side2 A23.out).mono ?_); (case side1 => repeat (first | exact (Kd.R_reads' HO337.out).2.2 | (with_reducible refine Kd.C_alloc ?_ _) | (with_reducible refine Kd.C_drewN ?_ _) | (with_reducible refine Kd.C_drew ?_))); (case side2 => exact (Kd.R_reads' HO337.out).2.1); rintro e w27 ⟨rfl, hb⟩; refine ⟨_, rfl, ?_⟩; have n0_ := Aside0.mk (Kd.R_below (by (with_reducible repeat apply Kd.R_alloc); exact HO337.out) hb); have n1_ := Aside0.mk (below_step pwf_ hb); clear HO337; clear HB; have HO337 := n0_; have HB := n1_; clear n0_ n1_; (try clear hb); (try clear hb2); (try clear hk); (try clear hi)))
    go_loopg [7] k (fun kq v7 w' => ∃ (x7_1 : Int), v7 = .int .i64 x7_1 ∧ Aside0 (laws_FnPeopleRead.l0 kq t334 t338 t342 x7_1 = some r) ∧ Aside0 (kq ≤ k) ∧ Aside0 (Below w.heap.size w w'))
    case atStart => exact ⟨(0), pwa_, H', ⟨Nat.le_refl _⟩, ⟨pwf_⟩⟩
    case round =>
     clear H'
     try clear c1
     try clear c2
     try clear c2b0
     try clear c2b1
     try clear p2
     try clear c5
     try clear c6
     try clear c6b0
     try clear c6b1
     try clear c7
     try clear c7b0
     try clear c8
     try clear c8b0
     try clear c8b1
     try clear c10
     try clear c20
     try clear c26
     try clear c27
     obtain ⟨x7_1, rfl, HA, HK1, HB⟩ := hrel
     cases gk with
     | zero => exact absurd HA.out (by simp [laws_FnPeopleRead.l0])
     | succ k1 =>
      have H := HA.out
      clear HA
      simp only [laws_FnPeopleRead.l0] at H
      by_cases c28 : x7_1 < t334
      ·rw [if_pos c28] at H
       have c28b0 : decide (x7_1 < t334) = true := decide_eq_true c28
       clear c28
       have H' := Aside0.mk H
       clear H
       go_wp2
       go_loopg [8, 9] k1 (fun kq v8 v9 w' => ∃ (x8_2 : Bool) (x9_2 : Int), v8 = .bool x8_2 ∧ v9 = .int .i64 x9_2 ∧ Aside0 (laws_FnPeopleRead.l1 kq t334 t338 t342 x7_1 x8_2 x9_2 = some r) ∧ Aside0 (kq ≤ k1) ∧ Aside0 (Below w.heap.size w w'))
       case atStart => exact ⟨(false), (0), pwa_, pwa_, H', ⟨Nat.le_refl _⟩, ⟨pwf_⟩⟩
       case round =>
        clear H'
        try clear c1
        try clear c2
        try clear c2b0
        try clear c2b1
        try clear p2
        try clear c5
        try clear c6
        try clear c6b0
        try clear c6b1
        try clear c7
        try clear c7b0
        try clear c8
        try clear c8b0
        try clear c8b1
        try clear c10
        try clear c20
        try clear c26
        try clear c27
        try clear c28
        try clear c28b0
        try clear p2
        obtain ⟨x8_2, x9_2, rfl, rfl, HA, HK2, HB⟩ := hrel
        cases gk with
        | zero => exact absurd HA.out (by simp [laws_FnPeopleRead.l1])
        | succ k2 =>
         have H := HA.out
         clear HA
         simp only [laws_FnPeopleRead.l1] at H
         by_cases c29 : x9_2 < (t342.size : Int)
         ·rw [if_pos c29] at H
          have c29b0 : decide (x9_2 < (t342.size : Int)) = true := decide_eq_true c29
          clear c29
          by_cases c30 : x8_2 = true
          ·subst c30
           have H1 : (laws_FnPeopleRead.l1 k2 t334 t338 t342 x7_1 true (wrap64 (x9_2 + 1))) = some r := by rw [if_pos rfl] at H; exact H
           clear H
           have H := H1
           clear H1
           have H' := Aside0.mk H
           clear H
           go_wp2
           go_roundg k2
           case measure => have := HK1.out; have := HK2.out; omega
           case rel => exact ⟨(true), (wrap64 (x9_2 + 1)), pwa_, pwa_, H', ⟨by have := HK1.out; have := HK2.out; omega⟩, ⟨pwf_⟩⟩
          ·replace c30 := Bool.eq_false_iff.mpr c30
           subst c30
           have H1 : (if 0 ≤ x9_2 then (laws_FnPeopleRead.l1 k2 t334 t338 t342 x7_1 ((wrap64 (bt t342 x9_2)) == (wrap64 (97 + x7_1))) (wrap64 (x9_2 + 1))) else (none)) = some r := by rw [if_neg (show ¬ (false = true) by decide)] at H; exact H
           clear H
           have H := H1
           clear H1
           by_cases c31 : 0 ≤ x9_2
           ·rw [if_pos c31] at H
            have c31b0 : decide (0 ≤ x9_2) = true := decide_eq_true c31
            clear c31
            have H' := Aside0.mk H
            clear H
            have p32 : 0 ≤ (x9_2 : Int) := of_decide_eq_true pwb_
            have q32 : x9_2 < (t342.size : Int) := of_decide_eq_true pwb_
            have hx32 := bt_at t342 x9_2
            replace p32 := eq_true p32
            replace q32 := eq_true q32
            go_wp2
            go_roundg k2
            case measure => have := HK1.out; have := HK2.out; omega
            case rel => exact ⟨(((wrap64 (bt t342 x9_2)) == (wrap64 (97 + x7_1)))), (wrap64 (x9_2 + 1)), pwa_, pwa_, H', ⟨by have := HK1.out; have := HK2.out; omega⟩, ⟨pwf_⟩⟩
           ·rw [if_neg c31] at H
            exact absurd H (by simp)
         ·rw [if_neg c29] at H
          have c29b0 : decide (x9_2 < (t342.size : Int)) = false := decide_eq_false c29
          clear c29
          by_cases c33 : 0 ≤ x7_1
          ·rw [if_pos c33] at H
           have c33b0 := eq_true c33
           have c33b1 : decide (0 ≤ x7_1) = true := decide_eq_true c33
           clear c33
           obtain ⟨ji34, hji34⟩ : ∃ j_ : Int, (shr .i64 t338 x7_1) = j_ := ⟨_, rfl⟩
           replace H : (if (x8_2 != ((Int.tmod (ji34) 2) == 1)) = true then (some false) else (laws_FnPeopleRead.l0 k2 t334 t338 t342 (wrap64 (x7_1 + 1)))) = some r := by first | (rw [hji34] at H; exact H) | (simp only [hji34] at H ⊢; exact H)
           have hji34_ : (t338 / 2 ^ min x7_1.toNat 64) = ji34 := hji34
           have hji34z : x7_1 ≤ 64 → (t338 / 2 ^ x7_1.toNat) = ji34 := shr_small hji34
           by_cases c35 : (x8_2 != ((Int.tmod (ji34) 2) == 1)) = true
           ·rw [if_pos c35] at H
            have c35b0 : (x8_2 != ((Int.tmod (ji34) 2) == 1)) = true := c35
            (try (have c35b1 : decide (x8_2 = ((Int.tmod (ji34) 2) == 1)) = false := by simpa using c35))
            (try (have c35b2 : (x8_2 == ((Int.tmod (ji34) 2) == 1)) = false := by simpa using c35))
            (try (have c35b3 : ¬ (x8_2 = ((Int.tmod (ji34) 2) == 1)) := by simpa using c35))
            clear c35
            obtain rfl := Option.some.inj H
            go_wp2
            go_ret
            exact ⟨by first | rfl | (simp [errW_none, errW_some] <;> rfl) | (simp only [← hji34]; first | rfl | (simp [errW_none, errW_some] <;> rfl)) | (simp [*, errW_none, errW_some] <;> rfl), pwf_⟩
           ·rw [if_neg c35] at H
            have c35b0 : (x8_2 != ((Int.tmod (ji34) 2) == 1)) = false := by simpa using c35
            (try (have c35b1 : decide (x8_2 = ((Int.tmod (ji34) 2) == 1)) = true := by simpa using c35))
            (try (have c35b2 : (x8_2 == ((Int.tmod (ji34) 2) == 1)) = true := by simpa using c35))
            clear c35
            have H' := Aside0.mk H
            clear H
            go_wp2
            go_roundg k2
            case measure => have := HK1.out; have := HK2.out; omega
            case rel => exact ⟨(wrap64 (x7_1 + 1)), pwa_, H', ⟨by have := HK1.out; have := HK2.out; omega⟩, ⟨pwf_⟩⟩
          ·rw [if_neg c33] at H
           exact absurd H (by simp)
      ·rw [if_neg c28] at H
       have c28b0 : decide (x7_1 < t334) = false := decide_eq_false c28
       clear c28
       by_cases c36 : 0 ≤ t334
       ·rw [if_pos c36] at H
        have c36b0 := eq_true c36
        have c36b1 : decide (0 ≤ t334) = true := decide_eq_true c36
        clear c36
        obtain ⟨ji37, hji37⟩ : ∃ j_ : Int, (shl .i64 1 t334) = j_ := ⟨_, rfl⟩
        replace H : (if t338 < (ji37) then (some (decide ((t342.size : Int) > 0))) else (some false)) = some r := by first | (rw [hji37] at H; exact H) | (simp only [hji37] at H ⊢; exact H)
        have hji37_ : (IntKind.i64.wrap (1 * 2 ^ min t334.toNat 64)) = ji37 := hji37
        have hji37z : t334 ≤ 64 → (IntKind.i64.wrap (1 * 2 ^ t334.toNat)) = ji37 := shl_small hji37
        have hji37u : (IntKind.i64.wrap (2 ^ min t334.toNat 64)) = ji37 := by have h_ := hji37_; rw [Int.one_mul] at h_; exact h_
        have hji37v : t334 ≤ 64 → (IntKind.i64.wrap (2 ^ t334.toNat)) = ji37 := fun hle_ => by have h_ := hji37z hle_; rw [Int.one_mul] at h_; exact h_
        have hji37y : (wrap64 (1 * 2 ^ min t334.toNat 64)) = ji37 := (i64_w _).symm.trans hji37_
        have hji37x : t334 ≤ 64 → (wrap64 (1 * 2 ^ t334.toNat)) = ji37 := fun h_ => (i64_w _).symm.trans (hji37z h_)
        by_cases c38 : t338 < (ji37)
        ·rw [if_pos c38] at H
         have c38b0 : decide (t338 < (ji37)) = true := decide_eq_true c38
         clear c38
         obtain rfl := Option.some.inj H
         go_wp2
         go_ret
         exact ⟨by first | rfl | (simp [errW_none, errW_some] <;> rfl) | (simp only [← hji37]; first | rfl | (simp [errW_none, errW_some] <;> rfl)) | (simp [*, errW_none, errW_some] <;> rfl), pwf_⟩
        ·rw [if_neg c38] at H
         have c38b0 : decide (t338 < (ji37)) = false := decide_eq_false c38
         clear c38
         obtain rfl := Option.some.inj H
         go_wp2
         go_ret
         exact ⟨by first | rfl | (simp [errW_none, errW_some] <;> rfl) | (simp only [← hji37]; first | rfl | (simp [errW_none, errW_some] <;> rfl)) | (simp [*, errW_none, errW_some] <;> rfl), pwf_⟩
       ·rw [if_neg c36] at H
        exact absurd H (by simp)
  ·rw [if_neg c6] at H
   have c6b0 : (t338 == t339) = false := beq_eq_false_iff_ne.mpr c6
   have c6b1 : (t338 != t339) = true := bne_iff_ne.mpr c6
   obtain rfl := Option.some.inj H
   go_enter Try.func5, Try.ntmps5
   go_wp2_with (first | ((with_reducible refine gate_callee (f := 26) rfl ?_); refine goesL_ (some 15) rfl rfl Try.func26 (by kernel_rfl) rfl #[.slice A0 l0.length c0] rfl pwh_ ?_; (with_reducible refine (spec_DrawPeopleRead.calls k _ _ l0 t334 t335 _ ?side1 ?side2 A3.out).mono ?_); (case side1 => repeat (first | exact HR0.out | (with_reducible refine Kd.C_alloc ?_ _) | (with_reducible refine Kd.C_drewN ?_ _) | (with_reducible refine Kd.C_drew ?_))); (case side2 => exact HC0.out); rintro e w39 ⟨v336, rfl, ho0, hb⟩; refine ⟨_, rfl, ?_⟩; have n0_ := Aside0.mk (Kd.R_lower ho0 (below_size pwf_)); have n1_ := Aside0.mk (below_step pwf_ hb); clear HB; have HO337 := n0_; have HB := n1_; clear n0_ n1_; (try clear hb); (try clear hb2); (try clear hk); (try clear hi); (try clear ho0); obtain ⟨Ao40, co40, eo40⟩ := Kd.R_slice HO337.out; subst eo40) | ((with_reducible refine gate_callee (f := 27) rfl ?_); refine goesL_ (some 20) rfl rfl Try.func27 (by kernel_rfl) rfl #[.int .i64 t334, .slice Ao40 t335.length co40] rfl pwh_ ?_; (with_reducible refine (impl_PeopleRead.calls k t334 _ _ t335 t338 _ ?side1 ?side2 A4.out).mono ?_); (case side1 => repeat (first | exact (Kd.R_reads' HO337.out).2.2 | (with_reducible refine Kd.C_alloc ?_ _) | (with_reducible refine Kd.C_drewN ?_ _) | (with_reducible refine Kd.C_drew ?_))); (case side2 => exact (Kd.R_reads' HO337.out).2.1); rintro e w41 ⟨rfl, hb⟩; refine ⟨_, rfl, ?_⟩; have n0_ := Aside0.mk (Kd.R_below (by (with_reducible repeat apply Kd.R_alloc); exact HO337.out) hb); have n1_ := Aside0.mk (below_step pwf_ hb); clear HO337; clear HB; have HO337 := n0_; have HB := n1_; clear n0_ n1_; (try clear hb); (try clear hb2); (try clear hk); (try clear hi)) | ((with_reducible refine gate_callee (f := 28) rfl ?_); refine goesL_ (some 24) rfl rfl Try.func28 (by kernel_rfl) rfl #[.int .i64 t334, .slice Ao40 t335.length co40] rfl pwh_ ?_; (with_reducible refine (spec_PeopleRead.calls k t334 _ _ t335 t339 _ ?side1 ?side2 A5.out).mono ?_); (case side1 => repeat (first | exact (Kd.R_reads' HO337.out).2.2 | (with_reducible refine Kd.C_alloc ?_ _) | (with_reducible refine Kd.C_drewN ?_ _) | (with_reducible refine Kd.C_drew ?_))); (case side2 => exact (Kd.R_reads' HO337.out).2.1); rintro e w' ⟨rfl, ⟨nd, rfl⟩⟩; refine ⟨_, rfl, ?_⟩))
   go_ret
   exact ⟨by first | rfl | (simp [errW_none, errW_some] <;> rfl) | (simp [*, errW_none, errW_some] <;> rfl), pwf_⟩

/-- THE ONE PURE STATEMENT of laws_FnPeopleRead: yours. -/
def laws_FnPeopleRead.Pure : Prop := ∀ (l0 : List Int), l0.length ≤ maxLen → l0.length * 1 ≤ 140737488351232 → (∀ x ∈ l0, (Lit.int .u8 x).wf = true) → ∃ k, laws_FnPeopleRead.f k l0 = some true
theorem laws_FnPeopleRead.walk (P : laws_FnPeopleRead.Pure) (a0 : Option Addr) (len0 cap0 : Nat) (z0 : List Int) (w : World) (w0 : (a0 = none ∧ len0 = 0 ∧ cap0 = 0 ∧ z0 = []) ∨ ∃ x, a0 = some x ∧ len0 ≤ cap0 ∧ cap0 ≤ maxLen ∧ z0.length = cap0 ∧ (∀ i, i < z0.length → w.cell? (x.add i) = some (.int .u8 (z0.getD i 0))) ∧ ∀ n ∈ z0, (Lit.int .u8 n).wf = true) (y0 : len0 * 1 ≤ 140737488351232) :
  Calls Try.prog 5 #[.slice a0 len0 cap0] w fun e w' => e = .returned (.bool true) ∧ Below w.heap.size w w' := by
 obtain ⟨l0, rfl, hr0, hm0, hw0, hc0⟩ := ReadsInt.ofRowC w0
 obtain ⟨k, h⟩ := P l0 hm0 y0 hw0
 refine (laws_FnPeopleRead.calls k _ _ l0 true w (Kd.C_of_reads (d := (0 : Int)) (h1 := fun _ => rfl) hr0) hc0 h).mono ?_
 rintro e w' ⟨rfl, hd⟩
 exact ⟨rfl, hd⟩

end Go.Proofs.Ytfhmafmfaoknlaa.PFnPeopleRead
