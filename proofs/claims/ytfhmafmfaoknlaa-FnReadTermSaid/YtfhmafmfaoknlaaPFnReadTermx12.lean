-- Made by a program of this session (wip/tools/patchprint.py), not by the kit itself.
import Derived.Test.YtfhmafmfaoknlaaPFnReadTermx0
namespace Go.Proofs.Ytfhmafmfaoknlaa.PFnReadTerm
open Go.RowKit Go.Proofs.YtfhmafmfaoknlaaW.PrintWords Go.Proofs.YtfhmafmfaoknlaaW.PrintLast Go.Proofs.YtfhmafmfaoknlaaW.PrintMore
attribute [local go_sem] max2_int min2_int max_two min_two max_three min_three max_four min_four   -- for this text's walks alone
set_option linter.unusedVariables false
set_option linter.unusedSimpArgs false

attribute [local go_sem] setCell_isSome


/-! ### spec_l2Atom, spec_l2Level, which call each other -/
mutual
def spec_l2Atom.j0 : Nat → ByteArray → Int → Bool → Option ((List (S62)) × Int)
 | 0, _, _, _ => none
 | k + 1, x0, x1, x17 => if x17 = true then (some ((([] : List (S62))), (-1))) else (if 0 ≤ x1 then (if x1 < (x0.size : Int) then (if (bt x0 x1) ≥ 97 then (spec_l2Atom.j1 k x0 x1 (decide ((bt x0 x1) ≤ 100))) else (spec_l2Atom.j1 k x0 x1 false)) else (none)) else (none))
def spec_l2Atom.j1 : Nat → ByteArray → Int → Bool → Option ((List (S62)) × Int)
 | 0, _, _, _ => none
 | k + 1, x0, x1, x19 => if x19 = true then (if 0 ≤ x1 then (if x1 < (x0.size : Int) then (some ((([(⟨0, ((bt x0 x1) - 97) % 256⟩ : S62)] : List (S62))), wrap64 (x1 + 1))) else (none)) else (none)) else (if 0 ≤ x1 then (if x1 < (x0.size : Int) then (if (bt x0 x1) ≥ 48 then (spec_l2Atom.j2 k x0 x1 (decide ((bt x0 x1) ≤ 53))) else (spec_l2Atom.j2 k x0 x1 false)) else (none)) else (none))
def spec_l2Atom.j2 : Nat → ByteArray → Int → Bool → Option ((List (S62)) × Int)
 | 0, _, _, _ => none
 | k + 1, x0, x1, x39 => if x39 = true then (if 0 ≤ x1 then (if x1 < (x0.size : Int) then (some ((([(⟨1, ((bt x0 x1) - 48) % 256⟩ : S62)] : List (S62))), wrap64 (x1 + 1))) else (none)) else (none)) else (if 0 ≤ x1 then (if x1 < (x0.size : Int) then (if (bt x0 x1) = 33 then ((spec_l2Atom.f k x0 (wrap64 (x1 + 1))).bind fun bt477 => ((some (([] : List (S62)) : List (S62))).bind fun y481 => (if y481.length + bt477.1.length < 8796093022208 then ((some (y481 ++ bt477.1 : List (S62))).bind fun y484 => (if y484.length < 8796093022208 then (some ((y484 ++ [(⟨2, 0⟩ : S62)]), bt477.2)) else (none))) else (none)))) else (if (bt x0 x1) = 40 then ((spec_l2Level.f k x0 (wrap64 (x1 + 1)) 5).bind fun bt490 => (if bt490.2 < 0 then (some ((([] : List (S62))), (-1))) else (if bt490.2 ≥ (x0.size : Int) then (some ((([] : List (S62))), (-1))) else (if 0 ≤ bt490.2 then (if bt490.2 < (x0.size : Int) then (if (bt x0 bt490.2) = 41 then (some (bt490.1, wrap64 (bt490.2 + 1))) else (some ((([] : List (S62))), (-1)))) else (none)) else (none))))) else (some ((([] : List (S62))), (-1))))) else (none)) else (none))
def spec_l2Atom.f : Nat → ByteArray → Int → Option ((List (S62)) × Int)
 | 0, _, _ => none
 | k + 1, a0, a1 => if a1 < 0 then (spec_l2Atom.j0 k a0 a1 true) else (spec_l2Atom.j0 k a0 a1 (decide (a1 ≥ (a0.size : Int))))
def spec_l2Level.l0 : Nat → ByteArray → Int → Int → List (S62) → Int → Option ((List (S62)) × Int)
 | 0, _, _, _, _, _ => none
 | k + 1, x0, x2, x8, x9, x10 => if x10 ≥ 0 then (if x10 < (x0.size : Int) then (if 0 ≤ x10 then (if (bt x0 x10) = x8 then ((spec_l2Level.f k x0 (wrap64 (x10 + 1)) (wrap64 (x2 - 1))).bind fun bt514 => ((some (([] : List (S62)) : List (S62))).bind fun y518 => (if y518.length + x9.length < 8796093022208 then ((some (y518 ++ x9 : List (S62))).bind fun y521 => (if y521.length + bt514.1.length < 8796093022208 then ((some (y521 ++ bt514.1 : List (S62))).bind fun y524 => (if y524.length < 8796093022208 then (spec_l2Level.l0 k x0 x2 x8 (y524 ++ [(⟨x2, 0⟩ : S62)]) bt514.2) else (none))) else (none))) else (none)))) else (some (x9, x10))) else (none)) else (some (x9, x10))) else (some (x9, x10))
def spec_l2Level.f : Nat → ByteArray → Int → Int → Option ((List (S62)) × Int)
 | 0, _, _, _ => none
 | k + 1, a0, a1, a2 => if a2 = 2 then ((spec_l2Atom.f k a0 a1).bind fun bt506 => (some (bt506.1, bt506.2))) else (if 0 ≤ (wrap64 (a2 - 3)) then (if (wrap64 (a2 - 3)) < 3 then ((spec_l2Level.f k a0 a1 (wrap64 (a2 - 1))).bind fun bt510 => (spec_l2Level.l0 k a0 a2 (bt (⟨#[38, 124, 61]⟩ : ByteArray) (wrap64 (a2 - 3))) bt510.1 bt510.2)) else (none)) else (none))
end
theorem l2Level_l2Atom_c.mono_l : ∀ k, ((∀ y0 y1, LeO (spec_l2Atom.f k y0 y1) (spec_l2Atom.f (k + 1) y0 y1)) ∧ (∀ y0 y1 y2, LeO (spec_l2Atom.j0 k y0 y1 y2) (spec_l2Atom.j0 (k + 1) y0 y1 y2)) ∧ (∀ y0 y1 y2, LeO (spec_l2Atom.j1 k y0 y1 y2) (spec_l2Atom.j1 (k + 1) y0 y1 y2)) ∧ (∀ y0 y1 y2, LeO (spec_l2Atom.j2 k y0 y1 y2) (spec_l2Atom.j2 (k + 1) y0 y1 y2))) ∧ ((∀ y0 y1 y2, LeO (spec_l2Level.f k y0 y1 y2) (spec_l2Level.f (k + 1) y0 y1 y2)) ∧ (∀ y0 y1 y2 y3 y4, LeO (spec_l2Level.l0 k y0 y1 y2 y3 y4) (spec_l2Level.l0 (k + 1) y0 y1 y2 y3 y4)))
 | 0 => ⟨⟨fun _ _ r h => by simp [spec_l2Atom.f] at h, fun _ _ _ r h => by simp [spec_l2Atom.j0] at h, fun _ _ _ r h => by simp [spec_l2Atom.j1] at h, fun _ _ _ r h => by simp [spec_l2Atom.j2] at h⟩, ⟨fun _ _ _ r h => by simp [spec_l2Level.f] at h, fun _ _ _ _ _ r h => by simp [spec_l2Level.l0] at h⟩⟩
 | k + 1 => by
  obtain ⟨g0_, g1_⟩ := l2Level_l2Atom_c.mono_l k
  refine ⟨?_, ?_⟩
  case refine_1 =>
   obtain ⟨ih0, ih1, ih2, ih3⟩ := g0_
   refine ⟨?_, ?_, ?_, ?_⟩
   ·intro y0 y1
    unfold spec_l2Atom.f
    repeat' first
    | (with_reducible exact ih0 _ _)
    | (with_reducible exact ih1 _ _ _)
    | (with_reducible exact ih2 _ _ _)
    | (with_reducible exact ih3 _ _ _)
    | (with_reducible exact g1_.1 _ _ _)
    | (with_reducible exact LeO.refl _)
    | (with_reducible exact LeO.none _)
    | (with_reducible refine LeO.ite ?_ ?_)
    | (with_reducible refine LeO.bind ?_ (fun _ => ?_))
    | exact ih0 _ _
    | exact ih1 _ _ _
    | exact ih2 _ _ _
    | exact ih3 _ _ _
    | exact g1_.1 _ _ _
    | exact LeO.none _
    | refine LeO.ite ?_ ?_
    | refine LeO.bind ?_ (fun _ => ?_)
   ·intro y0 y1 y2
    unfold spec_l2Atom.j0
    repeat' first
    | (with_reducible exact ih0 _ _)
    | (with_reducible exact ih1 _ _ _)
    | (with_reducible exact ih2 _ _ _)
    | (with_reducible exact ih3 _ _ _)
    | (with_reducible exact g1_.1 _ _ _)
    | (with_reducible exact LeO.refl _)
    | (with_reducible exact LeO.none _)
    | (with_reducible refine LeO.ite ?_ ?_)
    | (with_reducible refine LeO.bind ?_ (fun _ => ?_))
    | exact ih0 _ _
    | exact ih1 _ _ _
    | exact ih2 _ _ _
    | exact ih3 _ _ _
    | exact g1_.1 _ _ _
    | exact LeO.none _
    | refine LeO.ite ?_ ?_
    | refine LeO.bind ?_ (fun _ => ?_)
   ·intro y0 y1 y2
    unfold spec_l2Atom.j1
    repeat' first
    | (with_reducible exact ih0 _ _)
    | (with_reducible exact ih1 _ _ _)
    | (with_reducible exact ih2 _ _ _)
    | (with_reducible exact ih3 _ _ _)
    | (with_reducible exact g1_.1 _ _ _)
    | (with_reducible exact LeO.refl _)
    | (with_reducible exact LeO.none _)
    | (with_reducible refine LeO.ite ?_ ?_)
    | (with_reducible refine LeO.bind ?_ (fun _ => ?_))
    | exact ih0 _ _
    | exact ih1 _ _ _
    | exact ih2 _ _ _
    | exact ih3 _ _ _
    | exact g1_.1 _ _ _
    | exact LeO.none _
    | refine LeO.ite ?_ ?_
    | refine LeO.bind ?_ (fun _ => ?_)
   ·intro y0 y1 y2
    unfold spec_l2Atom.j2
    repeat' first
    | (with_reducible exact ih0 _ _)
    | (with_reducible exact ih1 _ _ _)
    | (with_reducible exact ih2 _ _ _)
    | (with_reducible exact ih3 _ _ _)
    | (with_reducible exact g1_.1 _ _ _)
    | (with_reducible exact LeO.refl _)
    | (with_reducible exact LeO.none _)
    | (with_reducible refine LeO.ite ?_ ?_)
    | (with_reducible refine LeO.bind ?_ (fun _ => ?_))
    | exact ih0 _ _
    | exact ih1 _ _ _
    | exact ih2 _ _ _
    | exact ih3 _ _ _
    | exact g1_.1 _ _ _
    | exact LeO.none _
    | refine LeO.ite ?_ ?_
    | refine LeO.bind ?_ (fun _ => ?_)
  case refine_2 =>
   obtain ⟨ih0, ih1⟩ := g1_
   refine ⟨?_, ?_⟩
   ·intro y0 y1 y2
    unfold spec_l2Level.f
    repeat' first
    | (with_reducible exact ih0 _ _ _)
    | (with_reducible exact ih1 _ _ _ _ _)
    | (with_reducible exact g0_.1 _ _)
    | (with_reducible exact LeO.refl _)
    | (with_reducible exact LeO.none _)
    | (with_reducible refine LeO.ite ?_ ?_)
    | (with_reducible refine LeO.bind ?_ (fun _ => ?_))
    | exact ih0 _ _ _
    | exact ih1 _ _ _ _ _
    | exact g0_.1 _ _
    | exact LeO.none _
    | refine LeO.ite ?_ ?_
    | refine LeO.bind ?_ (fun _ => ?_)
   ·intro y0 y1 y2 y3 y4
    unfold spec_l2Level.l0
    repeat' first
    | (with_reducible exact ih0 _ _ _)
    | (with_reducible exact ih1 _ _ _ _ _)
    | (with_reducible exact g0_.1 _ _)
    | (with_reducible exact LeO.refl _)
    | (with_reducible exact LeO.none _)
    | (with_reducible refine LeO.ite ?_ ?_)
    | (with_reducible refine LeO.bind ?_ (fun _ => ?_))
    | exact ih0 _ _ _
    | exact ih1 _ _ _ _ _
    | exact g0_.1 _ _
    | exact LeO.none _
    | refine LeO.ite ?_ ?_
    | refine LeO.bind ?_ (fun _ => ?_)
theorem spec_l2Atom.mono : ∀ a0 a1 k, LeO (spec_l2Atom.f k a0 a1) (spec_l2Atom.f (k + 1) a0 a1) := by
 intro a0 a1 k
 obtain ⟨ih0, ih1, ih2, ih3⟩ := (l2Level_l2Atom_c.mono_l k).1
 exact ih0 a0 a1
theorem spec_l2Level.mono : ∀ a0 a1 a2 k, LeO (spec_l2Level.f k a0 a1 a2) (spec_l2Level.f (k + 1) a0 a1 a2) := by
 intro a0 a1 a2 k
 obtain ⟨ih0, ih1⟩ := (l2Level_l2Atom_c.mono_l k).2
 exact ih0 a0 a1 a2
set_option maxHeartbeats 8000000 in
set_option maxRecDepth 100000 in
theorem spec_l2Atom.step (k : Nat) (h0_ : ∀ m_, m_ < k → ∀ (a0 : ByteArray) (a1 : Int) (r1 : List (S62)) (r2 : Int) (w : World) (h : spec_l2Atom.f m_ a0 a1 = some (r1, r2)),
  Calls Try.prog 91 #[.string a0, .int .i64 a1] w fun e w' => ∃ v0_ : Value, e = .returned (.tuple #[v0_, .int .i64 r2]) ∧ Kd.R k62 62 w' w.heap.size (fun _ => True) v0_ r1 ∧ Below w.heap.size w w') (h1_ : ∀ m_, m_ < k → ∀ (a0 : ByteArray) (a1 : Int) (a2 : Int) (r1 : List (S62)) (r2 : Int) (w : World) (h : spec_l2Level.f m_ a0 a1 a2 = some (r1, r2)),
  Calls Try.prog 64 #[.string a0, .int .i64 a1, .int .i64 a2] w fun e w' => ∃ v0_ : Value, e = .returned (.tuple #[v0_, .int .i64 r2]) ∧ Kd.R k62 62 w' w.heap.size (fun _ => True) v0_ r1 ∧ Below w.heap.size w w') : ∀ (a0 : ByteArray) (a1 : Int) (r1 : List (S62)) (r2 : Int) (w : World) (h : spec_l2Atom.f k a0 a1 = some (r1, r2)),
  Calls Try.prog 91 #[.string a0, .int .i64 a1] w fun e w' => ∃ v0_ : Value, e = .returned (.tuple #[v0_, .int .i64 r2]) ∧ Kd.R k62 62 w' w.heap.size (fun _ => True) v0_ r1 ∧ Below w.heap.size w w' := by
 have ih := h0_
 intro a0 a1 r1 r2 w h
 cases k with
 | zero => exact absurd h (by simp [spec_l2Atom.f])
 | succ k =>
 simp only [spec_l2Atom.f] at h
 have hu62 := Try.underlying62
 have HB := Aside0.mk (Below.refl w.heap.size w)
 have H : (if a1 < 0 then (spec_l2Atom.j0 k a0 a1 true) else (spec_l2Atom.j0 k a0 a1 (decide (a1 ≥ (a0.size : Int))))) = some (r1, r2) := h
 clear h
 have HC3 := Aside0.mk H
 clear H
 go_enter Try.func91, Try.ntmps91
 go_upto_region 1 with (fail)
 go_cut [17] (fun v17 wc => ∃ (kq : Nat) (x17_2 : Bool), v17 = .bool x17_2 ∧ Aside0 (spec_l2Atom.j0 kq a0 a1 x17_2 = some (r1, r2)) ∧ Aside0 (kq ≤ k) ∧ Aside0 (Below w.heap.size w wc))
 case first =>
  have H := HC3.out
  clear HC3
  by_cases c4 : a1 < 0
  ·rw [if_pos c4] at H
   have c4b0 : decide (a1 < 0) = true := decide_eq_true c4
   clear c4
   (first | rw [c4b0] | (simp only [i64_w, i32_w]; rw [c4b0]) | skip)
   have H' := Aside0.mk H
   clear H
   go_wp2
   go_meet
   case rel => exact ⟨_, (true), pwa_, H', ⟨by first | omega | exact Nat.le_refl _⟩, ⟨pwi_⟩⟩
  ·rw [if_neg c4] at H
   have c4b0 : decide (a1 < 0) = false := decide_eq_false c4
   clear c4
   (first | rw [c4b0] | (simp only [i64_w, i32_w]; rw [c4b0]) | skip)
   have H' := Aside0.mk H
   clear H
   go_wp2
   go_meet
   case rel => exact ⟨_, (decide (a1 ≥ (a0.size : Int))), pwa_, H', ⟨by first | omega | exact Nat.le_refl _⟩, ⟨pwi_⟩⟩
 case rest =>
  clear HC3
  try clear p2
  try clear c4
  try clear c4b0
  obtain ⟨kq, x17_2, rfl, HA, HJ2, HB⟩ := hcut
  cases kq with
  | zero => exact absurd HA.out (by simp [spec_l2Atom.j0])
  | succ kj2 =>
   have H := HA.out
   clear HA
   simp only [spec_l2Atom.j0] at H
   by_cases c5 : x17_2 = true
   ·subst c5
    have H1 : (some ((([] : List (S62))), (-1))) = some (r1, r2) := by rw [if_pos rfl] at H; exact H
    clear H
    have H := H1
    clear H1
    obtain ⟨y468, hy468⟩ : ∃ y_ : List (S62), y_ = (([] : List (S62))) := ⟨_, rfl⟩
    replace H : (some (y468, (-1))) = some (r1, r2) := by first | (rw [hy468]; with_reducible exact H) | (have H2_ := (Option.bind_some _ _).symm.trans H; rw [hy468]; with_reducible exact H2_) | (have H2_ := (Option.bind_some _ _).symm.trans H; with_reducible exact H2_) | with_reducible exact H | (rw [hy468]; exact H) | exact H
    have Ny468 := Aside0.mk hy468
    clear hy468
    simp only [Option.some.injEq, Prod.mk.injEq] at H
    obtain ⟨rfl, rfl⟩ := H
    go_wp2_with (first | ((with_reducible refine gate_dst (N := 18) rfl ?_); (try (refine gate_guard (by rfl) ?_; dsimp only)); refine Kd.R_lit k62 _ 62 ?hg (N := 18) ?hd (xs := ([] : List (S62))) (inner := []) (ok := fun _ => True) (okp := fun _ => True) ?hr ?hp (fun _ hk => hk) trivial (Below.refl _ _) (Nat.le_refl _) (by simp) ?_; (case hd => rfl); (case hg => rfl); (case hr => first | (go_simp; done) | (go_simp; rfl)); (case hp => exact (Reps.none _ _)); intro v469 w6 ho7 hb hg_ hnew_; clear hg_ hnew_; (first | rw [← Ny468.out] at ho7 | (simp only [Int.reduceToNat] at ho7; rw [← Ny468.out] at ho7)); have n0_ := Aside0.mk (Kd.R_lower ho7 (below_size pwi_)); have n1_ := Aside0.mk (below_step pwi_ hb); clear HB; have HO470 := n0_; have HB := n1_; clear n0_ n1_; clear hb ho7))
    go_ret2
    exact ⟨_, by first | rfl | (simp [errW_none, errW_some] <;> rfl) | (simp [*, errW_none, errW_some] <;> rfl), by (with_reducible repeat apply Kd.R_alloc); exact HO470.out, pwi_⟩
   ·replace c5 := Bool.eq_false_iff.mpr c5
    subst c5
    have H1 : (if 0 ≤ a1 then (if a1 < (a0.size : Int) then (if (bt a0 a1) ≥ 97 then (spec_l2Atom.j1 kj2 a0 a1 (decide ((bt a0 a1) ≤ 100))) else (spec_l2Atom.j1 kj2 a0 a1 false)) else (none)) else (none)) = some (r1, r2) := by rw [if_neg (show ¬ (false = true) by decide)] at H; exact H
    clear H
    have H := H1
    clear H1
    have HC8 := Aside0.mk H
    clear H
    go_upto_region 3 with (fail)
    go_cut [19] (fun v19 wc => ∃ (kq : Nat) (x19_7 : Bool), v19 = .bool x19_7 ∧ Aside0 (spec_l2Atom.j1 kq a0 a1 x19_7 = some (r1, r2)) ∧ Aside0 (kq ≤ kj2) ∧ Aside0 (Below w.heap.size w wc))
    case first =>
     have H := HC8.out
     clear HC8
     by_cases c9 : 0 ≤ a1
     ·rw [if_pos c9] at H
      have c9b0 : decide (0 ≤ a1) = true := decide_eq_true c9
      clear c9
      (first | rw [c9b0] | (simp only [i64_w, i32_w]; rw [c9b0]) | skip)
      by_cases c10 : a1 < (a0.size : Int)
      ·rw [if_pos c10] at H
       have c10b0 : decide (a1 < (a0.size : Int)) = true := decide_eq_true c10
       clear c10
       by_cases c12 : (bt a0 a1) ≥ 97
       ·rw [if_pos c12] at H
        have c12b0 : decide (97 ≤ (bt a0 a1)) = true := decide_eq_true c12
        clear c12
        have H' := Aside0.mk H
        clear H
        have p11 : 0 ≤ (a1 : Int) := of_decide_eq_true pwb_
        have q11 : a1 < (a0.size : Int) := of_decide_eq_true pwb_
        have hx11 := bt_at a0 a1
        replace p11 := eq_true p11
        replace q11 := eq_true q11
        have p13 : 0 ≤ (a1 : Int) := of_decide_eq_true pwb_
        have q13 : a1 < (a0.size : Int) := of_decide_eq_true pwb_
        have hx13 := bt_at a0 a1
        replace p13 := eq_true p13
        replace q13 := eq_true q13
        go_wp2
        go_meet
        case rel => exact ⟨_, (decide ((bt a0 a1) ≤ 100)), pwa_, H', ⟨by have := HJ2.out; first | omega | exact Nat.le_refl _⟩, ⟨pwi_⟩⟩
       ·rw [if_neg c12] at H
        have c12b0 : decide (97 ≤ (bt a0 a1)) = false := decide_eq_false c12
        clear c12
        have H' := Aside0.mk H
        clear H
        have p11 : 0 ≤ (a1 : Int) := of_decide_eq_true pwb_
        have q11 : a1 < (a0.size : Int) := of_decide_eq_true pwb_
        have hx11 := bt_at a0 a1
        replace p11 := eq_true p11
        replace q11 := eq_true q11
        go_wp2
        go_meet
        case rel => exact ⟨_, (false), pwa_, H', ⟨by have := HJ2.out; first | omega | exact Nat.le_refl _⟩, ⟨pwi_⟩⟩
      ·rw [if_neg c10] at H
       exact absurd H (by simp)
     ·rw [if_neg c9] at H
      exact absurd H (by simp)
    case rest =>
     clear HC8
     try clear c1
     try clear p1
     try clear q1
     try clear hx1
     try clear p2
     try clear c4
     try clear c4b0
     try clear c5
     try clear c9
     try clear c9b0
     try clear c10
     try clear c10b0
     try clear p11
     try clear q11
     try clear hx11
     try clear c12
     try clear c12b0
     try clear p13
     try clear q13
     try clear hx13
     try clear p11
     try clear p13
     try clear p2
     try clear q11
     try clear q13
     obtain ⟨kq, x19_7, rfl, HA, HJ7, HB⟩ := hcut
     cases kq with
     | zero => exact absurd HA.out (by simp [spec_l2Atom.j1])
     | succ kj7 =>
      have H := HA.out
      clear HA
      simp only [spec_l2Atom.j1] at H
      by_cases c14 : x19_7 = true
      ·subst c14
       have H1 : (if 0 ≤ a1 then (if a1 < (a0.size : Int) then (some ((([(⟨0, ((bt a0 a1) - 97) % 256⟩ : S62)] : List (S62))), wrap64 (a1 + 1))) else (none)) else (none)) = some (r1, r2) := by rw [if_pos rfl] at H; exact H
       clear H
       have H := H1
       clear H1
       by_cases c15 : 0 ≤ a1
       ·rw [if_pos c15] at H
        have c15b0 : decide (0 ≤ a1) = true := decide_eq_true c15
        clear c15
        by_cases c16 : a1 < (a0.size : Int)
        ·rw [if_pos c16] at H
         have c16b0 : decide (a1 < (a0.size : Int)) = true := decide_eq_true c16
         clear c16
         obtain ⟨y471, hy471⟩ : ∃ y_ : List (S62), y_ = (([(⟨0, ((bt a0 a1) - 97) % 256⟩ : S62)] : List (S62))) := ⟨_, rfl⟩
         replace H : (some (y471, wrap64 (a1 + 1))) = some (r1, r2) := by first | (rw [hy471]; with_reducible exact H) | (have H2_ := (Option.bind_some _ _).symm.trans H; rw [hy471]; with_reducible exact H2_) | (have H2_ := (Option.bind_some _ _).symm.trans H; with_reducible exact H2_) | with_reducible exact H | (rw [hy471]; exact H) | exact H
         have Ny471 := Aside0.mk hy471
         clear hy471
         simp only [Option.some.injEq, Prod.mk.injEq] at H
         obtain ⟨rfl, rfl⟩ := H
         have p17 : 0 ≤ (a1 : Int) := of_decide_eq_true pwb_
         have q17 : a1 < (a0.size : Int) := of_decide_eq_true pwb_
         have hx17 := bt_at a0 a1
         replace p17 := eq_true p17
         replace q17 := eq_true q17
         go_wp2_with (first | ((with_reducible refine gate_dst (N := 36) rfl ?_); (try (refine gate_guard (by rfl) ?_; dsimp only)); refine Kd.R_lit k62 _ 62 ?hg (N := 36) ?hd (xs := ([(⟨0, ((bt a0 a1) - 97) % 256⟩ : S62)] : List (S62))) (inner := [.int .i64 0, .int .i64 (((bt a0 a1) - 97) % 256)]) (ok := fun _ => True) (okp := fun _ => True) ?hr ?hp (fun _ hk => hk) trivial (Below.refl _ _) (Nat.le_refl _) (by simp) ?_; (case hd => rfl); (case hg => rfl); (case hr => first | (go_simp; done) | (go_simp; rfl)); (case hp => exact (Reps.c2 (show Kd.M k62 _ _ _ (⟨0, ((bt a0 a1) - 97) % 256⟩ : S62) [.int .i64 0, .int .i64 (((bt a0 a1) - 97) % 256)] from (k62_mkM _ _ _ (⟨0, ((bt a0 a1) - 97) % 256⟩ : S62) )) (Reps.none _ _))); intro v472 w18 ho19 hb hg_ hnew_; clear hg_ hnew_; (first | rw [← Ny471.out] at ho19 | (simp only [Int.reduceToNat] at ho19; rw [← Ny471.out] at ho19)); have n0_ := Aside0.mk (Kd.R_lower ho19 (below_size pwi_)); have n1_ := Aside0.mk (below_step pwi_ hb); clear HB; have HO473 := n0_; have HB := n1_; clear n0_ n1_; clear hb ho19))
         go_ret2
         exact ⟨_, by first | rfl | (simp [errW_none, errW_some] <;> rfl) | (simp [*, errW_none, errW_some] <;> rfl), by (with_reducible repeat apply Kd.R_alloc); exact HO473.out, pwi_⟩
        ·rw [if_neg c16] at H
         exact absurd H (by simp)
       ·rw [if_neg c15] at H
        exact absurd H (by simp)
      ·replace c14 := Bool.eq_false_iff.mpr c14
       subst c14
       have H1 : (if 0 ≤ a1 then (if a1 < (a0.size : Int) then (if (bt a0 a1) ≥ 48 then (spec_l2Atom.j2 kj7 a0 a1 (decide ((bt a0 a1) ≤ 53))) else (spec_l2Atom.j2 kj7 a0 a1 false)) else (none)) else (none)) = some (r1, r2) := by rw [if_neg (show ¬ (false = true) by decide)] at H; exact H
       clear H
       have H := H1
       clear H1
       have HC20 := Aside0.mk H
       clear H
       go_upto_region 5 with (fail)
       go_cut [39] (fun v39 wc => ∃ (kq : Nat) (x39_19 : Bool), v39 = .bool x39_19 ∧ Aside0 (spec_l2Atom.j2 kq a0 a1 x39_19 = some (r1, r2)) ∧ Aside0 (kq ≤ kj7) ∧ Aside0 (Below w.heap.size w wc))
       case first =>
        have H := HC20.out
        clear HC20
        by_cases c21 : 0 ≤ a1
        ·rw [if_pos c21] at H
         have c21b0 : decide (0 ≤ a1) = true := decide_eq_true c21
         clear c21
         (first | rw [c21b0] | (simp only [i64_w, i32_w]; rw [c21b0]) | skip)
         by_cases c22 : a1 < (a0.size : Int)
         ·rw [if_pos c22] at H
          have c22b0 : decide (a1 < (a0.size : Int)) = true := decide_eq_true c22
          clear c22
          by_cases c24 : (bt a0 a1) ≥ 48
          ·rw [if_pos c24] at H
           have c24b0 : decide (48 ≤ (bt a0 a1)) = true := decide_eq_true c24
           clear c24
           have H' := Aside0.mk H
           clear H
           have p23 : 0 ≤ (a1 : Int) := of_decide_eq_true pwb_
           have q23 : a1 < (a0.size : Int) := of_decide_eq_true pwb_
           have hx23 := bt_at a0 a1
           replace p23 := eq_true p23
           replace q23 := eq_true q23
           have p25 : 0 ≤ (a1 : Int) := of_decide_eq_true pwb_
           have q25 : a1 < (a0.size : Int) := of_decide_eq_true pwb_
           have hx25 := bt_at a0 a1
           replace p25 := eq_true p25
           replace q25 := eq_true q25
           go_wp2
           go_meet
           case rel => exact ⟨_, (decide ((bt a0 a1) ≤ 53)), pwa_, H', ⟨by have := HJ2.out; have := HJ7.out; first | omega | exact Nat.le_refl _⟩, ⟨pwi_⟩⟩
          ·rw [if_neg c24] at H
           have c24b0 : decide (48 ≤ (bt a0 a1)) = false := decide_eq_false c24
           clear c24
           have H' := Aside0.mk H
           clear H
           have p23 : 0 ≤ (a1 : Int) := of_decide_eq_true pwb_
           have q23 : a1 < (a0.size : Int) := of_decide_eq_true pwb_
           have hx23 := bt_at a0 a1
           replace p23 := eq_true p23
           replace q23 := eq_true q23
           go_wp2
           go_meet
           case rel => exact ⟨_, (false), pwa_, H', ⟨by have := HJ2.out; have := HJ7.out; first | omega | exact Nat.le_refl _⟩, ⟨pwi_⟩⟩
         ·rw [if_neg c22] at H
          exact absurd H (by simp)
        ·rw [if_neg c21] at H
         exact absurd H (by simp)
       case rest =>
        clear HC20
        try clear c1
        try clear p1
        try clear q1
        try clear hx1
        try clear c2
        try clear p2
        try clear q2
        try clear hx2
        try clear c4
        try clear c4b0
        try clear c5
        try clear p6
        try clear c9
        try clear c9b0
        try clear c10
        try clear c10b0
        try clear p11
        try clear q11
        try clear hx11
        try clear c12
        try clear c12b0
        try clear p13
        try clear q13
        try clear hx13
        try clear c14
        try clear c15
        try clear c15b0
        try clear c16
        try clear c16b0
        try clear p17
        try clear q17
        try clear hx17
        try clear c21
        try clear c21b0
        try clear c22
        try clear c22b0
        try clear p23
        try clear q23
        try clear hx23
        try clear c24
        try clear c24b0
        try clear p25
        try clear q25
        try clear hx25
        try clear p1
        try clear p11
        try clear p13
        try clear p17
        try clear p2
        try clear p23
        try clear p25
        try clear q1
        try clear q11
        try clear q13
        try clear q17
        try clear q23
        try clear q25
        obtain ⟨kq, x39_19, rfl, HA, HJ19, HB⟩ := hcut
        cases kq with
        | zero => exact absurd HA.out (by simp [spec_l2Atom.j2])
        | succ kj19 =>
         have H := HA.out
         clear HA
         simp only [spec_l2Atom.j2] at H
         by_cases c26 : x39_19 = true
         ·subst c26
          have H1 : (if 0 ≤ a1 then (if a1 < (a0.size : Int) then (some ((([(⟨1, ((bt a0 a1) - 48) % 256⟩ : S62)] : List (S62))), wrap64 (a1 + 1))) else (none)) else (none)) = some (r1, r2) := by rw [if_pos rfl] at H; exact H
          clear H
          have H := H1
          clear H1
          by_cases c27 : 0 ≤ a1
          ·rw [if_pos c27] at H
           have c27b0 : decide (0 ≤ a1) = true := decide_eq_true c27
           clear c27
           by_cases c28 : a1 < (a0.size : Int)
           ·rw [if_pos c28] at H
            have c28b0 : decide (a1 < (a0.size : Int)) = true := decide_eq_true c28
            clear c28
            obtain ⟨y474, hy474⟩ : ∃ y_ : List (S62), y_ = (([(⟨1, ((bt a0 a1) - 48) % 256⟩ : S62)] : List (S62))) := ⟨_, rfl⟩
            replace H : (some (y474, wrap64 (a1 + 1))) = some (r1, r2) := by first | (rw [hy474]; with_reducible exact H) | (have H2_ := (Option.bind_some _ _).symm.trans H; rw [hy474]; with_reducible exact H2_) | (have H2_ := (Option.bind_some _ _).symm.trans H; with_reducible exact H2_) | with_reducible exact H | (rw [hy474]; exact H) | exact H
            have Ny474 := Aside0.mk hy474
            clear hy474
            simp only [Option.some.injEq, Prod.mk.injEq] at H
            obtain ⟨rfl, rfl⟩ := H
            have p29 : 0 ≤ (a1 : Int) := of_decide_eq_true pwb_
            have q29 : a1 < (a0.size : Int) := of_decide_eq_true pwb_
            have hx29 := bt_at a0 a1
            replace p29 := eq_true p29
            replace q29 := eq_true q29
            go_wp2_with (first | ((with_reducible refine gate_dst (N := 56) rfl ?_); (try (refine gate_guard (by rfl) ?_; dsimp only)); refine Kd.R_lit k62 _ 62 ?hg (N := 56) ?hd (xs := ([(⟨1, ((bt a0 a1) - 48) % 256⟩ : S62)] : List (S62))) (inner := [.int .i64 1, .int .i64 (((bt a0 a1) - 48) % 256)]) (ok := fun _ => True) (okp := fun _ => True) ?hr ?hp (fun _ hk => hk) trivial (Below.refl _ _) (Nat.le_refl _) (by simp) ?_; (case hd => rfl); (case hg => rfl); (case hr => first | (go_simp; done) | (go_simp; rfl)); (case hp => exact (Reps.c2 (show Kd.M k62 _ _ _ (⟨1, ((bt a0 a1) - 48) % 256⟩ : S62) [.int .i64 1, .int .i64 (((bt a0 a1) - 48) % 256)] from (k62_mkM _ _ _ (⟨1, ((bt a0 a1) - 48) % 256⟩ : S62) )) (Reps.none _ _))); intro v475 w30 ho31 hb hg_ hnew_; clear hg_ hnew_; (first | rw [← Ny474.out] at ho31 | (simp only [Int.reduceToNat] at ho31; rw [← Ny474.out] at ho31)); have n0_ := Aside0.mk (Kd.R_lower ho31 (below_size pwi_)); have n1_ := Aside0.mk (below_step pwi_ hb); clear HB; have HO476 := n0_; have HB := n1_; clear n0_ n1_; clear hb ho31))
            go_ret2
            exact ⟨_, by first | rfl | (simp [errW_none, errW_some] <;> rfl) | (simp [*, errW_none, errW_some] <;> rfl), by (with_reducible repeat apply Kd.R_alloc); exact HO476.out, pwi_⟩
           ·rw [if_neg c28] at H
            exact absurd H (by simp)
          ·rw [if_neg c27] at H
           exact absurd H (by simp)
         ·replace c26 := Bool.eq_false_iff.mpr c26
          subst c26
          have H1 : (if 0 ≤ a1 then (if a1 < (a0.size : Int) then (if (bt a0 a1) = 33 then ((spec_l2Atom.f kj19 a0 (wrap64 (a1 + 1))).bind fun bt477 => ((some (([] : List (S62)) : List (S62))).bind fun y481 => (if y481.length + bt477.1.length < 8796093022208 then ((some (y481 ++ bt477.1 : List (S62))).bind fun y484 => (if y484.length < 8796093022208 then (some ((y484 ++ [(⟨2, 0⟩ : S62)]), bt477.2)) else (none))) else (none)))) else (if (bt a0 a1) = 40 then ((spec_l2Level.f kj19 a0 (wrap64 (a1 + 1)) 5).bind fun bt490 => (if bt490.2 < 0 then (some ((([] : List (S62))), (-1))) else (if bt490.2 ≥ (a0.size : Int) then (some ((([] : List (S62))), (-1))) else (if 0 ≤ bt490.2 then (if bt490.2 < (a0.size : Int) then (if (bt a0 bt490.2) = 41 then (some (bt490.1, wrap64 (bt490.2 + 1))) else (some ((([] : List (S62))), (-1)))) else (none)) else (none))))) else (some ((([] : List (S62))), (-1))))) else (none)) else (none)) = some (r1, r2) := by rw [if_neg (show ¬ (false = true) by decide)] at H; exact H
          clear H
          have H := H1
          clear H1
          by_cases c32 : 0 ≤ a1
          ·rw [if_pos c32] at H
           have c32b0 : decide (0 ≤ a1) = true := decide_eq_true c32
           clear c32
           by_cases c33 : a1 < (a0.size : Int)
           ·rw [if_pos c33] at H
            have c33b0 : decide (a1 < (a0.size : Int)) = true := decide_eq_true c33
            clear c33
            by_cases c35 : (bt a0 a1) = 33
            ·rw [if_pos c35] at H
             have c35b0 : ((bt a0 a1) == 33) = true := beq_iff_eq.mpr c35
             have c35b1 : ((bt a0 a1) != 33) = false := bne_eq_false_iff_eq.mpr c35
             clear c35
             replace H := Option.bind_eq_some_iff.mp H
             obtain ⟨⟨t477, t478⟩, A360, H⟩ := H
             replace H : ((some (([] : List (S62)) : List (S62))).bind fun y481 => (if y481.length + t477.length < 8796093022208 then ((some (y481 ++ t477 : List (S62))).bind fun y484 => (if y484.length < 8796093022208 then (some ((y484 ++ [(⟨2, 0⟩ : S62)]), t478)) else (none))) else (none))) = some (r1, r2) := H
             have A36 := Aside0.mk A360
             clear A360
             obtain ⟨y481, hy481⟩ : ∃ y_ : List (S62), y_ = (([] : List (S62))) := ⟨_, rfl⟩
             replace H : (if y481.length + t477.length < 8796093022208 then ((some (y481 ++ t477 : List (S62))).bind fun y484 => (if y484.length < 8796093022208 then (some ((y484 ++ [(⟨2, 0⟩ : S62)]), t478)) else (none))) else (none)) = some (r1, r2) := by first | (rw [hy481]; with_reducible exact H) | (have H2_ := (Option.bind_some _ _).symm.trans H; rw [hy481]; with_reducible exact H2_) | (have H2_ := (Option.bind_some _ _).symm.trans H; with_reducible exact H2_) | with_reducible exact H | (rw [hy481]; exact H) | exact H
             have Ny481 := Aside0.mk hy481
             clear hy481
             by_cases c37 : y481.length + t477.length < 8796093022208
             ·rw [if_pos c37] at H
              have LMc37 := Aside0.mk c37
              clear c37
              obtain ⟨y484, hy484⟩ : ∃ y_ : List (S62), y_ = (y481 ++ t477) := ⟨_, rfl⟩
              replace H : (if y484.length < 8796093022208 then (some ((y484 ++ [(⟨2, 0⟩ : S62)]), t478)) else (none)) = some (r1, r2) := by first | (rw [hy484]; with_reducible exact H) | (have H2_ := (Option.bind_some _ _).symm.trans H; rw [hy484]; with_reducible exact H2_) | (have H2_ := (Option.bind_some _ _).symm.trans H; with_reducible exact H2_) | with_reducible exact H | (rw [hy484]; exact H) | exact H
              have Ny484 := Aside0.mk hy484
              clear hy484
              by_cases c38 : y484.length < 8796093022208
              ·rw [if_pos c38] at H
               have LMc38 := Aside0.mk c38
               clear c38
               obtain ⟨y487, hy487⟩ : ∃ y_ : List (S62), y_ = (y484 ++ [(⟨2, 0⟩ : S62)]) := ⟨_, rfl⟩
               replace H : (some (y487, t478)) = some (r1, r2) := by first | (rw [hy487]; with_reducible exact H) | (have H2_ := (Option.bind_some _ _).symm.trans H; rw [hy487]; with_reducible exact H2_) | (have H2_ := (Option.bind_some _ _).symm.trans H; with_reducible exact H2_) | with_reducible exact H | (rw [hy487]; exact H) | exact H
               have Ny487 := Aside0.mk hy487
               clear hy487
               simp only [Option.some.injEq, Prod.mk.injEq] at H
               obtain ⟨rfl, rfl⟩ := H
               have p34 : 0 ≤ (a1 : Int) := of_decide_eq_true pwb_
               have q34 : a1 < (a0.size : Int) := of_decide_eq_true pwb_
               have hx34 := bt_at a0 a1
               replace p34 := eq_true p34
               replace q34 := eq_true q34
               go_wp2_with (first | ((with_reducible refine gate_callee (f := 91) rfl ?_); refine goesL_ (some 68) rfl rfl Try.func91 (by kernel_rfl) rfl #[.string a0, .int .i64 (wrap64 (a1 + 1))] rfl pwk_ ?_; (with_reducible refine (ih kj19 (by have := HJ2.out; have := HJ7.out; have := HJ19.out; omega) a0 (wrap64 (a1 + 1)) t477 t478 _ A36.out).mono ?_); rintro e w39 ⟨v479, rfl, ho0, hb⟩; refine ⟨_, rfl, ?_⟩; have n0_ := Aside0.mk (Kd.R_lower ho0 (below_size pwi_)); have n1_ := Aside0.mk (below_step pwi_ hb); clear HB; have HO480 := n0_; have HB := n1_; clear n0_ n1_; (try clear hb); (try clear hb2); (try clear hk); (try clear hi); (try clear ho0)) | ((with_reducible refine gate_dst (N := 71) rfl ?_); (try (refine gate_guard (by rfl) ?_; dsimp only)); refine Kd.R_lit k62 _ 62 ?hg (N := 71) ?hd (xs := ([] : List (S62))) (inner := []) (ok := fun _ => True) (okp := fun _ => True) ?hr ?hp (fun _ hk => hk) trivial (Below.refl _ _) (Nat.le_refl _) (by simp) ?_; (case hd => rfl); (case hg => rfl); (case hr => first | (go_simp; done) | (go_simp; rfl)); (case hp => exact (Reps.none _ _)); intro v482 w40 ho41 hb hg_ hnew_; clear hg_ hnew_; (first | rw [← Ny481.out] at ho41 | (simp only [Int.reduceToNat] at ho41; rw [← Ny481.out] at ho41)); have n0_ := Aside0.mk (Kd.R_elder' (by (with_reducible repeat apply Kd.R_alloc); exact HO480.out) (Kd.R_base ho41) hb); have n1_ := Aside0.mk (Kd.R_lower (Kd.R_new' ho41 (Kd.R_lt (by (with_reducible repeat apply Kd.R_alloc); exact HO480.out))) (below_size pwi_)); have n2_ := Aside0.mk (below_step pwi_ hb); clear HO480; clear HB; have HO480 := n0_; have HO483 := n1_; have HB := n2_; clear n0_ n1_ n2_; clear hb ho41; obtain ⟨Ao43, co43, eo43⟩ := Kd.R_slice HO480.out; subst eo43) | ((with_reducible refine gate_builtin (b := .append) (xs := #[.tmp 71, .tmp 72]) rfl ?_); (try (refine gate_guard (by rfl) ?_; dsimp only)); at_builtin; refine Kd.R_append_rows k62 (w0 := w) w.heap.size rfl (.tmp 71) (.tmp 72) 25 62 (.agg #[(.int .i64 0), (.int .i64 0)]) 16 rfl Try.underlying25 info62 rfl (by decide) (by omega) v482 y481 t477 _ _ _ (fun k_ => some k_ ≠ (.slice Ao43 t477.length co43 : Value).ownBlock) (fun _ => False) rfl rfl ?aO ?aR (fun _ _ h => h) (fun _ h => h.elim) ?aF ?aB ?aS ?aL ?_; (case aR => repeat (first | exact (Kd.R_reads' HO480.out).2.2 | (with_reducible refine Kd.C_alloc ?_ _) | (with_reducible refine Kd.C_drewN ?_ _) | (with_reducible refine Kd.C_drew ?_))); (case aB => exact pwi_); (case aF => exact (fun k_ hk => Kd.fresh' (Kd.R_lt (by (with_reducible repeat apply Kd.R_alloc); exact HO480.out)) k_ hk)); (case aO => exact (by (with_reducible repeat apply Kd.R_alloc); exact Kd.R_mono HO483.out (fun _ hk => hk.2))); (case aS => exact (below_size pwi_)); (case aL => have := LMc37.out; omega); intro v485 w42 ho hb hg hat; rw [← Ny484.out] at ho; have n0_ := Aside0.mk (Kd.R_after (ok := (fun _ => True)) (by (with_reducible repeat apply Kd.R_alloc); exact HO480.out) hg hat); have n1_ := Aside0.mk (hb); have n2_ := Aside0.mk (ho); clear HO480; clear HB; clear HO483; have HO480 := n0_; have HB := n1_; have HO486 := n2_; clear n0_ n1_ n2_; clear ho hb hg hat) | ((with_reducible refine gate_builtin (b := .append) (xs := #[.tmp 73, .tmp 75]) rfl ?_); (try (refine gate_guard (by rfl) ?_; dsimp only)); at_builtin; refine Kd.R_append k62 (w0 := w) w.heap.size rfl (.tmp 73) (.tmp 75) 25 62 (.agg #[(.int .i64 0), (.int .i64 0)]) 16 rfl Try.underlying25 info62 rfl (by decide) (by omega) v485 y484 (⟨2, 0⟩ : S62) [.int .i64 2, .int .i64 0] (fun k_ => some k_ ≠ (.slice Ao43 t477.length co43 : Value).ownBlock) (fun _ => False) rfl rfl ?aP (fun _ hk => hk.elim) ?aF ?aO ?aB ?aS ?aL ?_; (case aP => exact k62_mkM _ _ _ (⟨2, 0⟩ : S62)); (case aB => exact pwi_); (case aF => exact (fun k_ hk => Kd.fresh' (Kd.R_lt (by (with_reducible repeat apply Kd.R_alloc); exact HO480.out)) k_ hk)); (case aO => exact (by (with_reducible repeat apply Kd.R_alloc); exact HO486.out)); (case aS => exact (below_size pwi_)); (case aL => have := LMc38.out; omega); intro v488 w44 ho hb hg hat; rw [← Ny487.out] at ho; have n0_ := Aside0.mk (Kd.R_after (ok := (fun _ => True)) (by (with_reducible repeat apply Kd.R_alloc); exact HO480.out) hg hat); have n1_ := Aside0.mk (hb); have n2_ := Aside0.mk (ho); clear HO480; clear HB; clear HO486; have HO480 := n0_; have HB := n1_; have HO489 := n2_; clear n0_ n1_ n2_; clear ho hb hg hat))
               go_ret2
               exact ⟨_, by first | rfl | (simp [errW_none, errW_some] <;> rfl) | (simp [*, errW_none, errW_some] <;> rfl), by (with_reducible repeat apply Kd.R_alloc); exact Kd.R_mono HO489.out (fun _ hk => trivial), pwi_⟩
              ·rw [if_neg c38] at H
               exact absurd H (by simp)
             ·rw [if_neg c37] at H
              exact absurd H (by simp)
            ·rw [if_neg c35] at H
             have c35b0 : ((bt a0 a1) == 33) = false := beq_eq_false_iff_ne.mpr c35
             have c35b1 : ((bt a0 a1) != 33) = true := bne_iff_ne.mpr c35
             by_cases c46 : (bt a0 a1) = 40
             ·rw [if_pos c46] at H
              have c46b0 : ((bt a0 a1) == 40) = true := beq_iff_eq.mpr c46
              have c46b1 : ((bt a0 a1) != 40) = false := bne_eq_false_iff_eq.mpr c46
              clear c46
              replace H := Option.bind_eq_some_iff.mp H
              obtain ⟨⟨t490, t491⟩, A470, H⟩ := H
              replace H : (if t491 < 0 then (some ((([] : List (S62))), (-1))) else (if t491 ≥ (a0.size : Int) then (some ((([] : List (S62))), (-1))) else (if 0 ≤ t491 then (if t491 < (a0.size : Int) then (if (bt a0 t491) = 41 then (some (t490, wrap64 (t491 + 1))) else (some ((([] : List (S62))), (-1)))) else (none)) else (none)))) = some (r1, r2) := H
              have A47 := Aside0.mk A470
              clear A470
              by_cases c48 : t491 < 0
              ·rw [if_pos c48] at H
               have c48b0 : decide (t491 < 0) = true := decide_eq_true c48
               clear c48
               obtain ⟨y494, hy494⟩ : ∃ y_ : List (S62), y_ = (([] : List (S62))) := ⟨_, rfl⟩
               replace H : (some (y494, (-1))) = some (r1, r2) := by first | (rw [hy494]; with_reducible exact H) | (have H2_ := (Option.bind_some _ _).symm.trans H; rw [hy494]; with_reducible exact H2_) | (have H2_ := (Option.bind_some _ _).symm.trans H; with_reducible exact H2_) | with_reducible exact H | (rw [hy494]; exact H) | exact H
               have Ny494 := Aside0.mk hy494
               clear hy494
               simp only [Option.some.injEq, Prod.mk.injEq] at H
               obtain ⟨rfl, rfl⟩ := H
               have p34 : 0 ≤ (a1 : Int) := of_decide_eq_true pwb_
               have q34 : a1 < (a0.size : Int) := of_decide_eq_true pwb_
               have hx34 := bt_at a0 a1
               replace p34 := eq_true p34
               replace q34 := eq_true q34
               have p45 : 0 ≤ (a1 : Int) := of_decide_eq_true pwb_
               have q45 : a1 < (a0.size : Int) := of_decide_eq_true pwb_
               have hx45 := bt_at a0 a1
               replace p45 := eq_true p45
               replace q45 := eq_true q45
               go_wp2_with (first | ((with_reducible refine gate_callee (f := 64) rfl ?_); refine goesL_ (some 87) rfl rfl Try.func64 (by kernel_rfl) rfl #[.string a0, .int .i64 (wrap64 (a1 + 1)), .int .i64 5] rfl pwk_ ?_; (with_reducible refine (h1_ kj19 (by have := HJ2.out; have := HJ7.out; have := HJ19.out; omega) a0 (wrap64 (a1 + 1)) 5 t490 t491 _ A47.out).mono ?_); rintro e w49 ⟨v492, rfl, ho0, hb⟩; refine ⟨_, rfl, ?_⟩; have n0_ := Aside0.mk (Kd.R_lower ho0 (below_size pwi_)); have n1_ := Aside0.mk (below_step pwi_ hb); clear HB; have HO493 := n0_; have HB := n1_; clear n0_ n1_; (try clear hb); (try clear hb2); (try clear hk); (try clear hi); (try clear ho0)) | ((with_reducible refine gate_dst (N := 104) rfl ?_); (try (refine gate_guard (by rfl) ?_; dsimp only)); refine Kd.R_lit k62 _ 62 ?hg (N := 104) ?hd (xs := ([] : List (S62))) (inner := []) (ok := fun _ => True) (okp := fun _ => True) ?hr ?hp (fun _ hk => hk) trivial (Below.refl _ _) (Nat.le_refl _) (by simp) ?_; (case hd => rfl); (case hg => rfl); (case hr => first | (go_simp; done) | (go_simp; rfl)); (case hp => exact (Reps.none _ _)); intro v495 w50 ho51 hb hg_ hnew_; clear hg_ hnew_; (first | rw [← Ny494.out] at ho51 | (simp only [Int.reduceToNat] at ho51; rw [← Ny494.out] at ho51)); have n0_ := Aside0.mk (Kd.R_elder' (by (with_reducible repeat apply Kd.R_alloc); exact HO493.out) (Kd.R_base ho51) hb); have n1_ := Aside0.mk (Kd.R_lower (Kd.R_new' ho51 (Kd.R_lt (by (with_reducible repeat apply Kd.R_alloc); exact HO493.out))) (below_size pwi_)); have n2_ := Aside0.mk (below_step pwi_ hb); clear HO493; clear HB; have HO493 := n0_; have HO496 := n1_; have HB := n2_; clear n0_ n1_ n2_; clear hb ho51))
               go_ret2
               exact ⟨_, by first | rfl | (simp [errW_none, errW_some] <;> rfl) | (simp [*, errW_none, errW_some] <;> rfl), by (with_reducible repeat apply Kd.R_alloc); exact Kd.R_mono HO496.out (fun _ hk => trivial), pwi_⟩
              ·rw [if_neg c48] at H
               have c48b0 : decide (t491 < 0) = false := decide_eq_false c48
               clear c48
               by_cases c52 : t491 ≥ (a0.size : Int)
               ·rw [if_pos c52] at H
                have c52b0 : decide ((a0.size : Int) ≤ t491) = true := decide_eq_true c52
                clear c52
                obtain ⟨y497, hy497⟩ : ∃ y_ : List (S62), y_ = (([] : List (S62))) := ⟨_, rfl⟩
                replace H : (some (y497, (-1))) = some (r1, r2) := by first | (rw [hy497]; with_reducible exact H) | (have H2_ := (Option.bind_some _ _).symm.trans H; rw [hy497]; with_reducible exact H2_) | (have H2_ := (Option.bind_some _ _).symm.trans H; with_reducible exact H2_) | with_reducible exact H | (rw [hy497]; exact H) | exact H
                have Ny497 := Aside0.mk hy497
                clear hy497
                simp only [Option.some.injEq, Prod.mk.injEq] at H
                obtain ⟨rfl, rfl⟩ := H
                have p34 : 0 ≤ (a1 : Int) := of_decide_eq_true pwb_
                have q34 : a1 < (a0.size : Int) := of_decide_eq_true pwb_
                have hx34 := bt_at a0 a1
                replace p34 := eq_true p34
                replace q34 := eq_true q34
                have p45 : 0 ≤ (a1 : Int) := of_decide_eq_true pwb_
                have q45 : a1 < (a0.size : Int) := of_decide_eq_true pwb_
                have hx45 := bt_at a0 a1
                replace p45 := eq_true p45
                replace q45 := eq_true q45
                go_wp2_with (first | ((with_reducible refine gate_callee (f := 64) rfl ?_); refine goesL_ (some 87) rfl rfl Try.func64 (by kernel_rfl) rfl #[.string a0, .int .i64 (wrap64 (a1 + 1)), .int .i64 5] rfl pwk_ ?_; (with_reducible refine (h1_ kj19 (by have := HJ2.out; have := HJ7.out; have := HJ19.out; omega) a0 (wrap64 (a1 + 1)) 5 t490 t491 _ A47.out).mono ?_); rintro e w53 ⟨v492, rfl, ho0, hb⟩; refine ⟨_, rfl, ?_⟩; have n0_ := Aside0.mk (Kd.R_lower ho0 (below_size pwi_)); have n1_ := Aside0.mk (below_step pwi_ hb); clear HB; have HO493 := n0_; have HB := n1_; clear n0_ n1_; (try clear hb); (try clear hb2); (try clear hk); (try clear hi); (try clear ho0)) | ((with_reducible refine gate_dst (N := 104) rfl ?_); (try (refine gate_guard (by rfl) ?_; dsimp only)); refine Kd.R_lit k62 _ 62 ?hg (N := 104) ?hd (xs := ([] : List (S62))) (inner := []) (ok := fun _ => True) (okp := fun _ => True) ?hr ?hp (fun _ hk => hk) trivial (Below.refl _ _) (Nat.le_refl _) (by simp) ?_; (case hd => rfl); (case hg => rfl); (case hr => first | (go_simp; done) | (go_simp; rfl)); (case hp => exact (Reps.none _ _)); intro v498 w54 ho55 hb hg_ hnew_; clear hg_ hnew_; (first | rw [← Ny497.out] at ho55 | (simp only [Int.reduceToNat] at ho55; rw [← Ny497.out] at ho55)); have n0_ := Aside0.mk (Kd.R_elder' (by (with_reducible repeat apply Kd.R_alloc); exact HO493.out) (Kd.R_base ho55) hb); have n1_ := Aside0.mk (Kd.R_lower (Kd.R_new' ho55 (Kd.R_lt (by (with_reducible repeat apply Kd.R_alloc); exact HO493.out))) (below_size pwi_)); have n2_ := Aside0.mk (below_step pwi_ hb); clear HO493; clear HB; have HO493 := n0_; have HO499 := n1_; have HB := n2_; clear n0_ n1_ n2_; clear hb ho55))
                go_ret2
                exact ⟨_, by first | rfl | (simp [errW_none, errW_some] <;> rfl) | (simp [*, errW_none, errW_some] <;> rfl), by (with_reducible repeat apply Kd.R_alloc); exact Kd.R_mono HO499.out (fun _ hk => trivial), pwi_⟩
               ·rw [if_neg c52] at H
                have c52b0 : decide ((a0.size : Int) ≤ t491) = false := decide_eq_false c52
                clear c52
                by_cases c56 : 0 ≤ t491
                ·rw [if_pos c56] at H
                 have c56b0 : decide (0 ≤ t491) = true := decide_eq_true c56
                 clear c56
                 by_cases c57 : t491 < (a0.size : Int)
                 ·rw [if_pos c57] at H
                  have c57b0 : decide (t491 < (a0.size : Int)) = true := decide_eq_true c57
                  clear c57
                  by_cases c59 : (bt a0 t491) = 41
                  ·rw [if_pos c59] at H
                   have c59b0 : ((bt a0 t491) == 41) = true := beq_iff_eq.mpr c59
                   have c59b1 : ((bt a0 t491) != 41) = false := bne_eq_false_iff_eq.mpr c59
                   clear c59
                   simp only [Option.some.injEq, Prod.mk.injEq] at H
                   obtain ⟨rfl, rfl⟩ := H
                   have p34 : 0 ≤ (a1 : Int) := of_decide_eq_true pwb_
                   have q34 : a1 < (a0.size : Int) := of_decide_eq_true pwb_
                   have hx34 := bt_at a0 a1
                   replace p34 := eq_true p34
                   replace q34 := eq_true q34
                   have p45 : 0 ≤ (a1 : Int) := of_decide_eq_true pwb_
                   have q45 : a1 < (a0.size : Int) := of_decide_eq_true pwb_
                   have hx45 := bt_at a0 a1
                   replace p45 := eq_true p45
                   replace q45 := eq_true q45
                   go_wp2_with (first | ((with_reducible refine gate_callee (f := 64) rfl ?_); refine goesL_ (some 87) rfl rfl Try.func64 (by kernel_rfl) rfl #[.string a0, .int .i64 (wrap64 (a1 + 1)), .int .i64 5] rfl pwk_ ?_; (with_reducible refine (h1_ kj19 (by have := HJ2.out; have := HJ7.out; have := HJ19.out; omega) a0 (wrap64 (a1 + 1)) 5 t490 t491 _ A47.out).mono ?_); rintro e w60 ⟨v492, rfl, ho0, hb⟩; refine ⟨_, rfl, ?_⟩; have n0_ := Aside0.mk (Kd.R_lower ho0 (below_size pwi_)); have n1_ := Aside0.mk (below_step pwi_ hb); clear HB; have HO493 := n0_; have HB := n1_; clear n0_ n1_; (try clear hb); (try clear hb2); (try clear hk); (try clear hi); (try clear ho0); have p58 : 0 ≤ (t491 : Int) := of_decide_eq_true pwb_; have q58 : t491 < (a0.size : Int) := of_decide_eq_true pwb_; have hx58 := bt_at a0 t491; replace p58 := eq_true p58; replace q58 := eq_true q58))
                   go_ret2
                   exact ⟨_, by first | rfl | (simp [errW_none, errW_some] <;> rfl) | (simp [*, errW_none, errW_some] <;> rfl), by (with_reducible repeat apply Kd.R_alloc); exact HO493.out, pwi_⟩
                  ·rw [if_neg c59] at H
                   have c59b0 : ((bt a0 t491) == 41) = false := beq_eq_false_iff_ne.mpr c59
                   have c59b1 : ((bt a0 t491) != 41) = true := bne_iff_ne.mpr c59
                   obtain ⟨y500, hy500⟩ : ∃ y_ : List (S62), y_ = (([] : List (S62))) := ⟨_, rfl⟩
                   replace H : (some (y500, (-1))) = some (r1, r2) := by first | (rw [hy500]; with_reducible exact H) | (have H2_ := (Option.bind_some _ _).symm.trans H; rw [hy500]; with_reducible exact H2_) | (have H2_ := (Option.bind_some _ _).symm.trans H; with_reducible exact H2_) | with_reducible exact H | (rw [hy500]; exact H) | exact H
                   have Ny500 := Aside0.mk hy500
                   clear hy500
                   simp only [Option.some.injEq, Prod.mk.injEq] at H
                   obtain ⟨rfl, rfl⟩ := H
                   have p34 : 0 ≤ (a1 : Int) := of_decide_eq_true pwb_
                   have q34 : a1 < (a0.size : Int) := of_decide_eq_true pwb_
                   have hx34 := bt_at a0 a1
                   replace p34 := eq_true p34
                   replace q34 := eq_true q34
                   have p45 : 0 ≤ (a1 : Int) := of_decide_eq_true pwb_
                   have q45 : a1 < (a0.size : Int) := of_decide_eq_true pwb_
                   have hx45 := bt_at a0 a1
                   replace p45 := eq_true p45
                   replace q45 := eq_true q45
                   go_wp2_with (first | ((with_reducible refine gate_callee (f := 64) rfl ?_); refine goesL_ (some 87) rfl rfl Try.func64 (by kernel_rfl) rfl #[.string a0, .int .i64 (wrap64 (a1 + 1)), .int .i64 5] rfl pwk_ ?_; (with_reducible refine (h1_ kj19 (by have := HJ2.out; have := HJ7.out; have := HJ19.out; omega) a0 (wrap64 (a1 + 1)) 5 t490 t491 _ A47.out).mono ?_); rintro e w61 ⟨v492, rfl, ho0, hb⟩; refine ⟨_, rfl, ?_⟩; have n0_ := Aside0.mk (Kd.R_lower ho0 (below_size pwi_)); have n1_ := Aside0.mk (below_step pwi_ hb); clear HB; have HO493 := n0_; have HB := n1_; clear n0_ n1_; (try clear hb); (try clear hb2); (try clear hk); (try clear hi); (try clear ho0); have p58 : 0 ≤ (t491 : Int) := of_decide_eq_true pwb_; have q58 : t491 < (a0.size : Int) := of_decide_eq_true pwb_; have hx58 := bt_at a0 t491; replace p58 := eq_true p58; replace q58 := eq_true q58) | ((with_reducible refine gate_dst (N := 104) rfl ?_); (try (refine gate_guard (by rfl) ?_; dsimp only)); refine Kd.R_lit k62 _ 62 ?hg (N := 104) ?hd (xs := ([] : List (S62))) (inner := []) (ok := fun _ => True) (okp := fun _ => True) ?hr ?hp (fun _ hk => hk) trivial (Below.refl _ _) (Nat.le_refl _) (by simp) ?_; (case hd => rfl); (case hg => rfl); (case hr => first | (go_simp; done) | (go_simp; rfl)); (case hp => exact (Reps.none _ _)); intro v501 w62 ho63 hb hg_ hnew_; clear hg_ hnew_; (first | rw [← Ny500.out] at ho63 | (simp only [Int.reduceToNat] at ho63; rw [← Ny500.out] at ho63)); have n0_ := Aside0.mk (Kd.R_elder' (by (with_reducible repeat apply Kd.R_alloc); exact HO493.out) (Kd.R_base ho63) hb); have n1_ := Aside0.mk (Kd.R_lower (Kd.R_new' ho63 (Kd.R_lt (by (with_reducible repeat apply Kd.R_alloc); exact HO493.out))) (below_size pwi_)); have n2_ := Aside0.mk (below_step pwi_ hb); clear HO493; clear HB; have HO493 := n0_; have HO502 := n1_; have HB := n2_; clear n0_ n1_ n2_; clear hb ho63))
                   go_ret2
                   exact ⟨_, by first | rfl | (simp [errW_none, errW_some] <;> rfl) | (simp [*, errW_none, errW_some] <;> rfl), by (with_reducible repeat apply Kd.R_alloc); exact Kd.R_mono HO502.out (fun _ hk => trivial), pwi_⟩
                 ·rw [if_neg c57] at H
                  exact absurd H (by simp)
                ·rw [if_neg c56] at H
                 exact absurd H (by simp)
             ·rw [if_neg c46] at H
              have c46b0 : ((bt a0 a1) == 40) = false := beq_eq_false_iff_ne.mpr c46
              have c46b1 : ((bt a0 a1) != 40) = true := bne_iff_ne.mpr c46
              obtain ⟨y503, hy503⟩ : ∃ y_ : List (S62), y_ = (([] : List (S62))) := ⟨_, rfl⟩
              replace H : (some (y503, (-1))) = some (r1, r2) := by first | (rw [hy503]; with_reducible exact H) | (have H2_ := (Option.bind_some _ _).symm.trans H; rw [hy503]; with_reducible exact H2_) | (have H2_ := (Option.bind_some _ _).symm.trans H; with_reducible exact H2_) | with_reducible exact H | (rw [hy503]; exact H) | exact H
              have Ny503 := Aside0.mk hy503
              clear hy503
              simp only [Option.some.injEq, Prod.mk.injEq] at H
              obtain ⟨rfl, rfl⟩ := H
              have p34 : 0 ≤ (a1 : Int) := of_decide_eq_true pwb_
              have q34 : a1 < (a0.size : Int) := of_decide_eq_true pwb_
              have hx34 := bt_at a0 a1
              replace p34 := eq_true p34
              replace q34 := eq_true q34
              have p45 : 0 ≤ (a1 : Int) := of_decide_eq_true pwb_
              have q45 : a1 < (a0.size : Int) := of_decide_eq_true pwb_
              have hx45 := bt_at a0 a1
              replace p45 := eq_true p45
              replace q45 := eq_true q45
              go_wp2_with (first | ((with_reducible refine gate_dst (N := 108) rfl ?_); (try (refine gate_guard (by rfl) ?_; dsimp only)); refine Kd.R_lit k62 _ 62 ?hg (N := 108) ?hd (xs := ([] : List (S62))) (inner := []) (ok := fun _ => True) (okp := fun _ => True) ?hr ?hp (fun _ hk => hk) trivial (Below.refl _ _) (Nat.le_refl _) (by simp) ?_; (case hd => rfl); (case hg => rfl); (case hr => first | (go_simp; done) | (go_simp; rfl)); (case hp => exact (Reps.none _ _)); intro v504 w64 ho65 hb hg_ hnew_; clear hg_ hnew_; (first | rw [← Ny503.out] at ho65 | (simp only [Int.reduceToNat] at ho65; rw [← Ny503.out] at ho65)); have n0_ := Aside0.mk (Kd.R_lower ho65 (below_size pwi_)); have n1_ := Aside0.mk (below_step pwi_ hb); clear HB; have HO505 := n0_; have HB := n1_; clear n0_ n1_; clear hb ho65))
              go_ret2
              exact ⟨_, by first | rfl | (simp [errW_none, errW_some] <;> rfl) | (simp [*, errW_none, errW_some] <;> rfl), by (with_reducible repeat apply Kd.R_alloc); exact HO505.out, pwi_⟩
           ·rw [if_neg c33] at H
            exact absurd H (by simp)
          ·rw [if_neg c32] at H
           exact absurd H (by simp)
set_option maxHeartbeats 8000000 in
set_option maxRecDepth 100000 in
theorem spec_l2Level.step (k : Nat) (h0_ : ∀ m_, m_ < k → ∀ (a0 : ByteArray) (a1 : Int) (r1 : List (S62)) (r2 : Int) (w : World) (h : spec_l2Atom.f m_ a0 a1 = some (r1, r2)),
  Calls Try.prog 91 #[.string a0, .int .i64 a1] w fun e w' => ∃ v0_ : Value, e = .returned (.tuple #[v0_, .int .i64 r2]) ∧ Kd.R k62 62 w' w.heap.size (fun _ => True) v0_ r1 ∧ Below w.heap.size w w') (h1_ : ∀ m_, m_ < k → ∀ (a0 : ByteArray) (a1 : Int) (a2 : Int) (r1 : List (S62)) (r2 : Int) (w : World) (h : spec_l2Level.f m_ a0 a1 a2 = some (r1, r2)),
  Calls Try.prog 64 #[.string a0, .int .i64 a1, .int .i64 a2] w fun e w' => ∃ v0_ : Value, e = .returned (.tuple #[v0_, .int .i64 r2]) ∧ Kd.R k62 62 w' w.heap.size (fun _ => True) v0_ r1 ∧ Below w.heap.size w w') : ∀ (a0 : ByteArray) (a1 : Int) (a2 : Int) (r1 : List (S62)) (r2 : Int) (w : World) (h : spec_l2Level.f k a0 a1 a2 = some (r1, r2)),
  Calls Try.prog 64 #[.string a0, .int .i64 a1, .int .i64 a2] w fun e w' => ∃ v0_ : Value, e = .returned (.tuple #[v0_, .int .i64 r2]) ∧ Kd.R k62 62 w' w.heap.size (fun _ => True) v0_ r1 ∧ Below w.heap.size w w' := by
 have ih := h1_
 intro a0 a1 a2 r1 r2 w h
 cases k with
 | zero => exact absurd h (by simp [spec_l2Level.f])
 | succ k =>
 simp only [spec_l2Level.f] at h
 have hu62 := Try.underlying62
 have HB := Aside0.mk (Below.refl w.heap.size w)
 have H : (if a2 = 2 then ((spec_l2Atom.f k a0 a1).bind fun bt506 => (some (bt506.1, bt506.2))) else (if 0 ≤ (wrap64 (a2 - 3)) then (if (wrap64 (a2 - 3)) < 3 then ((spec_l2Level.f k a0 a1 (wrap64 (a2 - 1))).bind fun bt510 => (spec_l2Level.l0 k a0 a2 (bt (⟨#[38, 124, 61]⟩ : ByteArray) (wrap64 (a2 - 3))) bt510.1 bt510.2)) else (none)) else (none))) = some (r1, r2) := h
 clear h
 by_cases c4 : a2 = 2
 ·rw [if_pos c4] at H
  have c4b0 : (a2 == 2) = true := beq_iff_eq.mpr c4
  have c4b1 : (a2 != 2) = false := bne_eq_false_iff_eq.mpr c4
  clear c4
  replace H := Option.bind_eq_some_iff.mp H
  obtain ⟨⟨t506, t507⟩, A50, H⟩ := H
  replace H : (some (t506, t507)) = some (r1, r2) := H
  have A5 := Aside0.mk A50
  clear A50
  simp only [Option.some.injEq, Prod.mk.injEq] at H
  obtain ⟨rfl, rfl⟩ := H
  go_enter Try.func64, Try.ntmps64
  go_wp2_with (first | ((with_reducible refine gate_callee (f := 91) rfl ?_); refine goesL_ (some 17) rfl rfl Try.func91 (by kernel_rfl) rfl #[.string a0, .int .i64 a1] rfl pwk_ ?_; (with_reducible refine (h0_ k (by omega) a0 a1 t506 t507 _ A5.out).mono ?_); rintro e w6 ⟨v508, rfl, ho0, hb⟩; refine ⟨_, rfl, ?_⟩; have n0_ := Aside0.mk (Kd.R_lower ho0 (below_size pwi_)); have n1_ := Aside0.mk (below_step pwi_ hb); clear HB; have HO509 := n0_; have HB := n1_; clear n0_ n1_; (try clear hb); (try clear hb2); (try clear hk); (try clear hi); (try clear ho0)))
  go_ret2
  exact ⟨_, by first | rfl | (simp [errW_none, errW_some] <;> rfl) | (simp [*, errW_none, errW_some] <;> rfl), by (with_reducible repeat apply Kd.R_alloc); exact HO509.out, pwi_⟩
 ·rw [if_neg c4] at H
  have c4b0 : (a2 == 2) = false := beq_eq_false_iff_ne.mpr c4
  have c4b1 : (a2 != 2) = true := bne_iff_ne.mpr c4
  obtain ⟨ji7, hji7⟩ : ∃ j_ : Int, (wrap64 (a2 - 3)) = j_ := ⟨_, rfl⟩
  replace H : (if 0 ≤ (ji7) then (if (ji7) < 3 then ((spec_l2Level.f k a0 a1 (wrap64 (a2 - 1))).bind fun bt510 => (spec_l2Level.l0 k a0 a2 (bt (⟨#[38, 124, 61]⟩ : ByteArray) (ji7)) bt510.1 bt510.2)) else (none)) else (none)) = some (r1, r2) := by first | (rw [hji7] at H; exact H) | (simp only [hji7] at H ⊢; exact H)
  have hji7w : (IntKind.i64.wrap (a2 - 3)) = ji7 := (i64_w _).trans hji7
  by_cases c8 : 0 ≤ (ji7)
  ·rw [if_pos c8] at H
   have c8b0 : decide (0 ≤ (ji7)) = true := decide_eq_true c8
   clear c8
   by_cases c9 : (ji7) < 3
   ·rw [if_pos c9] at H
    have c9b0 : decide ((ji7) < 3) = true := decide_eq_true c9
    clear c9
    replace H := Option.bind_eq_some_iff.mp H
    obtain ⟨⟨t510, t511⟩, A110, H⟩ := H
    replace H : (spec_l2Level.l0 k a0 a2 (bt (⟨#[38, 124, 61]⟩ : ByteArray) (ji7)) t510 t511) = some (r1, r2) := H
    have A11 := Aside0.mk A110
    clear A110
    have H' := Aside0.mk H
    clear H
    have p10 : 0 ≤ ((ji7) : Int) := of_decide_eq_true pwb_
    have q10 : (ji7) < (3 : Int) := of_decide_eq_true pwb_
    have hx10 := bt_at (⟨#[38, 124, 61]⟩ : ByteArray) (ji7)
    replace p10 := eq_true p10
    replace q10 := eq_true q10
    go_enter Try.func64, Try.ntmps64
    go_wp2_with (first | ((with_reducible refine gate_callee (f := 64) rfl ?_); refine goesL_ (some 28) rfl rfl Try.func64 (by kernel_rfl) rfl #[.string a0, .int .i64 a1, .int .i64 (wrap64 (a2 - 1))] rfl pwk_ ?_; (with_reducible refine (ih k (by omega) a0 a1 (wrap64 (a2 - 1)) t510 t511 _ A11.out).mono ?_); rintro e w12 ⟨v512, rfl, ho0, hb⟩; refine ⟨_, rfl, ?_⟩; have n0_ := Aside0.mk (Kd.R_lower ho0 (below_size pwi_)); have n1_ := Aside0.mk (below_step pwi_ hb); clear HB; have HO513 := n0_; have HB := n1_; clear n0_ n1_; (try clear hb); (try clear hb2); (try clear hk); (try clear hi); (try clear ho0)))
    go_loopg [9, 10] k (fun kq v9 v10 w' => ∃ (x9_1 : List (S62)) (x10_1 : Int), v10 = .int .i64 x10_1 ∧ Aside0 (spec_l2Level.l0 kq a0 a2 (bt (⟨#[38, 124, 61]⟩ : ByteArray) (ji7)) x9_1 x10_1 = some (r1, r2)) ∧ Aside0 (kq ≤ k) ∧ Aside0 (Kd.R k62 62 w' w.heap.size (fun _ => True) v9 x9_1) ∧ Aside0 (Below w.heap.size w w'))
    case atStart => exact ⟨(t510), (t511), pwa_, H', ⟨Nat.le_refl _⟩, ⟨by (with_reducible repeat apply Kd.R_alloc); exact HO513.out⟩, ⟨pwi_⟩⟩
    case round =>
     clear H'
     try clear p1
     try clear q1
     try clear hx1
     try clear p2
     try clear c4
     try clear c4b0
     try clear c4b1
     try clear c6
     try clear p6
     try clear c8
     try clear c8b0
     try clear c9
     try clear c9b0
     try clear p10
     try clear q10
     try clear hx10
     try clear p10
     try clear q10
     obtain ⟨x9_1, x10_1, rfl, HA, HK1, HO_9, HB⟩ := hrel
     cases gk with
     | zero => exact absurd HA.out (by simp [spec_l2Level.l0])
     | succ k1 =>
      have H := HA.out
      clear HA
      simp only [spec_l2Level.l0] at H
      by_cases c13 : x10_1 ≥ 0
      ·rw [if_pos c13] at H
       have c13b0 : decide (0 ≤ x10_1) = true := decide_eq_true c13
       clear c13
       by_cases c14 : x10_1 < (a0.size : Int)
       ·rw [if_pos c14] at H
        have c14b0 : decide (x10_1 < (a0.size : Int)) = true := decide_eq_true c14
        clear c14
        by_cases c15 : 0 ≤ x10_1
        ·rw [if_pos c15] at H
         have c15b0 : decide (0 ≤ x10_1) = true := decide_eq_true c15
         clear c15
         by_cases c17 : (bt a0 x10_1) = (bt (⟨#[38, 124, 61]⟩ : ByteArray) (ji7))
         ·rw [if_pos c17] at H
          have c17b0 : ((bt a0 x10_1) == (bt (⟨#[38, 124, 61]⟩ : ByteArray) (ji7))) = true := beq_iff_eq.mpr c17
          have c17b1 : ((bt a0 x10_1) != (bt (⟨#[38, 124, 61]⟩ : ByteArray) (ji7))) = false := bne_eq_false_iff_eq.mpr c17
          clear c17
          replace H := Option.bind_eq_some_iff.mp H
          obtain ⟨⟨t514, t515⟩, A180, H⟩ := H
          replace H : ((some (([] : List (S62)) : List (S62))).bind fun y518 => (if y518.length + x9_1.length < 8796093022208 then ((some (y518 ++ x9_1 : List (S62))).bind fun y521 => (if y521.length + t514.length < 8796093022208 then ((some (y521 ++ t514 : List (S62))).bind fun y524 => (if y524.length < 8796093022208 then (spec_l2Level.l0 k1 a0 a2 (bt (⟨#[38, 124, 61]⟩ : ByteArray) (ji7)) (y524 ++ [(⟨a2, 0⟩ : S62)]) t515) else (none))) else (none))) else (none))) = some (r1, r2) := H
          have A18 := Aside0.mk A180
          clear A180
          obtain ⟨y518, hy518⟩ : ∃ y_ : List (S62), y_ = (([] : List (S62))) := ⟨_, rfl⟩
          replace H : (if y518.length + x9_1.length < 8796093022208 then ((some (y518 ++ x9_1 : List (S62))).bind fun y521 => (if y521.length + t514.length < 8796093022208 then ((some (y521 ++ t514 : List (S62))).bind fun y524 => (if y524.length < 8796093022208 then (spec_l2Level.l0 k1 a0 a2 (bt (⟨#[38, 124, 61]⟩ : ByteArray) (ji7)) (y524 ++ [(⟨a2, 0⟩ : S62)]) t515) else (none))) else (none))) else (none)) = some (r1, r2) := by first | (rw [hy518]; with_reducible exact H) | (have H2_ := (Option.bind_some _ _).symm.trans H; rw [hy518]; with_reducible exact H2_) | (have H2_ := (Option.bind_some _ _).symm.trans H; with_reducible exact H2_) | with_reducible exact H | (rw [hy518]; exact H) | exact H
          have Ny518 := Aside0.mk hy518
          clear hy518
          by_cases c19 : y518.length + x9_1.length < 8796093022208
          ·rw [if_pos c19] at H
           have LMc19 := Aside0.mk c19
           clear c19
           obtain ⟨y521, hy521⟩ : ∃ y_ : List (S62), y_ = (y518 ++ x9_1) := ⟨_, rfl⟩
           replace H : (if y521.length + t514.length < 8796093022208 then ((some (y521 ++ t514 : List (S62))).bind fun y524 => (if y524.length < 8796093022208 then (spec_l2Level.l0 k1 a0 a2 (bt (⟨#[38, 124, 61]⟩ : ByteArray) (ji7)) (y524 ++ [(⟨a2, 0⟩ : S62)]) t515) else (none))) else (none)) = some (r1, r2) := by first | (rw [hy521]; with_reducible exact H) | (have H2_ := (Option.bind_some _ _).symm.trans H; rw [hy521]; with_reducible exact H2_) | (have H2_ := (Option.bind_some _ _).symm.trans H; with_reducible exact H2_) | with_reducible exact H | (rw [hy521]; exact H) | exact H
           have Ny521 := Aside0.mk hy521
           clear hy521
           by_cases c20 : y521.length + t514.length < 8796093022208
           ·rw [if_pos c20] at H
            have LMc20 := Aside0.mk c20
            clear c20
            obtain ⟨y524, hy524⟩ : ∃ y_ : List (S62), y_ = (y521 ++ t514) := ⟨_, rfl⟩
            replace H : (if y524.length < 8796093022208 then (spec_l2Level.l0 k1 a0 a2 (bt (⟨#[38, 124, 61]⟩ : ByteArray) (ji7)) (y524 ++ [(⟨a2, 0⟩ : S62)]) t515) else (none)) = some (r1, r2) := by first | (rw [hy524]; with_reducible exact H) | (have H2_ := (Option.bind_some _ _).symm.trans H; rw [hy524]; with_reducible exact H2_) | (have H2_ := (Option.bind_some _ _).symm.trans H; with_reducible exact H2_) | with_reducible exact H | (rw [hy524]; exact H) | exact H
            have Ny524 := Aside0.mk hy524
            clear hy524
            by_cases c21 : y524.length < 8796093022208
            ·rw [if_pos c21] at H
             have LMc21 := Aside0.mk c21
             clear c21
             obtain ⟨y527, hy527⟩ : ∃ y_ : List (S62), y_ = (y524 ++ [(⟨a2, 0⟩ : S62)]) := ⟨_, rfl⟩
             replace H : (spec_l2Level.l0 k1 a0 a2 (bt (⟨#[38, 124, 61]⟩ : ByteArray) (ji7)) y527 t515) = some (r1, r2) := by first | (rw [hy527]; with_reducible exact H) | (have H2_ := (Option.bind_some _ _).symm.trans H; rw [hy527]; with_reducible exact H2_) | (have H2_ := (Option.bind_some _ _).symm.trans H; with_reducible exact H2_) | with_reducible exact H | (rw [hy527]; exact H) | exact H
             have Ny527 := Aside0.mk hy527
             clear hy527
             have H' := Aside0.mk H
             clear H
             have p16 : 0 ≤ (x10_1 : Int) := of_decide_eq_true pwb_
             have q16 : x10_1 < (a0.size : Int) := of_decide_eq_true pwb_
             have hx16 := bt_at a0 x10_1
             replace p16 := eq_true p16
             replace q16 := eq_true q16
             go_wp2_with (first | ((with_reducible refine gate_callee (f := 64) rfl ?_); refine goesL_ (some 52) rfl rfl Try.func64 (by kernel_rfl) rfl #[.string a0, .int .i64 (wrap64 (x10_1 + 1)), .int .i64 (wrap64 (a2 - 1))] rfl pwk_ ?_; (with_reducible refine (ih k1 (by have := HK1.out; omega) a0 (wrap64 (x10_1 + 1)) (wrap64 (a2 - 1)) t514 t515 _ A18.out).mono ?_); rintro e w22 ⟨v516, rfl, ho0, hb⟩; refine ⟨_, rfl, ?_⟩; have n0_ := Aside0.mk (Kd.R_elder' pwe_ (Kd.R_base ho0) hb); have n1_ := Aside0.mk (Kd.R_lower (Kd.R_new' ho0 (Kd.R_lt pwe_)) (below_size pwi_)); have n2_ := Aside0.mk (below_step pwi_ hb); clear HO_9; clear HB; have HO_9 := n0_; have HO517 := n1_; have HB := n2_; clear n0_ n1_ n2_; (try clear hb); (try clear hb2); (try clear hk); (try clear hi); (try clear ho0)) | ((with_reducible refine gate_dst (N := 55) rfl ?_); (try (refine gate_guard (by rfl) ?_; dsimp only)); refine Kd.R_lit k62 _ 62 ?hg (N := 55) ?hd (xs := ([] : List (S62))) (inner := []) (ok := fun _ => True) (okp := fun _ => True) ?hr ?hp (fun _ hk => hk) trivial (Below.refl _ _) (Nat.le_refl _) (by simp) ?_; (case hd => rfl); (case hg => rfl); (case hr => first | (go_simp; done) | (go_simp; rfl)); (case hp => exact (Reps.none _ _)); intro v519 w23 ho24 hb hg_ hnew_; clear hg_ hnew_; (first | rw [← Ny518.out] at ho24 | (simp only [Int.reduceToNat] at ho24; rw [← Ny518.out] at ho24)); have n0_ := Aside0.mk (Kd.R_elder' pwe_ (Kd.R_base ho24) hb); have n1_ := Aside0.mk (Kd.R_elder' (by (with_reducible repeat apply Kd.R_alloc); exact HO517.out) (Kd.R_base ho24) hb); have n2_ := Aside0.mk (Kd.R_lower (Kd.R_new' (Kd.R_new' ho24 (Kd.R_lt pwe_)) (Kd.R_lt (by (with_reducible repeat apply Kd.R_alloc); exact HO517.out))) (below_size pwi_)); have n3_ := Aside0.mk (below_step pwi_ hb); clear HO_9; clear HO517; clear HB; have HO_9 := n0_; have HO517 := n1_; have HO520 := n2_; have HB := n3_; clear n0_ n1_ n2_ n3_; clear hb ho24; obtain ⟨Ao26, co26, eo26⟩ := Kd.R_slice HO_9.out; subst eo26) | ((with_reducible refine gate_builtin (b := .append) (xs := #[.tmp 55, .tmp 56]) rfl ?_); (try (refine gate_guard (by rfl) ?_; dsimp only)); at_builtin; refine Kd.R_append_rows k62 (w0 := w) w.heap.size rfl (.tmp 55) (.tmp 56) 25 62 (.agg #[(.int .i64 0), (.int .i64 0)]) 16 rfl Try.underlying25 info62 rfl (by decide) (by omega) v519 y518 x9_1 _ _ _ (fun k_ => some k_ ≠ (.slice Ao26 x9_1.length co26 : Value).ownBlock ∧ some k_ ≠ (v516 : Value).ownBlock) (fun _ => False) rfl rfl ?aO ?aR (fun _ _ h => h) (fun _ h => h.elim) ?aF ?aB ?aS ?aL ?_; (case aR => repeat (first | exact (Kd.R_reads' HO_9.out).2.2 | (with_reducible refine Kd.C_alloc ?_ _) | (with_reducible refine Kd.C_drewN ?_ _) | (with_reducible refine Kd.C_drew ?_))); (case aB => exact pwi_); (case aF => exact (fun k_ hk => ⟨Kd.fresh' (Kd.R_lt pwe_) k_ hk, Kd.fresh' (Kd.R_lt (by (with_reducible repeat apply Kd.R_alloc); exact HO517.out)) k_ hk⟩)); (case aO => exact (by (with_reducible repeat apply Kd.R_alloc); exact Kd.R_mono HO520.out (fun _ hk => ⟨hk.1.2, hk.2⟩))); (case aS => exact (below_size pwi_)); (case aL => have := LMc19.out; omega); intro v522 w25 ho hb hg hat; rw [← Ny521.out] at ho; have n0_ := Aside0.mk (Kd.R_after (ok := (fun k_ => some k_ ≠ (v516 : Value).ownBlock)) (by (with_reducible repeat apply Kd.R_alloc); exact Kd.R_mono HO_9.out (fun _ hk => ⟨hk.1.2, hk.2⟩)) hg hat); have n1_ := Aside0.mk (Kd.R_after (ok := (fun k_ => some k_ ≠ (.slice Ao26 x9_1.length co26 : Value).ownBlock)) (by (with_reducible repeat apply Kd.R_alloc); exact Kd.R_mono HO517.out (fun _ hk => ⟨hk.1.2, hk.2⟩)) hg hat); have n2_ := Aside0.mk (hb); have n3_ := Aside0.mk (ho); clear HO_9; clear HO517; clear HB; clear HO520; have HO_9 := n0_; have HO517 := n1_; have HB := n2_; have HO523 := n3_; clear n0_ n1_ n2_ n3_; clear ho hb hg hat; obtain ⟨Ao28, co28, eo28⟩ := Kd.R_slice HO517.out; subst eo28) | ((with_reducible refine gate_builtin (b := .append) (xs := #[.tmp 57, .tmp 58]) rfl ?_); (try (refine gate_guard (by rfl) ?_; dsimp only)); at_builtin; refine Kd.R_append_rows k62 (w0 := w) w.heap.size rfl (.tmp 57) (.tmp 58) 25 62 (.agg #[(.int .i64 0), (.int .i64 0)]) 16 rfl Try.underlying25 info62 rfl (by decide) (by omega) v522 y521 t514 _ _ _ (fun k_ => some k_ ≠ (.slice Ao26 x9_1.length co26 : Value).ownBlock ∧ some k_ ≠ (.slice Ao28 t514.length co28 : Value).ownBlock) (fun _ => False) rfl rfl ?aO ?aR (fun _ _ h => h) (fun _ h => h.elim) ?aF ?aB ?aS ?aL ?_; (case aR => repeat (first | exact (Kd.R_reads' HO517.out).2.2 | (with_reducible refine Kd.C_alloc ?_ _) | (with_reducible refine Kd.C_drewN ?_ _) | (with_reducible refine Kd.C_drew ?_))); (case aB => exact pwi_); (case aF => exact (fun k_ hk => ⟨Kd.fresh' (Kd.R_lt pwe_) k_ hk, Kd.fresh' (Kd.R_lt (by (with_reducible repeat apply Kd.R_alloc); exact HO517.out)) k_ hk⟩)); (case aO => exact (by (with_reducible repeat apply Kd.R_alloc); exact HO523.out)); (case aS => exact (below_size pwi_)); (case aL => have := LMc20.out; omega); intro v525 w27 ho hb hg hat; rw [← Ny524.out] at ho; have n0_ := Aside0.mk (Kd.R_after (ok := (fun k_ => some k_ ≠ (.slice Ao28 t514.length co28 : Value).ownBlock)) pwe_ hg hat); have n1_ := Aside0.mk (Kd.R_after (ok := (fun k_ => some k_ ≠ (.slice Ao26 x9_1.length co26 : Value).ownBlock)) (by (with_reducible repeat apply Kd.R_alloc); exact HO517.out) hg hat); have n2_ := Aside0.mk (hb); have n3_ := Aside0.mk (ho); clear HO_9; clear HO517; clear HB; clear HO523; have HO_9 := n0_; have HO517 := n1_; have HB := n2_; have HO526 := n3_; clear n0_ n1_ n2_ n3_; clear ho hb hg hat) | ((with_reducible refine gate_builtin (b := .append) (xs := #[.tmp 59, .tmp 62]) rfl ?_); (try (refine gate_guard (by rfl) ?_; dsimp only)); at_builtin; refine Kd.R_append k62 (w0 := w) w.heap.size rfl (.tmp 59) (.tmp 62) 25 62 (.agg #[(.int .i64 0), (.int .i64 0)]) 16 rfl Try.underlying25 info62 rfl (by decide) (by omega) v525 y524 (⟨a2, 0⟩ : S62) [.int .i64 a2, .int .i64 0] (fun k_ => some k_ ≠ (.slice Ao26 x9_1.length co26 : Value).ownBlock ∧ some k_ ≠ (.slice Ao28 t514.length co28 : Value).ownBlock) (fun _ => False) rfl rfl ?aP (fun _ hk => hk.elim) ?aF ?aO ?aB ?aS ?aL ?_; (case aP => exact k62_mkM _ _ _ (⟨a2, 0⟩ : S62)); (case aB => exact pwi_); (case aF => exact (fun k_ hk => ⟨Kd.fresh' (Kd.R_lt pwe_) k_ hk, Kd.fresh' (Kd.R_lt (by (with_reducible repeat apply Kd.R_alloc); exact HO517.out)) k_ hk⟩)); (case aO => exact (by (with_reducible repeat apply Kd.R_alloc); exact HO526.out)); (case aS => exact (below_size pwi_)); (case aL => have := LMc21.out; omega); intro v528 w29 ho hb hg hat; rw [← Ny527.out] at ho; have n0_ := Aside0.mk (Kd.R_after (ok := (fun k_ => some k_ ≠ (.slice Ao28 t514.length co28 : Value).ownBlock)) pwe_ hg hat); have n1_ := Aside0.mk (Kd.R_after (ok := (fun k_ => some k_ ≠ (.slice Ao26 x9_1.length co26 : Value).ownBlock)) (by (with_reducible repeat apply Kd.R_alloc); exact HO517.out) hg hat); have n2_ := Aside0.mk (hb); have n3_ := Aside0.mk (ho); clear HO_9; clear HO517; clear HB; clear HO526; have HO_9 := n0_; have HO517 := n1_; have HB := n2_; have HO529 := n3_; clear n0_ n1_ n2_ n3_; clear ho hb hg hat))
             go_roundg k1
             case measure => have := HK1.out; omega
             case rel => exact ⟨(y527), (t515), pwa_, H', ⟨by have := HK1.out; omega⟩, ⟨by (with_reducible repeat apply Kd.R_alloc); exact Kd.R_mono HO529.out (fun _ hk => trivial)⟩, ⟨pwi_⟩⟩
            ·rw [if_neg c21] at H
             exact absurd H (by simp)
           ·rw [if_neg c20] at H
            exact absurd H (by simp)
          ·rw [if_neg c19] at H
           exact absurd H (by simp)
         ·rw [if_neg c17] at H
          have c17b0 : ((bt a0 x10_1) == (bt (⟨#[38, 124, 61]⟩ : ByteArray) (ji7))) = false := beq_eq_false_iff_ne.mpr c17
          have c17b1 : ((bt a0 x10_1) != (bt (⟨#[38, 124, 61]⟩ : ByteArray) (ji7))) = true := bne_iff_ne.mpr c17
          simp only [Option.some.injEq, Prod.mk.injEq] at H
          obtain ⟨rfl, rfl⟩ := H
          have p16 : 0 ≤ (x10_1 : Int) := of_decide_eq_true pwb_
          have q16 : x10_1 < (a0.size : Int) := of_decide_eq_true pwb_
          have hx16 := bt_at a0 x10_1
          replace p16 := eq_true p16
          replace q16 := eq_true q16
          go_wp2
          go_ret2
          exact ⟨_, by first | rfl | (simp [errW_none, errW_some] <;> rfl) | (simp only [← hji7]; first | rfl | (simp [errW_none, errW_some] <;> rfl)) | (simp [*, errW_none, errW_some] <;> rfl), pwe_, pwi_⟩
        ·rw [if_neg c15] at H
         exact absurd H (by simp)
       ·rw [if_neg c14] at H
        have c14b0 : decide (x10_1 < (a0.size : Int)) = false := decide_eq_false c14
        clear c14
        simp only [Option.some.injEq, Prod.mk.injEq] at H
        obtain ⟨rfl, rfl⟩ := H
        go_wp2
        go_ret2
        exact ⟨_, by first | rfl | (simp [errW_none, errW_some] <;> rfl) | (simp only [← hji7]; first | rfl | (simp [errW_none, errW_some] <;> rfl)) | (simp [*, errW_none, errW_some] <;> rfl), pwe_, pwi_⟩
      ·rw [if_neg c13] at H
       have c13b0 : decide (0 ≤ x10_1) = false := decide_eq_false c13
       clear c13
       simp only [Option.some.injEq, Prod.mk.injEq] at H
       obtain ⟨rfl, rfl⟩ := H
       go_wp2
       go_ret2
       exact ⟨_, by first | rfl | (simp [errW_none, errW_some] <;> rfl) | (simp only [← hji7]; first | rfl | (simp [errW_none, errW_some] <;> rfl)) | (simp [*, errW_none, errW_some] <;> rfl), pwe_, pwi_⟩
   ·rw [if_neg c9] at H
    exact absurd H (by simp)
  ·rw [if_neg c8] at H
   exact absurd H (by simp)
theorem l2Level_l2Atom_c.both (k : Nat) : (∀ (a0 : ByteArray) (a1 : Int) (r1 : List (S62)) (r2 : Int) (w : World) (h : spec_l2Atom.f k a0 a1 = some (r1, r2)),
  Calls Try.prog 91 #[.string a0, .int .i64 a1] w fun e w' => ∃ v0_ : Value, e = .returned (.tuple #[v0_, .int .i64 r2]) ∧ Kd.R k62 62 w' w.heap.size (fun _ => True) v0_ r1 ∧ Below w.heap.size w w') ∧ (∀ (a0 : ByteArray) (a1 : Int) (a2 : Int) (r1 : List (S62)) (r2 : Int) (w : World) (h : spec_l2Level.f k a0 a1 a2 = some (r1, r2)),
  Calls Try.prog 64 #[.string a0, .int .i64 a1, .int .i64 a2] w fun e w' => ∃ v0_ : Value, e = .returned (.tuple #[v0_, .int .i64 r2]) ∧ Kd.R k62 62 w' w.heap.size (fun _ => True) v0_ r1 ∧ Below w.heap.size w w') := by
 induction k using Nat.strongRecOn with
 | _ k ih =>
  exact ⟨spec_l2Atom.step k (fun m h => (ih m h).1) (fun m h => (ih m h).2), spec_l2Level.step k (fun m h => (ih m h).1) (fun m h => (ih m h).2)⟩
theorem spec_l2Atom.calls (k : Nat) : ∀ (a0 : ByteArray) (a1 : Int) (r1 : List (S62)) (r2 : Int) (w : World) (h : spec_l2Atom.f k a0 a1 = some (r1, r2)),
  Calls Try.prog 91 #[.string a0, .int .i64 a1] w fun e w' => ∃ v0_ : Value, e = .returned (.tuple #[v0_, .int .i64 r2]) ∧ Kd.R k62 62 w' w.heap.size (fun _ => True) v0_ r1 ∧ Below w.heap.size w w' := (l2Level_l2Atom_c.both k).1
theorem spec_l2Level.calls (k : Nat) : ∀ (a0 : ByteArray) (a1 : Int) (a2 : Int) (r1 : List (S62)) (r2 : Int) (w : World) (h : spec_l2Level.f k a0 a1 a2 = some (r1, r2)),
  Calls Try.prog 64 #[.string a0, .int .i64 a1, .int .i64 a2] w fun e w' => ∃ v0_ : Value, e = .returned (.tuple #[v0_, .int .i64 r2]) ∧ Kd.R k62 62 w' w.heap.size (fun _ => True) v0_ r1 ∧ Below w.heap.size w w' := (l2Level_l2Atom_c.both k).2

end Go.Proofs.Ytfhmafmfaoknlaa.PFnReadTerm
