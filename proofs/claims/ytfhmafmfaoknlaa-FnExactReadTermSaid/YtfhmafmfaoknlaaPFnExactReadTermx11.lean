-- Made by a program of this session (wip/tools/patchprint.py), not by the kit itself.
import Derived.Test.YtfhmafmfaoknlaaPFnExactReadTermx0
import Derived.Test.YtfhmafmfaoknlaaPFnExactReadTermx5
import Derived.Test.YtfhmafmfaoknlaaPFnExactReadTermx9
import Derived.Test.YtfhmafmfaoknlaaPFnExactReadTermx10
namespace Go.Proofs.Ytfhmafmfaoknlaa.PFnExactReadTerm
open Go.RowKit Go.Proofs.YtfhmafmfaoknlaaW.PrintWords Go.Proofs.YtfhmafmfaoknlaaW.PrintLast Go.Proofs.YtfhmafmfaoknlaaW.PrintMore
attribute [local go_sem] max2_int min2_int max_two min_two max_three min_three max_four min_four   -- for this text's walks alone
set_option linter.unusedVariables false
set_option linter.unusedSimpArgs false

attribute [local go_sem] setCell_isSome
/-! ### laws_FnExactReadTerm: function 6 -/
mutual
def laws_FnExactReadTerm.j0 : Nat → Int → ByteArray → List (S62) → Bool → List (S62) → Bool → Option (Bool)
 | 0, _, _, _, _, _, _ => none
 | k + 1, x0, x1, x5, x6, x7, x36 => if x36 = true then (some false) else ((laws_markMarkS.f k x7 1).bind fun bt405 => ((laws_heldMarkS.f k bt405.2 1).bind fun t407 => (if t407 < 0 then (some false) else (if t407 = bt405.1 then ((impl_ReadTerm.f k x0 x1).bind fun bt408 => ((laws_eqMarkS.f k bt408.1 x5).bind fun t412 => (if t412 = true then (laws_FnExactReadTerm.j1 k bt405.2 bt405.1 (bt408.2 != x6)) else (laws_FnExactReadTerm.j1 k bt405.2 bt405.1 true)))) else (some false)))))
def laws_FnExactReadTerm.j1 : Nat → List (S62) → Int → Bool → Option (Bool)
 | 0, _, _, _ => none
 | k + 1, x7, x9, x62 => if x62 = true then (some false) else ((laws_heldMarkS.f k x7 1).bind fun t413 => (if t413 < 0 then (some false) else (if t413 = x9 then (some true) else (some false))))
end
def laws_FnExactReadTerm.f (k : Nat) (a0 : Int) (a1 : ByteArray) : Option (Bool) := if (a1.size : Int) > 1048576 then (some true) else ((spec_ReadTerm.f k a0 a1).bind fun bt396 => ((impl_ReadTerm.f k a0 a1).bind fun bt400 => ((laws_eqMarkS.f k bt400.1 bt396.1).bind fun t404 => (if t404 = true then (laws_FnExactReadTerm.j0 k a0 a1 bt396.1 bt396.2 bt400.1 (bt400.2 != bt396.2)) else (laws_FnExactReadTerm.j0 k a0 a1 bt396.1 bt396.2 bt400.1 true)))))
theorem laws_FnExactReadTerm.mono_l : ∀ k, (∀ y0 y1 y2 y3 y4 y5, LeO (laws_FnExactReadTerm.j0 k y0 y1 y2 y3 y4 y5) (laws_FnExactReadTerm.j0 (k + 1) y0 y1 y2 y3 y4 y5)) ∧ (∀ y0 y1 y2, LeO (laws_FnExactReadTerm.j1 k y0 y1 y2) (laws_FnExactReadTerm.j1 (k + 1) y0 y1 y2))
 | 0 => ⟨fun _ _ _ _ _ _ r h => by simp [laws_FnExactReadTerm.j0] at h, fun _ _ _ r h => by simp [laws_FnExactReadTerm.j1] at h⟩
 | k + 1 => by
  obtain ⟨ih0, ih1⟩ := laws_FnExactReadTerm.mono_l k
  refine ⟨?_, ?_⟩
  ·intro y0 y1 y2 y3 y4 y5
   unfold laws_FnExactReadTerm.j0
   repeat' first
   | (with_reducible exact ih0 _ _ _ _ _ _)
   | (with_reducible exact ih1 _ _ _)
   | (with_reducible exact impl_ReadTerm.mono _ _ _)
   | (with_reducible exact laws_eqMarkS.mono _ _ _)
   | (with_reducible exact laws_heldMarkS.mono _ _ _)
   | (with_reducible exact laws_markMarkS.mono _ _ _)
   | (with_reducible exact spec_ReadTerm.mono _ _ _)
   | (with_reducible exact LeO.refl _)
   | (with_reducible exact LeO.none _)
   | (with_reducible refine LeO.ite ?_ ?_)
   | (with_reducible refine LeO.bind ?_ (fun _ => ?_))
   | exact ih0 _ _ _ _ _ _
   | exact ih1 _ _ _
   | exact impl_ReadTerm.mono _ _ _
   | exact laws_eqMarkS.mono _ _ _
   | exact laws_heldMarkS.mono _ _ _
   | exact laws_markMarkS.mono _ _ _
   | exact spec_ReadTerm.mono _ _ _
   | exact LeO.none _
   | refine LeO.ite ?_ ?_
   | refine LeO.bind ?_ (fun _ => ?_)
  ·intro y0 y1 y2
   unfold laws_FnExactReadTerm.j1
   repeat' first
   | (with_reducible exact ih0 _ _ _ _ _ _)
   | (with_reducible exact ih1 _ _ _)
   | (with_reducible exact impl_ReadTerm.mono _ _ _)
   | (with_reducible exact laws_eqMarkS.mono _ _ _)
   | (with_reducible exact laws_heldMarkS.mono _ _ _)
   | (with_reducible exact laws_markMarkS.mono _ _ _)
   | (with_reducible exact spec_ReadTerm.mono _ _ _)
   | (with_reducible exact LeO.refl _)
   | (with_reducible exact LeO.none _)
   | (with_reducible refine LeO.ite ?_ ?_)
   | (with_reducible refine LeO.bind ?_ (fun _ => ?_))
   | exact ih0 _ _ _ _ _ _
   | exact ih1 _ _ _
   | exact impl_ReadTerm.mono _ _ _
   | exact laws_eqMarkS.mono _ _ _
   | exact laws_heldMarkS.mono _ _ _
   | exact laws_markMarkS.mono _ _ _
   | exact spec_ReadTerm.mono _ _ _
   | exact LeO.none _
   | refine LeO.ite ?_ ?_
   | refine LeO.bind ?_ (fun _ => ?_)
theorem laws_FnExactReadTerm.mono : ∀ a0 a1 k, LeO (laws_FnExactReadTerm.f k a0 a1) (laws_FnExactReadTerm.f (k + 1) a0 a1) := by
 intro a0 a1 k
 obtain ⟨ih0, ih1⟩ := laws_FnExactReadTerm.mono_l k
 unfold laws_FnExactReadTerm.f
 repeat' first
   | (with_reducible exact ih0 _ _ _ _ _ _)
   | (with_reducible exact ih1 _ _ _)
   | (with_reducible exact impl_ReadTerm.mono _ _ _)
   | (with_reducible exact laws_eqMarkS.mono _ _ _)
   | (with_reducible exact laws_heldMarkS.mono _ _ _)
   | (with_reducible exact laws_markMarkS.mono _ _ _)
   | (with_reducible exact spec_ReadTerm.mono _ _ _)
   | (with_reducible exact LeO.refl _)
   | (with_reducible exact LeO.none _)
   | (with_reducible refine LeO.ite ?_ ?_)
   | (with_reducible refine LeO.bind ?_ (fun _ => ?_))
   | exact ih0 _ _ _ _ _ _
   | exact ih1 _ _ _
   | exact impl_ReadTerm.mono _ _ _
   | exact laws_eqMarkS.mono _ _ _
   | exact laws_heldMarkS.mono _ _ _
   | exact laws_markMarkS.mono _ _ _
   | exact spec_ReadTerm.mono _ _ _
   | exact LeO.none _
   | refine LeO.ite ?_ ?_
   | refine LeO.bind ?_ (fun _ => ?_)
set_option maxHeartbeats 8000000 in
set_option maxRecDepth 100000 in
theorem laws_FnExactReadTerm.calls (k : Nat) (a0 : Int) (a1 : ByteArray) (r : Bool) (w : World) (h : laws_FnExactReadTerm.f k a0 a1 = some r) :
  Calls Try.prog 6 #[.int .i64 a0, .string a1] w fun e w' => e = .returned (.bool r) ∧ Below w.heap.size w w' := by
 have HB := Aside0.mk (Below.refl w.heap.size w)
 have H : (if (a1.size : Int) > 1048576 then (some true) else ((spec_ReadTerm.f k a0 a1).bind fun bt396 => ((impl_ReadTerm.f k a0 a1).bind fun bt400 => ((laws_eqMarkS.f k bt400.1 bt396.1).bind fun t404 => (if t404 = true then (laws_FnExactReadTerm.j0 k a0 a1 bt396.1 bt396.2 bt400.1 (bt400.2 != bt396.2)) else (laws_FnExactReadTerm.j0 k a0 a1 bt396.1 bt396.2 bt400.1 true)))))) = some r := h
 clear h
 by_cases c3 : (a1.size : Int) > 1048576
 ·rw [if_pos c3] at H
  have c3b0 : decide (1048576 < (a1.size : Int)) = true := decide_eq_true c3
  have c3b1 : decide (1048576 < a1.size) = true := decide_eq_true (by omega)
  clear c3
  obtain rfl := Option.some.inj H
  go_enter Try.func6, Try.ntmps6
  go_wp2
  go_ret
  exact ⟨by first | rfl | (simp [errW_none, errW_some] <;> rfl) | (simp [*, errW_none, errW_some] <;> rfl), pwg_⟩
 ·rw [if_neg c3] at H
  have c3b0 : decide (1048576 < (a1.size : Int)) = false := decide_eq_false c3
  have c3b1 : decide (1048576 < a1.size) = false := decide_eq_false (by omega)
  clear c3
  replace H := Option.bind_eq_some_iff.mp H
  obtain ⟨⟨t396, t397⟩, A40, H⟩ := H
  replace H : ((impl_ReadTerm.f k a0 a1).bind fun bt400 => ((laws_eqMarkS.f k bt400.1 t396).bind fun t404 => (if t404 = true then (laws_FnExactReadTerm.j0 k a0 a1 t396 t397 bt400.1 (bt400.2 != t397)) else (laws_FnExactReadTerm.j0 k a0 a1 t396 t397 bt400.1 true)))) = some r := H
  have A4 := Aside0.mk A40
  clear A40
  replace H := Option.bind_eq_some_iff.mp H
  obtain ⟨⟨t400, t401⟩, A50, H⟩ := H
  replace H : ((laws_eqMarkS.f k t400 t396).bind fun t404 => (if t404 = true then (laws_FnExactReadTerm.j0 k a0 a1 t396 t397 t400 (t401 != t397)) else (laws_FnExactReadTerm.j0 k a0 a1 t396 t397 t400 true))) = some r := H
  have A5 := Aside0.mk A50
  clear A50
  have HC6 := Aside0.mk H
  clear H
  go_enter Try.func6, Try.ntmps6
  go_upto_region 5 with (first | ((with_reducible refine gate_callee (f := 17) rfl ?_); refine goesL_ (some 19) rfl rfl Try.func17 (by kernel_rfl) rfl #[.int .i64 a0, .string a1] rfl pwh_ ?_; (with_reducible refine (spec_ReadTerm.calls k a0 a1 t396 t397 _ A4.out).mono ?_); rintro e w7 ⟨v398, rfl, ho0, hb⟩; refine ⟨_, rfl, ?_⟩; have n0_ := Aside0.mk (Kd.R_lower ho0 (below_size pwg_)); have n1_ := Aside0.mk (below_step pwg_ hb); clear HB; have HO399 := n0_; have HB := n1_; clear n0_ n1_; (try clear hb); (try clear hb2); (try clear hk); (try clear hi); (try clear ho0)) | ((with_reducible refine gate_callee (f := 16) rfl ?_); refine goesL_ (some 25) rfl rfl Try.func16 (by kernel_rfl) rfl #[.int .i64 a0, .string a1] rfl pwh_ ?_; (with_reducible refine (impl_ReadTerm.calls k a0 a1 t400 t401 _ A5.out).mono ?_); rintro e w8 ⟨v402, rfl, ho0, hb⟩; refine ⟨_, rfl, ?_⟩; have n0_ := Aside0.mk (Kd.R_elder' (by (with_reducible repeat apply Kd.R_alloc); exact HO399.out) (Kd.R_base ho0) hb); have n1_ := Aside0.mk (Kd.R_lower (Kd.R_new' ho0 (Kd.R_lt (by (with_reducible repeat apply Kd.R_alloc); exact HO399.out))) (below_size pwg_)); have n2_ := Aside0.mk (below_step pwg_ hb); clear HO399; clear HB; have HO399 := n0_; have HO403 := n1_; have HB := n2_; clear n0_ n1_ n2_; (try clear hb); (try clear hb2); (try clear hk); (try clear hi); (try clear ho0)))
  (try simp only [Act.put, List.setIfInBounds_toArray, List.set_cons_zero, List.set_cons_succ])
  go_cut [36] (fun v36 wc => ∃ (kq : Nat) (x36_5 : Bool), v36 = .bool x36_5 ∧ Aside0 (laws_FnExactReadTerm.j0 kq a0 a1 t396 t397 t400 x36_5 = some r) ∧ Aside0 (kq ≤ k) ∧ Aside0 (Kd.R k62 62 wc w.heap.size (fun k_ => some k_ ≠ (v402 : Value).ownBlock) v398 t396) ∧ Aside0 (Kd.R k62 62 wc w.heap.size (fun k_ => some k_ ≠ (v398 : Value).ownBlock) v402 t400) ∧ Aside0 (Below w.heap.size w wc))
  case first =>
   have H := HC6.out
   clear HC6
   replace H := Option.bind_eq_some_iff.mp H
   obtain ⟨t404, A90, H⟩ := H
   replace H : (if t404 = true then (laws_FnExactReadTerm.j0 k a0 a1 t396 t397 t400 (t401 != t397)) else (laws_FnExactReadTerm.j0 k a0 a1 t396 t397 t400 true)) = some r := H
   have A9 := Aside0.mk A90
   clear A90
   by_cases c10 : t404 = true
   ·subst c10
    have H1 : (laws_FnExactReadTerm.j0 k a0 a1 t396 t397 t400 (t401 != t397)) = some r := by rw [if_pos rfl] at H; exact H
    clear H
    have H := H1
    clear H1
    have H' := Aside0.mk H
    clear H
    obtain ⟨Ao11, co11, eo11⟩ := Kd.R_slice HO403.out
    subst eo11
    obtain ⟨Ao12, co12, eo12⟩ := Kd.R_slice HO399.out
    subst eo12
    go_wp2_with (first | ((with_reducible refine gate_callee (f := 25) rfl ?_); refine goesL_ (some 30) rfl rfl Try.func25 (by kernel_rfl) rfl #[.slice Ao11 t400.length co11, .slice Ao12 t396.length co12] rfl pwh_ ?_; (with_reducible refine (laws_eqMarkS.calls k _ _ t400 _ _ t396 true _ ?side1 ?side2 ?side3 ?side4 A9.out).mono ?_); (case side1 => repeat (first | exact (Kd.R_reads' HO403.out).2.2 | (with_reducible refine Kd.C_alloc ?_ _) | (with_reducible refine Kd.C_drewN ?_ _) | (with_reducible refine Kd.C_drew ?_))); (case side2 => exact (Kd.R_reads' HO403.out).2.1); (case side3 => repeat (first | exact (Kd.R_reads' HO399.out).2.2 | (with_reducible refine Kd.C_alloc ?_ _) | (with_reducible refine Kd.C_drewN ?_ _) | (with_reducible refine Kd.C_drew ?_))); (case side4 => exact (Kd.R_reads' HO399.out).2.1); rintro e w13 ⟨rfl, hb⟩; refine ⟨_, rfl, ?_⟩; have n0_ := Aside0.mk (Kd.R_below (by (with_reducible repeat apply Kd.R_alloc); exact HO399.out) hb); have n1_ := Aside0.mk (Kd.R_below (by (with_reducible repeat apply Kd.R_alloc); exact HO403.out) hb); have n2_ := Aside0.mk (below_step pwg_ hb); clear HO399; clear HO403; clear HB; have HO399 := n0_; have HO403 := n1_; have HB := n2_; clear n0_ n1_ n2_; (try clear hb); (try clear hb2); (try clear hk); (try clear hi)))
    go_meet
    case rel => exact ⟨_, ((t401 != t397)), pwa_, H', ⟨by first | omega | exact Nat.le_refl _⟩, ⟨by (with_reducible repeat apply Kd.R_alloc); exact Kd.R_mono HO399.out (fun _ hk => hk.2)⟩, ⟨by (with_reducible repeat apply Kd.R_alloc); exact Kd.R_mono HO403.out (fun _ hk => hk.2)⟩, ⟨pwg_⟩⟩
   ·replace c10 := Bool.eq_false_iff.mpr c10
    subst c10
    have H1 : (laws_FnExactReadTerm.j0 k a0 a1 t396 t397 t400 true) = some r := by rw [if_neg (show ¬ (false = true) by decide)] at H; exact H
    clear H
    have H := H1
    clear H1
    have H' := Aside0.mk H
    clear H
    obtain ⟨Ao14, co14, eo14⟩ := Kd.R_slice HO403.out
    subst eo14
    obtain ⟨Ao15, co15, eo15⟩ := Kd.R_slice HO399.out
    subst eo15
    go_wp2_with (first | ((with_reducible refine gate_callee (f := 25) rfl ?_); refine goesL_ (some 30) rfl rfl Try.func25 (by kernel_rfl) rfl #[.slice Ao14 t400.length co14, .slice Ao15 t396.length co15] rfl pwh_ ?_; (with_reducible refine (laws_eqMarkS.calls k _ _ t400 _ _ t396 false _ ?side1 ?side2 ?side3 ?side4 A9.out).mono ?_); (case side1 => repeat (first | exact (Kd.R_reads' HO403.out).2.2 | (with_reducible refine Kd.C_alloc ?_ _) | (with_reducible refine Kd.C_drewN ?_ _) | (with_reducible refine Kd.C_drew ?_))); (case side2 => exact (Kd.R_reads' HO403.out).2.1); (case side3 => repeat (first | exact (Kd.R_reads' HO399.out).2.2 | (with_reducible refine Kd.C_alloc ?_ _) | (with_reducible refine Kd.C_drewN ?_ _) | (with_reducible refine Kd.C_drew ?_))); (case side4 => exact (Kd.R_reads' HO399.out).2.1); rintro e w16 ⟨rfl, hb⟩; refine ⟨_, rfl, ?_⟩; have n0_ := Aside0.mk (Kd.R_below (by (with_reducible repeat apply Kd.R_alloc); exact HO399.out) hb); have n1_ := Aside0.mk (Kd.R_below (by (with_reducible repeat apply Kd.R_alloc); exact HO403.out) hb); have n2_ := Aside0.mk (below_step pwg_ hb); clear HO399; clear HO403; clear HB; have HO399 := n0_; have HO403 := n1_; have HB := n2_; clear n0_ n1_ n2_; (try clear hb); (try clear hb2); (try clear hk); (try clear hi)))
    go_meet
    case rel => exact ⟨_, (true), pwa_, H', ⟨by first | omega | exact Nat.le_refl _⟩, ⟨by (with_reducible repeat apply Kd.R_alloc); exact Kd.R_mono HO399.out (fun _ hk => hk.2)⟩, ⟨by (with_reducible repeat apply Kd.R_alloc); exact Kd.R_mono HO403.out (fun _ hk => hk.2)⟩, ⟨pwg_⟩⟩
  case rest =>
   clear HC6
   try clear c1
   try clear c2
   try clear p2
   try clear c3
   try clear c3b0
   try clear c3b1
   try clear c6
   try clear c10
   try clear c16
   obtain ⟨kq, x36_5, rfl, HA, HJ5, HO_5, HO_7, HB⟩ := hcut
   cases kq with
   | zero => exact absurd HA.out (by simp [laws_FnExactReadTerm.j0])
   | succ kj5 =>
    have H := HA.out
    clear HA
    simp only [laws_FnExactReadTerm.j0] at H
    by_cases c17 : x36_5 = true
    ·subst c17
     have H1 : (some false) = some r := by rw [if_pos rfl] at H; exact H
     clear H
     have H := H1
     clear H1
     obtain rfl := Option.some.inj H
     go_wp2
     go_ret
     exact ⟨by first | rfl | (simp [errW_none, errW_some] <;> rfl) | (simp [*, errW_none, errW_some] <;> rfl), pwg_⟩
    ·replace c17 := Bool.eq_false_iff.mpr c17
     subst c17
     have H1 : ((laws_markMarkS.f kj5 t400 1).bind fun bt405 => ((laws_heldMarkS.f kj5 bt405.2 1).bind fun t407 => (if t407 < 0 then (some false) else (if t407 = bt405.1 then ((impl_ReadTerm.f kj5 a0 a1).bind fun bt408 => ((laws_eqMarkS.f kj5 bt408.1 t396).bind fun t412 => (if t412 = true then (laws_FnExactReadTerm.j1 kj5 bt405.2 bt405.1 (bt408.2 != t397)) else (laws_FnExactReadTerm.j1 kj5 bt405.2 bt405.1 true)))) else (some false))))) = some r := by rw [if_neg (show ¬ (false = true) by decide)] at H; exact H
     clear H
     have H := H1
     clear H1
     replace H := Option.bind_eq_some_iff.mp H
     obtain ⟨⟨t405, t406⟩, A180, H⟩ := H
     replace H : ((laws_heldMarkS.f kj5 t406 1).bind fun t407 => (if t407 < 0 then (some false) else (if t407 = t405 then ((impl_ReadTerm.f kj5 a0 a1).bind fun bt408 => ((laws_eqMarkS.f kj5 bt408.1 t396).bind fun t412 => (if t412 = true then (laws_FnExactReadTerm.j1 kj5 t406 t405 (bt408.2 != t397)) else (laws_FnExactReadTerm.j1 kj5 t406 t405 true)))) else (some false)))) = some r := H
     have A18 := Aside0.mk A180
     clear A180
     replace H := Option.bind_eq_some_iff.mp H
     obtain ⟨t407, A190, H⟩ := H
     replace H : (if t407 < 0 then (some false) else (if t407 = t405 then ((impl_ReadTerm.f kj5 a0 a1).bind fun bt408 => ((laws_eqMarkS.f kj5 bt408.1 t396).bind fun t412 => (if t412 = true then (laws_FnExactReadTerm.j1 kj5 t406 t405 (bt408.2 != t397)) else (laws_FnExactReadTerm.j1 kj5 t406 t405 true)))) else (some false))) = some r := H
     have A19 := Aside0.mk A190
     clear A190
     by_cases c20 : t407 < 0
     ·rw [if_pos c20] at H
      have c20b0 : decide (t407 < 0) = true := decide_eq_true c20
      clear c20
      obtain rfl := Option.some.inj H
      obtain ⟨Ao21, co21, eo21⟩ := Kd.R_slice HO_7.out
      subst eo21
      go_wp2_with (first | ((with_reducible refine gate_callee (f := 29) rfl ?_); refine goesL_ (some 39) rfl rfl Try.func29 (by kernel_rfl) rfl #[.slice Ao21 t400.length co21, .int .i64 1] rfl pwh_ ?_; (with_reducible refine (laws_markMarkS.calls kj5 (fun k_ => some k_ = (.slice Ao21 t400.length co21 : Value).ownBlock) (.slice Ao21 t400.length co21) t400 1 t405 t406 w _ ?side1 ?side2 A18.out).mono ?_); (case side1 => repeat (first | (with_reducible first | exact HB.out | apply below_alloc | apply pw_below_drewN | apply below_drew1) | exact HB.out)); (case side2 => exact Kd.R_tight rfl HO_7.out); rintro e w22 ⟨rfl, hy0, hb, hkp⟩; refine ⟨_, rfl, ?_⟩; have n0_ := Aside0.mk (Kd.R_mono (ok' := fun k_ => some k_ ≠ (.slice Ao21 t400.length co21 : Value).ownBlock) (Kd.R_keptB (HO_5.out) hkp (fun k_ hk_ hs_ => (hk_) hs_)) (fun k_ hk_ => hk_.1)); have n1_ := Aside0.mk (Kd.R_reok rfl hy0 (fun k_ e_ => HO_7.out.1 k_ e_)); have n2_ := Aside0.mk (hb); clear HO_5; clear HO_7; clear HB; have HO_5 := n0_; have HO_7 := n1_; have HB := n2_; clear n0_ n1_ n2_; (try clear hb); (try clear hkp); (try clear hy0)) | ((with_reducible refine gate_callee (f := 30) rfl ?_); refine goesL_ (some 42) rfl rfl Try.func30 (by kernel_rfl) rfl #[.slice Ao21 t406.length co21, .int .i64 1] rfl pwj_ ?_; (with_reducible refine (laws_heldMarkS.calls kj5 _ _ t406 1 t407 _ ?side1 ?side2 A19.out).mono ?_); (case side1 => repeat (first | exact (Kd.R_reads' HO_7.out).2.2 | (with_reducible refine Kd.C_alloc ?_ _) | (with_reducible refine Kd.C_drewN ?_ _) | (with_reducible refine Kd.C_drew ?_))); (case side2 => rw [show t406.length = t400.length from (Kd.R_reads' HO_7.out).1.symm]; exact (Kd.R_reads' HO_7.out).2.1); rintro e w' ⟨rfl, ⟨nd, rfl⟩⟩; refine ⟨_, rfl, ?_⟩))
      go_ret
      exact ⟨by first | rfl | (simp [errW_none, errW_some] <;> rfl) | (simp [*, errW_none, errW_some] <;> rfl), pwg_⟩
     ·rw [if_neg c20] at H
      have c20b0 : decide (t407 < 0) = false := decide_eq_false c20
      clear c20
      by_cases c23 : t407 = t405
      ·rw [if_pos c23] at H
       have c23b0 : (t407 == t405) = true := beq_iff_eq.mpr c23
       have c23b1 : (t407 != t405) = false := bne_eq_false_iff_eq.mpr c23
       clear c23
       replace H := Option.bind_eq_some_iff.mp H
       obtain ⟨⟨t408, t409⟩, A240, H⟩ := H
       replace H : ((laws_eqMarkS.f kj5 t408 t396).bind fun t412 => (if t412 = true then (laws_FnExactReadTerm.j1 kj5 t406 t405 (t409 != t397)) else (laws_FnExactReadTerm.j1 kj5 t406 t405 true))) = some r := H
       have A24 := Aside0.mk A240
       clear A240
       have HC25 := Aside0.mk H
       clear H
       obtain ⟨Ao26, co26, eo26⟩ := Kd.R_slice HO_7.out
       subst eo26
       go_upto_region 16 with (first | ((with_reducible refine gate_callee (f := 29) rfl ?_); refine goesL_ (some 39) rfl rfl Try.func29 (by kernel_rfl) rfl #[.slice Ao26 t400.length co26, .int .i64 1] rfl pwh_ ?_; (with_reducible refine (laws_markMarkS.calls kj5 (fun k_ => some k_ = (.slice Ao26 t400.length co26 : Value).ownBlock) (.slice Ao26 t400.length co26) t400 1 t405 t406 w _ ?side1 ?side2 A18.out).mono ?_); (case side1 => repeat (first | (with_reducible first | exact HB.out | apply below_alloc | apply pw_below_drewN | apply below_drew1) | exact HB.out)); (case side2 => exact Kd.R_tight rfl HO_7.out); rintro e w27 ⟨rfl, hy0, hb, hkp⟩; refine ⟨_, rfl, ?_⟩; have n0_ := Aside0.mk (Kd.R_mono (ok' := fun k_ => some k_ ≠ (.slice Ao26 t400.length co26 : Value).ownBlock) (Kd.R_keptB (HO_5.out) hkp (fun k_ hk_ hs_ => (hk_) hs_)) (fun k_ hk_ => hk_.1)); have n1_ := Aside0.mk (Kd.R_reok rfl hy0 (fun k_ e_ => HO_7.out.1 k_ e_)); have n2_ := Aside0.mk (hb); clear HO_5; clear HO_7; clear HB; have HO_5 := n0_; have HO_7 := n1_; have HB := n2_; clear n0_ n1_ n2_; (try clear hb); (try clear hkp); (try clear hy0)) | ((with_reducible refine gate_callee (f := 30) rfl ?_); refine goesL_ (some 42) rfl rfl Try.func30 (by kernel_rfl) rfl #[.slice Ao26 t406.length co26, .int .i64 1] rfl pwj_ ?_; (with_reducible refine (laws_heldMarkS.calls kj5 _ _ t406 1 t407 _ ?side1 ?side2 A19.out).mono ?_); (case side1 => repeat (first | exact (Kd.R_reads' HO_7.out).2.2 | (with_reducible refine Kd.C_alloc ?_ _) | (with_reducible refine Kd.C_drewN ?_ _) | (with_reducible refine Kd.C_drew ?_))); (case side2 => rw [show t406.length = t400.length from (Kd.R_reads' HO_7.out).1.symm]; exact (Kd.R_reads' HO_7.out).2.1); rintro e w' ⟨rfl, ⟨nd, rfl⟩⟩; refine ⟨_, rfl, ?_⟩) | ((with_reducible refine gate_callee (f := 16) rfl ?_); refine goesL_ (some 51) rfl rfl Try.func16 (by kernel_rfl) rfl #[.int .i64 a0, .string a1] rfl pwh_ ?_; (with_reducible refine (impl_ReadTerm.calls kj5 a0 a1 t408 t409 _ A24.out).mono ?_); rintro e w28 ⟨v410, rfl, ho0, hb⟩; refine ⟨_, rfl, ?_⟩; have n0_ := Aside0.mk (Kd.R_elder' (by (with_reducible repeat apply Kd.R_alloc); exact HO_5.out) (Kd.R_base ho0) hb); have n1_ := Aside0.mk (Kd.R_elder' (by (with_reducible repeat apply Kd.R_alloc); exact HO_7.out) (Kd.R_base ho0) hb); have n2_ := Aside0.mk (Kd.R_lower (Kd.R_new' (Kd.R_new' ho0 (Kd.R_lt (by (with_reducible repeat apply Kd.R_alloc); exact HO_5.out))) (Kd.R_lt (by (with_reducible repeat apply Kd.R_alloc); exact HO_7.out))) (below_size pwg_)); have n3_ := Aside0.mk (below_step pwg_ hb); clear HO_5; clear HO_7; clear HB; have HO_5 := n0_; have HO_7 := n1_; have HO411 := n2_; have HB := n3_; clear n0_ n1_ n2_ n3_; (try clear hb); (try clear hb2); (try clear hk); (try clear hi); (try clear ho0)))
       (try simp only [Act.put, List.setIfInBounds_toArray, List.set_cons_zero, List.set_cons_succ])
       go_cut [62] (fun v62 wc => ∃ (kq : Nat) (x62_24 : Bool), v62 = .bool x62_24 ∧ Aside0 (laws_FnExactReadTerm.j1 kq t406 t405 x62_24 = some r) ∧ Aside0 (kq ≤ kj5) ∧ Aside0 (Kd.R k62 62 wc w.heap.size (fun _ => True) (.slice Ao26 t400.length co26) t406) ∧ Aside0 (Below w.heap.size w wc))
       case first =>
        have H := HC25.out
        clear HC25
        replace H := Option.bind_eq_some_iff.mp H
        obtain ⟨t412, A290, H⟩ := H
        replace H : (if t412 = true then (laws_FnExactReadTerm.j1 kj5 t406 t405 (t409 != t397)) else (laws_FnExactReadTerm.j1 kj5 t406 t405 true)) = some r := H
        have A29 := Aside0.mk A290
        clear A290
        by_cases c30 : t412 = true
        ·subst c30
         have H1 : (laws_FnExactReadTerm.j1 kj5 t406 t405 (t409 != t397)) = some r := by rw [if_pos rfl] at H; exact H
         clear H
         have H := H1
         clear H1
         have H' := Aside0.mk H
         clear H
         obtain ⟨Ao31, co31, eo31⟩ := Kd.R_slice HO411.out
         subst eo31
         obtain ⟨Ao32, co32, eo32⟩ := Kd.R_slice HO_5.out
         subst eo32
         go_wp2_with (first | ((with_reducible refine gate_callee (f := 25) rfl ?_); refine goesL_ (some 56) rfl rfl Try.func25 (by kernel_rfl) rfl #[.slice Ao31 t408.length co31, .slice Ao32 t396.length co32] rfl pwh_ ?_; (with_reducible refine (laws_eqMarkS.calls kj5 _ _ t408 _ _ t396 true _ ?side1 ?side2 ?side3 ?side4 A29.out).mono ?_); (case side1 => repeat (first | exact (Kd.R_reads' HO411.out).2.2 | (with_reducible refine Kd.C_alloc ?_ _) | (with_reducible refine Kd.C_drewN ?_ _) | (with_reducible refine Kd.C_drew ?_))); (case side2 => exact (Kd.R_reads' HO411.out).2.1); (case side3 => repeat (first | exact (Kd.R_reads' HO_5.out).2.2 | (with_reducible refine Kd.C_alloc ?_ _) | (with_reducible refine Kd.C_drewN ?_ _) | (with_reducible refine Kd.C_drew ?_))); (case side4 => exact (Kd.R_reads' HO_5.out).2.1); rintro e w33 ⟨rfl, hb⟩; refine ⟨_, rfl, ?_⟩; have n0_ := Aside0.mk (Kd.R_below (by (with_reducible repeat apply Kd.R_alloc); exact HO_5.out) hb); have n1_ := Aside0.mk (Kd.R_below (by (with_reducible repeat apply Kd.R_alloc); exact HO_7.out) hb); have n2_ := Aside0.mk (Kd.R_below (by (with_reducible repeat apply Kd.R_alloc); exact HO411.out) hb); have n3_ := Aside0.mk (below_step pwg_ hb); clear HO_5; clear HO_7; clear HO411; clear HB; have HO_5 := n0_; have HO_7 := n1_; have HO411 := n2_; have HB := n3_; clear n0_ n1_ n2_ n3_; (try clear hb); (try clear hb2); (try clear hk); (try clear hi)))
         go_meet
         case rel => exact ⟨_, ((t409 != t397)), pwa_, H', ⟨by have := HJ5.out; first | omega | exact Nat.le_refl _⟩, ⟨by (with_reducible repeat apply Kd.R_alloc); exact Kd.R_mono HO_7.out (fun _ hk => trivial)⟩, ⟨pwg_⟩⟩
        ·replace c30 := Bool.eq_false_iff.mpr c30
         subst c30
         have H1 : (laws_FnExactReadTerm.j1 kj5 t406 t405 true) = some r := by rw [if_neg (show ¬ (false = true) by decide)] at H; exact H
         clear H
         have H := H1
         clear H1
         have H' := Aside0.mk H
         clear H
         obtain ⟨Ao34, co34, eo34⟩ := Kd.R_slice HO411.out
         subst eo34
         obtain ⟨Ao35, co35, eo35⟩ := Kd.R_slice HO_5.out
         subst eo35
         go_wp2_with (first | ((with_reducible refine gate_callee (f := 25) rfl ?_); refine goesL_ (some 56) rfl rfl Try.func25 (by kernel_rfl) rfl #[.slice Ao34 t408.length co34, .slice Ao35 t396.length co35] rfl pwh_ ?_; (with_reducible refine (laws_eqMarkS.calls kj5 _ _ t408 _ _ t396 false _ ?side1 ?side2 ?side3 ?side4 A29.out).mono ?_); (case side1 => repeat (first | exact (Kd.R_reads' HO411.out).2.2 | (with_reducible refine Kd.C_alloc ?_ _) | (with_reducible refine Kd.C_drewN ?_ _) | (with_reducible refine Kd.C_drew ?_))); (case side2 => exact (Kd.R_reads' HO411.out).2.1); (case side3 => repeat (first | exact (Kd.R_reads' HO_5.out).2.2 | (with_reducible refine Kd.C_alloc ?_ _) | (with_reducible refine Kd.C_drewN ?_ _) | (with_reducible refine Kd.C_drew ?_))); (case side4 => exact (Kd.R_reads' HO_5.out).2.1); rintro e w36 ⟨rfl, hb⟩; refine ⟨_, rfl, ?_⟩; have n0_ := Aside0.mk (Kd.R_below (by (with_reducible repeat apply Kd.R_alloc); exact HO_5.out) hb); have n1_ := Aside0.mk (Kd.R_below (by (with_reducible repeat apply Kd.R_alloc); exact HO_7.out) hb); have n2_ := Aside0.mk (Kd.R_below (by (with_reducible repeat apply Kd.R_alloc); exact HO411.out) hb); have n3_ := Aside0.mk (below_step pwg_ hb); clear HO_5; clear HO_7; clear HO411; clear HB; have HO_5 := n0_; have HO_7 := n1_; have HO411 := n2_; have HB := n3_; clear n0_ n1_ n2_ n3_; (try clear hb); (try clear hb2); (try clear hk); (try clear hi)))
         go_meet
         case rel => exact ⟨_, (true), pwa_, H', ⟨by have := HJ5.out; first | omega | exact Nat.le_refl _⟩, ⟨by (with_reducible repeat apply Kd.R_alloc); exact Kd.R_mono HO_7.out (fun _ hk => trivial)⟩, ⟨pwg_⟩⟩
       case rest =>
        clear HC25
        try clear c1
        try clear c2
        try clear p2
        try clear c3
        try clear c3b0
        try clear c3b1
        try clear c6
        try clear c10
        try clear c16
        try clear c17
        try clear c20
        try clear c20b0
        try clear c23
        try clear c23b0
        try clear c23b1
        try clear c25
        try clear c29
        try clear c30
        try clear p2
        obtain ⟨kq, x62_24, rfl, HA, HJ24, HO_7, HB⟩ := hcut
        have hl7_24 := (Kd.R_reads' HO_7.out).1
        rw [hl7_24] at HO_7
        (try simp only [hl7_24])
        cases kq with
        | zero => exact absurd HA.out (by simp [laws_FnExactReadTerm.j1])
        | succ kj24 =>
         have H := HA.out
         clear HA
         simp only [laws_FnExactReadTerm.j1] at H
         by_cases c37 : x62_24 = true
         ·subst c37
          have H1 : (some false) = some r := by rw [if_pos rfl] at H; exact H
          clear H
          have H := H1
          clear H1
          obtain rfl := Option.some.inj H
          go_wp2
          go_ret
          exact ⟨by first | rfl | (simp [errW_none, errW_some] <;> rfl) | (simp [*, errW_none, errW_some] <;> rfl), pwg_⟩
         ·replace c37 := Bool.eq_false_iff.mpr c37
          subst c37
          have H1 : ((laws_heldMarkS.f kj24 t406 1).bind fun t413 => (if t413 < 0 then (some false) else (if t413 = t405 then (some true) else (some false)))) = some r := by rw [if_neg (show ¬ (false = true) by decide)] at H; exact H
          clear H
          have H := H1
          clear H1
          replace H := Option.bind_eq_some_iff.mp H
          obtain ⟨t413, A380, H⟩ := H
          replace H : (if t413 < 0 then (some false) else (if t413 = t405 then (some true) else (some false))) = some r := H
          have A38 := Aside0.mk A380
          clear A380
          by_cases c39 : t413 < 0
          ·rw [if_pos c39] at H
           have c39b0 : decide (t413 < 0) = true := decide_eq_true c39
           clear c39
           obtain rfl := Option.some.inj H
           go_wp2_with (first | ((with_reducible refine gate_callee (f := 30) rfl ?_); refine goesL_ (some 65) rfl rfl Try.func30 (by kernel_rfl) rfl #[.slice Ao26 t406.length co26, .int .i64 1] rfl pwh_ ?_; (with_reducible refine (laws_heldMarkS.calls kj24 _ _ t406 1 t413 _ ?side1 ?side2 A38.out).mono ?_); (case side1 => repeat (first | exact (Kd.R_reads' HO_7.out).2.2 | (with_reducible refine Kd.C_alloc ?_ _) | (with_reducible refine Kd.C_drewN ?_ _) | (with_reducible refine Kd.C_drew ?_))); (case side2 => exact (Kd.R_reads' HO_7.out).2.1); rintro e w' ⟨rfl, ⟨nd, rfl⟩⟩; refine ⟨_, rfl, ?_⟩))
           go_ret
           exact ⟨by first | rfl | (simp [errW_none, errW_some] <;> rfl) | (simp [*, errW_none, errW_some] <;> rfl), pwg_⟩
          ·rw [if_neg c39] at H
           have c39b0 : decide (t413 < 0) = false := decide_eq_false c39
           clear c39
           by_cases c40 : t413 = t405
           ·rw [if_pos c40] at H
            have c40b0 : (t413 == t405) = true := beq_iff_eq.mpr c40
            have c40b1 : (t413 != t405) = false := bne_eq_false_iff_eq.mpr c40
            clear c40
            obtain rfl := Option.some.inj H
            go_wp2_with (first | ((with_reducible refine gate_callee (f := 30) rfl ?_); refine goesL_ (some 65) rfl rfl Try.func30 (by kernel_rfl) rfl #[.slice Ao26 t406.length co26, .int .i64 1] rfl pwh_ ?_; (with_reducible refine (laws_heldMarkS.calls kj24 _ _ t406 1 t413 _ ?side1 ?side2 A38.out).mono ?_); (case side1 => repeat (first | exact (Kd.R_reads' HO_7.out).2.2 | (with_reducible refine Kd.C_alloc ?_ _) | (with_reducible refine Kd.C_drewN ?_ _) | (with_reducible refine Kd.C_drew ?_))); (case side2 => exact (Kd.R_reads' HO_7.out).2.1); rintro e w' ⟨rfl, ⟨nd, rfl⟩⟩; refine ⟨_, rfl, ?_⟩))
            go_ret
            exact ⟨by first | rfl | (simp [errW_none, errW_some] <;> rfl) | (simp [*, errW_none, errW_some] <;> rfl), pwg_⟩
           ·rw [if_neg c40] at H
            have c40b0 : (t413 == t405) = false := beq_eq_false_iff_ne.mpr c40
            have c40b1 : (t413 != t405) = true := bne_iff_ne.mpr c40
            obtain rfl := Option.some.inj H
            go_wp2_with (first | ((with_reducible refine gate_callee (f := 30) rfl ?_); refine goesL_ (some 65) rfl rfl Try.func30 (by kernel_rfl) rfl #[.slice Ao26 t406.length co26, .int .i64 1] rfl pwh_ ?_; (with_reducible refine (laws_heldMarkS.calls kj24 _ _ t406 1 t413 _ ?side1 ?side2 A38.out).mono ?_); (case side1 => repeat (first | exact (Kd.R_reads' HO_7.out).2.2 | (with_reducible refine Kd.C_alloc ?_ _) | (with_reducible refine Kd.C_drewN ?_ _) | (with_reducible refine Kd.C_drew ?_))); (case side2 => exact (Kd.R_reads' HO_7.out).2.1); rintro e w' ⟨rfl, ⟨nd, rfl⟩⟩; refine ⟨_, rfl, ?_⟩))
            go_ret
            exact ⟨by first | rfl | (simp [errW_none, errW_some] <;> rfl) | (simp [*, errW_none, errW_some] <;> rfl), pwg_⟩
      ·rw [if_neg c23] at H
       have c23b0 : (t407 == t405) = false := beq_eq_false_iff_ne.mpr c23
       have c23b1 : (t407 != t405) = true := bne_iff_ne.mpr c23
       obtain rfl := Option.some.inj H
       obtain ⟨Ao41, co41, eo41⟩ := Kd.R_slice HO_7.out
       subst eo41
       go_wp2_with (first | ((with_reducible refine gate_callee (f := 29) rfl ?_); refine goesL_ (some 39) rfl rfl Try.func29 (by kernel_rfl) rfl #[.slice Ao41 t400.length co41, .int .i64 1] rfl pwh_ ?_; (with_reducible refine (laws_markMarkS.calls kj5 (fun k_ => some k_ = (.slice Ao41 t400.length co41 : Value).ownBlock) (.slice Ao41 t400.length co41) t400 1 t405 t406 w _ ?side1 ?side2 A18.out).mono ?_); (case side1 => repeat (first | (with_reducible first | exact HB.out | apply below_alloc | apply pw_below_drewN | apply below_drew1) | exact HB.out)); (case side2 => exact Kd.R_tight rfl HO_7.out); rintro e w42 ⟨rfl, hy0, hb, hkp⟩; refine ⟨_, rfl, ?_⟩; have n0_ := Aside0.mk (Kd.R_mono (ok' := fun k_ => some k_ ≠ (.slice Ao41 t400.length co41 : Value).ownBlock) (Kd.R_keptB (HO_5.out) hkp (fun k_ hk_ hs_ => (hk_) hs_)) (fun k_ hk_ => hk_.1)); have n1_ := Aside0.mk (Kd.R_reok rfl hy0 (fun k_ e_ => HO_7.out.1 k_ e_)); have n2_ := Aside0.mk (hb); clear HO_5; clear HO_7; clear HB; have HO_5 := n0_; have HO_7 := n1_; have HB := n2_; clear n0_ n1_ n2_; (try clear hb); (try clear hkp); (try clear hy0)) | ((with_reducible refine gate_callee (f := 30) rfl ?_); refine goesL_ (some 42) rfl rfl Try.func30 (by kernel_rfl) rfl #[.slice Ao41 t406.length co41, .int .i64 1] rfl pwj_ ?_; (with_reducible refine (laws_heldMarkS.calls kj5 _ _ t406 1 t407 _ ?side1 ?side2 A19.out).mono ?_); (case side1 => repeat (first | exact (Kd.R_reads' HO_7.out).2.2 | (with_reducible refine Kd.C_alloc ?_ _) | (with_reducible refine Kd.C_drewN ?_ _) | (with_reducible refine Kd.C_drew ?_))); (case side2 => rw [show t406.length = t400.length from (Kd.R_reads' HO_7.out).1.symm]; exact (Kd.R_reads' HO_7.out).2.1); rintro e w' ⟨rfl, ⟨nd, rfl⟩⟩; refine ⟨_, rfl, ?_⟩))
       go_ret
       exact ⟨by first | rfl | (simp [errW_none, errW_some] <;> rfl) | (simp [*, errW_none, errW_some] <;> rfl), pwg_⟩

/-- THE ONE PURE STATEMENT of laws_FnExactReadTerm: yours. -/
def laws_FnExactReadTerm.Pure : Prop := ∀ (a0 : Int) (a1 : ByteArray), (Lit.int .i64 a0).wf = true → a1.size ≤ 140737488351232 → ∃ k, laws_FnExactReadTerm.f k a0 a1 = some true
theorem laws_FnExactReadTerm.walk (P : laws_FnExactReadTerm.Pure) (a0 : Int) (a1 : ByteArray) (w : World) (w0 : (Lit.int .i64 a0).wf = true) (w1 : a1.size ≤ 140737488351232) :
  Calls Try.prog 6 #[.int .i64 a0, .string a1] w fun e w' => e = .returned (.bool true) ∧ Below w.heap.size w w' := by
 obtain ⟨k, h⟩ := P a0 a1 w0 w1
 refine (laws_FnExactReadTerm.calls k a0 a1 true w h).mono ?_
 rintro e w' ⟨rfl, hd⟩
 exact ⟨rfl, hd⟩

end Go.Proofs.Ytfhmafmfaoknlaa.PFnExactReadTerm
