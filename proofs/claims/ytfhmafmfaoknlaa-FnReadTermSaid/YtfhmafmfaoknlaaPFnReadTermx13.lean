-- Made by a program of this session (wip/tools/patchprint.py), not by the kit itself.
import Derived.Test.YtfhmafmfaoknlaaPFnReadTermx0
import Derived.Test.YtfhmafmfaoknlaaPFnReadTermx1
import Derived.Test.YtfhmafmfaoknlaaPFnReadTermx2
import Derived.Test.YtfhmafmfaoknlaaPFnReadTermx4
import Derived.Test.YtfhmafmfaoknlaaPFnReadTermx7
import Derived.Test.YtfhmafmfaoknlaaPFnReadTermx8
import Derived.Test.YtfhmafmfaoknlaaPFnReadTermx9
import Derived.Test.YtfhmafmfaoknlaaPFnReadTermx11
import Derived.Test.YtfhmafmfaoknlaaPFnReadTermx12
namespace Go.Proofs.Ytfhmafmfaoknlaa.PFnReadTerm
open Go.RowKit Go.Proofs.YtfhmafmfaoknlaaW.PrintWords Go.Proofs.YtfhmafmfaoknlaaW.PrintLast Go.Proofs.YtfhmafmfaoknlaaW.PrintMore
attribute [local go_sem] max2_int min2_int max_two min_two max_three min_three max_four min_four   -- for this text's walks alone
set_option linter.unusedVariables false
set_option linter.unusedSimpArgs false

attribute [local go_sem] setCell_isSome
attribute [local go_sem high] eqA62
/-! ### spec_ReadTerm: function 17 -/
def spec_ReadTerm.f (k : Nat) (a0 : Int) (a1 : ByteArray) : Option ((List (S62)) × Bool) := if (a1.size : Int) > 60 then (some ((([] : List (S62))), false)) else ((spec_l2Level.f k a1 0 5).bind fun bt533 => (if bt533.2 = (a1.size : Int) then ((spec_TermOk.f k a0 bt533.1).bind fun t537 => (if t537 = true then ((spec_l2Text.f k bt533.1).bind fun t538 => (if t538.toList = a1.toList then (some (bt533.1, true)) else (some ((([] : List (S62))), false)))) else (some ((([] : List (S62))), false)))) else (some ((([] : List (S62))), false))))
theorem spec_ReadTerm.mono : ∀ a0 a1 k, LeO (spec_ReadTerm.f k a0 a1) (spec_ReadTerm.f (k + 1) a0 a1) := by
 intro a0 a1 k
 unfold spec_ReadTerm.f
 repeat' first
   | (with_reducible exact spec_TermOk.mono _ _ _)
   | (with_reducible exact spec_l2Level.mono _ _ _ _)
   | (with_reducible exact spec_l2Text.mono _ _)
   | (with_reducible exact LeO.refl _)
   | (with_reducible exact LeO.none _)
   | (with_reducible refine LeO.ite ?_ ?_)
   | (with_reducible refine LeO.bind ?_ (fun _ => ?_))
   | exact spec_TermOk.mono _ _ _
   | exact spec_l2Level.mono _ _ _ _
   | exact spec_l2Text.mono _ _
   | exact LeO.none _
   | refine LeO.ite ?_ ?_
   | refine LeO.bind ?_ (fun _ => ?_)
set_option maxHeartbeats 8000000 in
set_option maxRecDepth 100000 in
theorem spec_ReadTerm.calls (k : Nat) (a0 : Int) (a1 : ByteArray) (r1 : List (S62)) (r2 : Bool) (w : World) (h : spec_ReadTerm.f k a0 a1 = some (r1, r2)) :
  Calls Try.prog 17 #[.int .i64 a0, .string a1] w fun e w' => ∃ v0_ : Value, e = .returned (.tuple #[v0_, .bool r2]) ∧ Kd.R k62 62 w' w.heap.size (fun _ => True) v0_ r1 ∧ Below w.heap.size w w' := by
 have HB := Aside0.mk (Below.refl w.heap.size w)
 have H : (if (a1.size : Int) > 60 then (some ((([] : List (S62))), false)) else ((spec_l2Level.f k a1 0 5).bind fun bt533 => (if bt533.2 = (a1.size : Int) then ((spec_TermOk.f k a0 bt533.1).bind fun t537 => (if t537 = true then ((spec_l2Text.f k bt533.1).bind fun t538 => (if t538.toList = a1.toList then (some (bt533.1, true)) else (some ((([] : List (S62))), false)))) else (some ((([] : List (S62))), false)))) else (some ((([] : List (S62))), false))))) = some (r1, r2) := h
 clear h
 by_cases c3 : (a1.size : Int) > 60
 ·rw [if_pos c3] at H
  have c3b0 : decide (60 < (a1.size : Int)) = true := decide_eq_true c3
  have c3b1 : decide (60 < a1.size) = true := decide_eq_true (by omega)
  clear c3
  obtain ⟨y530, hy530⟩ : ∃ y_ : List (S62), y_ = (([] : List (S62))) := ⟨_, rfl⟩
  replace H : (some (y530, false)) = some (r1, r2) := by first | (rw [hy530]; with_reducible exact H) | (have H2_ := (Option.bind_some _ _).symm.trans H; rw [hy530]; with_reducible exact H2_) | (have H2_ := (Option.bind_some _ _).symm.trans H; with_reducible exact H2_) | with_reducible exact H | (rw [hy530]; exact H) | exact H
  have Ny530 := Aside0.mk hy530
  clear hy530
  simp only [Option.some.injEq, Prod.mk.injEq] at H
  obtain ⟨rfl, rfl⟩ := H
  go_enter Try.func17, Try.ntmps17
  go_wp2_with (first | ((with_reducible refine gate_dst (N := 11) rfl ?_); refine Kd.R_lit k62 _ 62 ?hg (N := 11) ?hd (xs := ([] : List (S62))) (inner := []) (ok := fun _ => True) (okp := fun _ => True) ?hr ?hp (fun _ hk => hk) trivial (Below.refl _ _) (Nat.le_refl _) (by simp) ?_; (case hd => rfl); (case hg => rfl); (case hr => first | (go_simp; done) | (go_simp; rfl)); (case hp => exact (Reps.none _ _)); intro v531 w4 ho5 hb hg_ hnew_; clear hg_ hnew_; (first | rw [← Ny530.out] at ho5 | (simp only [Int.reduceToNat] at ho5; rw [← Ny530.out] at ho5)); have n0_ := Aside0.mk (Kd.R_lower ho5 (below_size pwi_)); have n1_ := Aside0.mk (below_step pwi_ hb); clear HB; have HO532 := n0_; have HB := n1_; clear n0_ n1_; clear hb ho5))
  go_ret2
  exact ⟨_, by first | rfl | (simp [errW_none, errW_some] <;> rfl) | (simp [*, errW_none, errW_some] <;> rfl), by (with_reducible repeat apply Kd.R_alloc); exact HO532.out, pwi_⟩
 ·rw [if_neg c3] at H
  have c3b0 : decide (60 < (a1.size : Int)) = false := decide_eq_false c3
  have c3b1 : decide (60 < a1.size) = false := decide_eq_false (by omega)
  clear c3
  replace H := Option.bind_eq_some_iff.mp H
  obtain ⟨⟨t533, t534⟩, A60, H⟩ := H
  replace H : (if t534 = (a1.size : Int) then ((spec_TermOk.f k a0 t533).bind fun t537 => (if t537 = true then ((spec_l2Text.f k t533).bind fun t538 => (if t538.toList = a1.toList then (some (t533, true)) else (some ((([] : List (S62))), false)))) else (some ((([] : List (S62))), false)))) else (some ((([] : List (S62))), false))) = some (r1, r2) := H
  have A6 := Aside0.mk A60
  clear A60
  by_cases c7 : t534 = (a1.size : Int)
  ·rw [if_pos c7] at H
   have c7b0 : (t534 == (a1.size : Int)) = true := beq_iff_eq.mpr c7
   have c7b1 : (t534 != (a1.size : Int)) = false := bne_eq_false_iff_eq.mpr c7
   clear c7
   replace H := Option.bind_eq_some_iff.mp H
   obtain ⟨t537, A80, H⟩ := H
   replace H : (if t537 = true then ((spec_l2Text.f k t533).bind fun t538 => (if t538.toList = a1.toList then (some (t533, true)) else (some ((([] : List (S62))), false)))) else (some ((([] : List (S62))), false))) = some (r1, r2) := H
   have A8 := Aside0.mk A80
   clear A80
   by_cases c9 : t537 = true
   ·subst c9
    have H1 : ((spec_l2Text.f k t533).bind fun t538 => (if t538.toList = a1.toList then (some (t533, true)) else (some ((([] : List (S62))), false)))) = some (r1, r2) := by rw [if_pos rfl] at H; exact H
    clear H
    have H := H1
    clear H1
    replace H := Option.bind_eq_some_iff.mp H
    obtain ⟨t538, A100, H⟩ := H
    replace H : (if t538.toList = a1.toList then (some (t533, true)) else (some ((([] : List (S62))), false))) = some (r1, r2) := H
    have A10 := Aside0.mk A100
    clear A100
    by_cases c11 : t538.toList = a1.toList
    ·rw [if_pos c11] at H
     have c11b0 : (t538.toList == a1.toList) = true := beq_iff_eq.mpr c11
     have c11b1 : (t538.toList != a1.toList) = false := bne_eq_false_iff_eq.mpr c11
     clear c11
     simp only [Option.some.injEq, Prod.mk.injEq] at H
     obtain ⟨rfl, rfl⟩ := H
     go_enter Try.func17, Try.ntmps17
     go_wp2_with (first | ((with_reducible refine gate_callee (f := 64) rfl ?_); refine goesL_ (some 14) rfl rfl Try.func64 (by kernel_rfl) rfl #[.string a1, .int .i64 0, .int .i64 5] rfl pwk_ ?_; (with_reducible refine (spec_l2Level.calls k a1 0 5 t533 t534 _ A6.out).mono ?_); rintro e w12 ⟨v535, rfl, ho0, hb⟩; refine ⟨_, rfl, ?_⟩; have n0_ := Aside0.mk (Kd.R_lower ho0 (below_size pwi_)); have n1_ := Aside0.mk (below_step pwi_ hb); clear HB; have HO536 := n0_; have HB := n1_; clear n0_ n1_; (try clear hb); (try clear hb2); (try clear hk); (try clear hi); (try clear ho0); obtain ⟨Ao13, co13, eo13⟩ := Kd.R_slice HO536.out; subst eo13) | (go_at_call 65; (with_reducible refine (spec_TermOk.calls k a0 _ _ t533 true _ ?side1 ?side2 A8.out).mono ?_); (case side1 => repeat (first | exact (Kd.R_reads' HO536.out).2.2 | (with_reducible refine Kd.C_alloc ?_ _) | (with_reducible refine Kd.C_drewN ?_ _) | (with_reducible refine Kd.C_drew ?_))); (case side2 => exact (Kd.R_reads' HO536.out).2.1); rintro e w' ⟨rfl, ⟨nd, rfl⟩⟩) | (go_at_call 66; (with_reducible refine (spec_l2Text.calls k _ _ t533 t538 _ ?side1 ?side2 A10.out).mono ?_); (case side1 => repeat (first | exact (Kd.R_reads' HO536.out).2.2 | (with_reducible refine Kd.C_alloc ?_ _) | (with_reducible refine Kd.C_drewN ?_ _) | (with_reducible refine Kd.C_drew ?_))); (case side2 => exact (Kd.R_reads' HO536.out).2.1); rintro e w14 ⟨rfl, hb⟩; have n0_ := Aside0.mk (Kd.R_below (by (with_reducible repeat apply Kd.R_alloc); exact HO536.out) hb); have n1_ := Aside0.mk (below_step pwi_ hb); clear HO536; clear HB; have HO536 := n0_; have HB := n1_; clear n0_ n1_; (try clear hb); (try clear hb2); (try clear hk); (try clear hi)))
     go_ret2
     exact ⟨_, by first | rfl | (simp [errW_none, errW_some] <;> rfl) | (simp [*, errW_none, errW_some] <;> rfl), by (with_reducible repeat apply Kd.R_alloc); exact HO536.out, pwi_⟩
    ·rw [if_neg c11] at H
     have c11b0 : (t538.toList == a1.toList) = false := beq_eq_false_iff_ne.mpr c11
     have c11b1 : (t538.toList != a1.toList) = true := bne_iff_ne.mpr c11
     obtain ⟨y539, hy539⟩ : ∃ y_ : List (S62), y_ = (([] : List (S62))) := ⟨_, rfl⟩
     replace H : (some (y539, false)) = some (r1, r2) := by first | (rw [hy539]; with_reducible exact H) | (have H2_ := (Option.bind_some _ _).symm.trans H; rw [hy539]; with_reducible exact H2_) | (have H2_ := (Option.bind_some _ _).symm.trans H; with_reducible exact H2_) | with_reducible exact H | (rw [hy539]; exact H) | exact H
     have Ny539 := Aside0.mk hy539
     clear hy539
     simp only [Option.some.injEq, Prod.mk.injEq] at H
     obtain ⟨rfl, rfl⟩ := H
     go_enter Try.func17, Try.ntmps17
     go_wp2_with (first | ((with_reducible refine gate_callee (f := 64) rfl ?_); refine goesL_ (some 14) rfl rfl Try.func64 (by kernel_rfl) rfl #[.string a1, .int .i64 0, .int .i64 5] rfl pwk_ ?_; (with_reducible refine (spec_l2Level.calls k a1 0 5 t533 t534 _ A6.out).mono ?_); rintro e w15 ⟨v535, rfl, ho0, hb⟩; refine ⟨_, rfl, ?_⟩; have n0_ := Aside0.mk (Kd.R_lower ho0 (below_size pwi_)); have n1_ := Aside0.mk (below_step pwi_ hb); clear HB; have HO536 := n0_; have HB := n1_; clear n0_ n1_; (try clear hb); (try clear hb2); (try clear hk); (try clear hi); (try clear ho0); obtain ⟨Ao16, co16, eo16⟩ := Kd.R_slice HO536.out; subst eo16) | (go_at_call 65; (with_reducible refine (spec_TermOk.calls k a0 _ _ t533 true _ ?side1 ?side2 A8.out).mono ?_); (case side1 => repeat (first | exact (Kd.R_reads' HO536.out).2.2 | (with_reducible refine Kd.C_alloc ?_ _) | (with_reducible refine Kd.C_drewN ?_ _) | (with_reducible refine Kd.C_drew ?_))); (case side2 => exact (Kd.R_reads' HO536.out).2.1); rintro e w' ⟨rfl, ⟨nd, rfl⟩⟩) | (go_at_call 66; (with_reducible refine (spec_l2Text.calls k _ _ t533 t538 _ ?side1 ?side2 A10.out).mono ?_); (case side1 => repeat (first | exact (Kd.R_reads' HO536.out).2.2 | (with_reducible refine Kd.C_alloc ?_ _) | (with_reducible refine Kd.C_drewN ?_ _) | (with_reducible refine Kd.C_drew ?_))); (case side2 => exact (Kd.R_reads' HO536.out).2.1); rintro e w17 ⟨rfl, hb⟩; have n0_ := Aside0.mk (Kd.R_below (by (with_reducible repeat apply Kd.R_alloc); exact HO536.out) hb); have n1_ := Aside0.mk (below_step pwi_ hb); clear HO536; clear HB; have HO536 := n0_; have HB := n1_; clear n0_ n1_; (try clear hb); (try clear hb2); (try clear hk); (try clear hi)) | ((with_reducible refine gate_dst (N := 33) rfl ?_); refine Kd.R_lit k62 _ 62 ?hg (N := 33) ?hd (xs := ([] : List (S62))) (inner := []) (ok := fun _ => True) (okp := fun _ => True) ?hr ?hp (fun _ hk => hk) trivial (Below.refl _ _) (Nat.le_refl _) (by simp) ?_; (case hd => rfl); (case hg => rfl); (case hr => first | (go_simp; done) | (go_simp; rfl)); (case hp => exact (Reps.none _ _)); intro v540 w18 ho19 hb hg_ hnew_; clear hg_ hnew_; (first | rw [← Ny539.out] at ho19 | (simp only [Int.reduceToNat] at ho19; rw [← Ny539.out] at ho19)); have n0_ := Aside0.mk (Kd.R_elder' (by (with_reducible repeat apply Kd.R_alloc); exact HO536.out) (Kd.R_base ho19) hb); have n1_ := Aside0.mk (Kd.R_lower (Kd.R_new' ho19 (Kd.R_lt (by (with_reducible repeat apply Kd.R_alloc); exact HO536.out))) (below_size pwi_)); have n2_ := Aside0.mk (below_step pwi_ hb); clear HO536; clear HB; have HO536 := n0_; have HO541 := n1_; have HB := n2_; clear n0_ n1_ n2_; clear hb ho19))
     go_ret2
     exact ⟨_, by first | rfl | (simp [errW_none, errW_some] <;> rfl) | (simp [*, errW_none, errW_some] <;> rfl), by (with_reducible repeat apply Kd.R_alloc); exact Kd.R_mono HO541.out (fun _ hk => trivial), pwi_⟩
   ·replace c9 := Bool.eq_false_iff.mpr c9
    subst c9
    have H1 : (some ((([] : List (S62))), false)) = some (r1, r2) := by rw [if_neg (show ¬ (false = true) by decide)] at H; exact H
    clear H
    have H := H1
    clear H1
    obtain ⟨y542, hy542⟩ : ∃ y_ : List (S62), y_ = (([] : List (S62))) := ⟨_, rfl⟩
    replace H : (some (y542, false)) = some (r1, r2) := by first | (rw [hy542]; with_reducible exact H) | (have H2_ := (Option.bind_some _ _).symm.trans H; rw [hy542]; with_reducible exact H2_) | (have H2_ := (Option.bind_some _ _).symm.trans H; with_reducible exact H2_) | with_reducible exact H | (rw [hy542]; exact H) | exact H
    have Ny542 := Aside0.mk hy542
    clear hy542
    simp only [Option.some.injEq, Prod.mk.injEq] at H
    obtain ⟨rfl, rfl⟩ := H
    go_enter Try.func17, Try.ntmps17
    go_wp2_with (first | ((with_reducible refine gate_callee (f := 64) rfl ?_); refine goesL_ (some 14) rfl rfl Try.func64 (by kernel_rfl) rfl #[.string a1, .int .i64 0, .int .i64 5] rfl pwk_ ?_; (with_reducible refine (spec_l2Level.calls k a1 0 5 t533 t534 _ A6.out).mono ?_); rintro e w20 ⟨v535, rfl, ho0, hb⟩; refine ⟨_, rfl, ?_⟩; have n0_ := Aside0.mk (Kd.R_lower ho0 (below_size pwi_)); have n1_ := Aside0.mk (below_step pwi_ hb); clear HB; have HO536 := n0_; have HB := n1_; clear n0_ n1_; (try clear hb); (try clear hb2); (try clear hk); (try clear hi); (try clear ho0); obtain ⟨Ao21, co21, eo21⟩ := Kd.R_slice HO536.out; subst eo21) | (go_at_call 65; (with_reducible refine (spec_TermOk.calls k a0 _ _ t533 false _ ?side1 ?side2 A8.out).mono ?_); (case side1 => repeat (first | exact (Kd.R_reads' HO536.out).2.2 | (with_reducible refine Kd.C_alloc ?_ _) | (with_reducible refine Kd.C_drewN ?_ _) | (with_reducible refine Kd.C_drew ?_))); (case side2 => exact (Kd.R_reads' HO536.out).2.1); rintro e w' ⟨rfl, ⟨nd, rfl⟩⟩) | ((with_reducible refine gate_dst (N := 33) rfl ?_); refine Kd.R_lit k62 _ 62 ?hg (N := 33) ?hd (xs := ([] : List (S62))) (inner := []) (ok := fun _ => True) (okp := fun _ => True) ?hr ?hp (fun _ hk => hk) trivial (Below.refl _ _) (Nat.le_refl _) (by simp) ?_; (case hd => rfl); (case hg => rfl); (case hr => first | (go_simp; done) | (go_simp; rfl)); (case hp => exact (Reps.none _ _)); intro v543 w22 ho23 hb hg_ hnew_; clear hg_ hnew_; (first | rw [← Ny542.out] at ho23 | (simp only [Int.reduceToNat] at ho23; rw [← Ny542.out] at ho23)); have n0_ := Aside0.mk (Kd.R_elder' (by (with_reducible repeat apply Kd.R_alloc); exact HO536.out) (Kd.R_base ho23) hb); have n1_ := Aside0.mk (Kd.R_lower (Kd.R_new' ho23 (Kd.R_lt (by (with_reducible repeat apply Kd.R_alloc); exact HO536.out))) (below_size pwi_)); have n2_ := Aside0.mk (below_step pwi_ hb); clear HO536; clear HB; have HO536 := n0_; have HO544 := n1_; have HB := n2_; clear n0_ n1_ n2_; clear hb ho23))
    go_ret2
    exact ⟨_, by first | rfl | (simp [errW_none, errW_some] <;> rfl) | (simp [*, errW_none, errW_some] <;> rfl), by (with_reducible repeat apply Kd.R_alloc); exact Kd.R_mono HO544.out (fun _ hk => trivial), pwi_⟩
  ·rw [if_neg c7] at H
   have c7b0 : (t534 == (a1.size : Int)) = false := beq_eq_false_iff_ne.mpr c7
   have c7b1 : (t534 != (a1.size : Int)) = true := bne_iff_ne.mpr c7
   obtain ⟨y545, hy545⟩ : ∃ y_ : List (S62), y_ = (([] : List (S62))) := ⟨_, rfl⟩
   replace H : (some (y545, false)) = some (r1, r2) := by first | (rw [hy545]; with_reducible exact H) | (have H2_ := (Option.bind_some _ _).symm.trans H; rw [hy545]; with_reducible exact H2_) | (have H2_ := (Option.bind_some _ _).symm.trans H; with_reducible exact H2_) | with_reducible exact H | (rw [hy545]; exact H) | exact H
   have Ny545 := Aside0.mk hy545
   clear hy545
   simp only [Option.some.injEq, Prod.mk.injEq] at H
   obtain ⟨rfl, rfl⟩ := H
   go_enter Try.func17, Try.ntmps17
   go_wp2_with (first | ((with_reducible refine gate_callee (f := 64) rfl ?_); refine goesL_ (some 14) rfl rfl Try.func64 (by kernel_rfl) rfl #[.string a1, .int .i64 0, .int .i64 5] rfl pwk_ ?_; (with_reducible refine (spec_l2Level.calls k a1 0 5 t533 t534 _ A6.out).mono ?_); rintro e w24 ⟨v535, rfl, ho0, hb⟩; refine ⟨_, rfl, ?_⟩; have n0_ := Aside0.mk (Kd.R_lower ho0 (below_size pwi_)); have n1_ := Aside0.mk (below_step pwi_ hb); clear HB; have HO536 := n0_; have HB := n1_; clear n0_ n1_; (try clear hb); (try clear hb2); (try clear hk); (try clear hi); (try clear ho0)) | ((with_reducible refine gate_dst (N := 33) rfl ?_); refine Kd.R_lit k62 _ 62 ?hg (N := 33) ?hd (xs := ([] : List (S62))) (inner := []) (ok := fun _ => True) (okp := fun _ => True) ?hr ?hp (fun _ hk => hk) trivial (Below.refl _ _) (Nat.le_refl _) (by simp) ?_; (case hd => rfl); (case hg => rfl); (case hr => first | (go_simp; done) | (go_simp; rfl)); (case hp => exact (Reps.none _ _)); intro v546 w25 ho26 hb hg_ hnew_; clear hg_ hnew_; (first | rw [← Ny545.out] at ho26 | (simp only [Int.reduceToNat] at ho26; rw [← Ny545.out] at ho26)); have n0_ := Aside0.mk (Kd.R_elder' (by (with_reducible repeat apply Kd.R_alloc); exact HO536.out) (Kd.R_base ho26) hb); have n1_ := Aside0.mk (Kd.R_lower (Kd.R_new' ho26 (Kd.R_lt (by (with_reducible repeat apply Kd.R_alloc); exact HO536.out))) (below_size pwi_)); have n2_ := Aside0.mk (below_step pwi_ hb); clear HO536; clear HB; have HO536 := n0_; have HO547 := n1_; have HB := n2_; clear n0_ n1_ n2_; clear hb ho26))
   go_ret2
   exact ⟨_, by first | rfl | (simp [errW_none, errW_some] <;> rfl) | (simp [*, errW_none, errW_some] <;> rfl), by (with_reducible repeat apply Kd.R_alloc); exact Kd.R_mono HO547.out (fun _ hk => trivial), pwi_⟩

/-! ### laws_sameMarks: function 18 -/
def laws_sameMarks.l0 : Nat → List (S62) → List (S62) → Int → Option (Bool)
 | 0, _, _, _ => none
 | k + 1, x0, x1, x5 => if x5 < (x0.length : Int) then (if 0 ≤ x5 then (if x5 < (x1.length : Int) then (if (!(((rd_T62 x0 x5).f0) == ((rd_T62 x1 x5).f0)) || (!(((rd_T62 x0 x5).f1) == ((rd_T62 x1 x5).f1)))) = true then (some false) else (laws_sameMarks.l0 k x0 x1 (wrap64 (x5 + 1)))) else (none)) else (none)) else (some true)
def laws_sameMarks.f (k : Nat) (l0 : List (S62)) (l1 : List (S62)) : Option (Bool) := if (l0.length : Int) = (l1.length : Int) then (laws_sameMarks.l0 k l0 l1 0) else (some false)
theorem laws_sameMarks.mono_l : ∀ k, (∀ y0 y1 y2, LeO (laws_sameMarks.l0 k y0 y1 y2) (laws_sameMarks.l0 (k + 1) y0 y1 y2))
 | 0 => fun _ _ _ r h => by simp [laws_sameMarks.l0] at h
 | k + 1 => by
  have ih0 := laws_sameMarks.mono_l k
  ·intro y0 y1 y2
   unfold laws_sameMarks.l0
   repeat' first
   | (with_reducible exact ih0 _ _ _)
   | (with_reducible exact LeO.refl _)
   | (with_reducible exact LeO.none _)
   | (with_reducible refine LeO.ite ?_ ?_)
   | (with_reducible refine LeO.bind ?_ (fun _ => ?_))
   | exact ih0 _ _ _
   | exact LeO.none _
   | refine LeO.ite ?_ ?_
   | refine LeO.bind ?_ (fun _ => ?_)
theorem laws_sameMarks.mono : ∀ a0 a1 k, LeO (laws_sameMarks.f k a0 a1) (laws_sameMarks.f (k + 1) a0 a1) := by
 intro a0 a1 k
 have ih0 := laws_sameMarks.mono_l k
 unfold laws_sameMarks.f
 repeat' first
   | (with_reducible exact ih0 _ _ _)
   | (with_reducible exact LeO.refl _)
   | (with_reducible exact LeO.none _)
   | (with_reducible refine LeO.ite ?_ ?_)
   | (with_reducible refine LeO.bind ?_ (fun _ => ?_))
   | exact ih0 _ _ _
   | exact LeO.none _
   | refine LeO.ite ?_ ?_
   | refine LeO.bind ?_ (fun _ => ?_)
set_option maxHeartbeats 8000000 in
set_option maxRecDepth 100000 in
theorem laws_sameMarks.calls (k : Nat) (A0 : Option Addr) (c0 : Nat) (l0 : List (S62)) (A1 : Option Addr) (c1 : Nat) (l1 : List (S62)) (r : Bool) (w : World) (hr0 : Kd.C k62 w A0 l0.length l0) (hc0 : l0.length ≤ c0) (hr1 : Kd.C k62 w A1 l1.length l1) (hc1 : l1.length ≤ c1) (h : laws_sameMarks.f k l0 l1 = some r) :
  Calls Try.prog 18 #[.slice A0 l0.length c0, .slice A1 l1.length c1] w fun e w' => e = .returned (.bool r) ∧ Drawn0 w w' := by
 have hu62 := Try.underlying62
 have HR0 := Aside0.mk hr0
 have HC0 := Aside0.mk hc0
 clear hr0 hc0
 have HR1 := Aside0.mk hr1
 have HC1 := Aside0.mk hc1
 clear hr1 hc1
 have H : (if (l0.length : Int) = (l1.length : Int) then (laws_sameMarks.l0 k l0 l1 0) else (some false)) = some r := h
 clear h
 by_cases c3 : (l0.length : Int) = (l1.length : Int)
 ·rw [if_pos c3] at H
  have c3b0 : ((l0.length : Int) == (l1.length : Int)) = true := beq_iff_eq.mpr c3
  have c3b1 : ((l0.length : Int) != (l1.length : Int)) = false := bne_eq_false_iff_eq.mpr c3
  have c3b2 : (l0.length == l1.length) = true := by first | simpa using c3 | (simp at c3 ⊢; omega)
  clear c3
  have H' := Aside0.mk H
  clear H
  go_enter Try.func18, Try.ntmps18
  go_wp2
  repeat (go_quiet (fail); try go_wp2)
  go_loopg [5] k (fun kq v5 w' => ∃ (x5_1 : Int), v5 = .int .i64 x5_1 ∧ Aside0 (laws_sameMarks.l0 kq l0 l1 x5_1 = some r) ∧ Aside0 (kq ≤ k) ∧ Drawn0 w w')
  case atStart => exact ⟨(0), pwa_, H', ⟨Nat.le_refl _⟩, by repeat (first | exact Drawn0.refl _ | apply Drawn0.step)⟩
  case round =>
   clear H'
   try clear c1
   try clear p2
   try clear c3
   try clear c3b0
   try clear c3b1
   try clear c3b2
   obtain ⟨x5_1, rfl, HA, HK1, ⟨m1, rfl⟩⟩ := hrel
   cases gk with
   | zero => exact absurd HA.out (by simp [laws_sameMarks.l0])
   | succ k1 =>
    have H := HA.out
    clear HA
    simp only [laws_sameMarks.l0] at H
    by_cases c4 : x5_1 < (l0.length : Int)
    ·rw [if_pos c4] at H
     have c4b0 : decide (x5_1 < (l0.length : Int)) = true := decide_eq_true c4
     clear c4
     by_cases c5 : 0 ≤ x5_1
     ·rw [if_pos c5] at H
      have c5b0 : decide (0 ≤ x5_1) = true := decide_eq_true c5
      clear c5
      by_cases c6 : x5_1 < (l1.length : Int)
      ·rw [if_pos c6] at H
       have c6b0 : decide (x5_1 < (l1.length : Int)) = true := decide_eq_true c6
       clear c6
       by_cases c7 : (!(((rd_T62 l0 x5_1).f0) == ((rd_T62 l1 x5_1).f0)) || (!(((rd_T62 l0 x5_1).f1) == ((rd_T62 l1 x5_1).f1)))) = true
       ·rw [if_pos c7] at H
        have c7b0 : (!(((rd_T62 l0 x5_1).f0) == ((rd_T62 l1 x5_1).f0)) || (!(((rd_T62 l0 x5_1).f1) == ((rd_T62 l1 x5_1).f1)))) = true := c7
        clear c7
        obtain rfl := Option.some.inj H
        have p548 : 0 ≤ (x5_1 : Int) := of_decide_eq_true pwb_
        have q548 : x5_1 < (l0.length : Int) := of_decide_eq_true pwb_
        obtain ⟨ad548, e548, hx548_0, hx548_1⟩ := at_T62 HR0.out x5_1 p548 q548
        cases e548
        replace p548 := eq_true p548
        replace q548 := eq_true q548
        have p549 : 0 ≤ (x5_1 : Int) := of_decide_eq_true pwb_
        have q549 : x5_1 < (l1.length : Int) := of_decide_eq_true pwb_
        obtain ⟨ad549, e549, hx549_0, hx549_1⟩ := at_T62 HR1.out x5_1 p549 q549
        cases e549
        replace p549 := eq_true p549
        replace q549 := eq_true q549
        go_wp2
        repeat (go_quiet (fail); try go_wp2)
        go_ret
        exact ⟨pwa_, by repeat (first | exact Drawn0.refl _ | apply Drawn0.step)⟩
       ·rw [if_neg c7] at H
        have c7b0 : (!(((rd_T62 l0 x5_1).f0) == ((rd_T62 l1 x5_1).f0)) || (!(((rd_T62 l0 x5_1).f1) == ((rd_T62 l1 x5_1).f1)))) = false := by simpa using c7
        clear c7
        have H' := Aside0.mk H
        clear H
        have p548 : 0 ≤ (x5_1 : Int) := of_decide_eq_true pwb_
        have q548 : x5_1 < (l0.length : Int) := of_decide_eq_true pwb_
        obtain ⟨ad548, e548, hx548_0, hx548_1⟩ := at_T62 HR0.out x5_1 p548 q548
        cases e548
        replace p548 := eq_true p548
        replace q548 := eq_true q548
        have p549 : 0 ≤ (x5_1 : Int) := of_decide_eq_true pwb_
        have q549 : x5_1 < (l1.length : Int) := of_decide_eq_true pwb_
        obtain ⟨ad549, e549, hx549_0, hx549_1⟩ := at_T62 HR1.out x5_1 p549 q549
        cases e549
        replace p549 := eq_true p549
        replace q549 := eq_true q549
        go_wp2
        repeat (go_quiet (fail); try go_wp2)
        go_roundg k1
        case measure => have := HK1.out; omega
        case rel => exact ⟨(wrap64 (x5_1 + 1)), pwa_, H', ⟨by have := HK1.out; omega⟩, by repeat (first | exact Drawn0.refl _ | apply Drawn0.step)⟩
      ·rw [if_neg c6] at H
       exact absurd H (by simp)
     ·rw [if_neg c5] at H
      exact absurd H (by simp)
    ·rw [if_neg c4] at H
     have c4b0 : decide (x5_1 < (l0.length : Int)) = false := decide_eq_false c4
     clear c4
     obtain rfl := Option.some.inj H
     go_wp2
     repeat (go_quiet (fail); try go_wp2)
     go_ret
     exact ⟨pwa_, by repeat (first | exact Drawn0.refl _ | apply Drawn0.step)⟩
 ·rw [if_neg c3] at H
  have c3b0 : ((l0.length : Int) == (l1.length : Int)) = false := beq_eq_false_iff_ne.mpr c3
  have c3b1 : ((l0.length : Int) != (l1.length : Int)) = true := bne_iff_ne.mpr c3
  have c3b2 : (l0.length == l1.length) = false := by first | simpa using c3 | (simp at c3 ⊢; omega)
  obtain rfl := Option.some.inj H
  go_enter Try.func18, Try.ntmps18
  go_wp2
  repeat (go_quiet (fail); try go_wp2)
  go_ret
  exact ⟨pwa_, by repeat (first | exact Drawn0.refl _ | apply Drawn0.step)⟩

/-! ### impl_WorldOk: function 67 -/
def impl_WorldOk.f (a0 : Int) (a1 : Int) : Option (Bool) := (impl_peopleOk.f a0).bind fun t550 => (if t550 = true then (if a1 ≥ 0 then (if 0 ≤ a0 then (some (decide (a1 < (shl .i64 1 a0)))) else (none)) else (some false)) else (some false))
set_option maxHeartbeats 8000000 in
set_option maxRecDepth 100000 in
theorem impl_WorldOk.calls (a0 : Int) (a1 : Int) (r : Bool) (w : World) (h : impl_WorldOk.f a0 a1 = some r) :
  Calls Try.prog 67 #[.int .i64 a0, .int .i64 a1] w fun e w' => e = .returned (.bool r) ∧ Drawn0 w w' := by
 have H : ((impl_peopleOk.f a0).bind fun t550 => (if t550 = true then (if a1 ≥ 0 then (if 0 ≤ a0 then (some (decide (a1 < (shl .i64 1 a0)))) else (none)) else (some false)) else (some false))) = some r := h
 clear h
 replace H := Option.bind_eq_some_iff.mp H
 obtain ⟨t550, A30, H⟩ := H
 replace H : (if t550 = true then (if a1 ≥ 0 then (if 0 ≤ a0 then (some (decide (a1 < (shl .i64 1 a0)))) else (none)) else (some false)) else (some false)) = some r := H
 have A3 := Aside0.mk A30
 clear A30
 by_cases c4 : t550 = true
 ·subst c4
  have H1 : (if a1 ≥ 0 then (if 0 ≤ a0 then (some (decide (a1 < (shl .i64 1 a0)))) else (none)) else (some false)) = some r := by rw [if_pos rfl] at H; exact H
  clear H
  have H := H1
  clear H1
  by_cases c5 : a1 ≥ 0
  ·rw [if_pos c5] at H
   have c5b0 : decide (0 ≤ a1) = true := decide_eq_true c5
   clear c5
   by_cases c6 : 0 ≤ a0
   ·rw [if_pos c6] at H
    have c6b0 := eq_true c6
    have c6b1 : decide (0 ≤ a0) = true := decide_eq_true c6
    clear c6
    obtain ⟨ji7, hji7⟩ : ∃ j_ : Int, (shl .i64 1 a0) = j_ := ⟨_, rfl⟩
    replace H : (some (decide (a1 < (ji7)))) = some r := by first | (rw [hji7] at H; exact H) | (simp only [hji7] at H ⊢; exact H)
    (try rw [hji7] at A3)
    have hji7_ : (IntKind.i64.wrap (1 * 2 ^ min a0.toNat 64)) = ji7 := hji7
    have hji7z : a0 ≤ 64 → (IntKind.i64.wrap (1 * 2 ^ a0.toNat)) = ji7 := shl_small hji7
    have hji7u : (IntKind.i64.wrap (2 ^ min a0.toNat 64)) = ji7 := by have h_ := hji7_; rw [Int.one_mul] at h_; exact h_
    have hji7v : a0 ≤ 64 → (IntKind.i64.wrap (2 ^ a0.toNat)) = ji7 := fun hle_ => by have h_ := hji7z hle_; rw [Int.one_mul] at h_; exact h_
    have hji7y : (wrap64 (1 * 2 ^ min a0.toNat 64)) = ji7 := (i64_w _).symm.trans hji7_
    have hji7x : a0 ≤ 64 → (wrap64 (1 * 2 ^ a0.toNat)) = ji7 := fun h_ => (i64_w _).symm.trans (hji7z h_)
    obtain rfl := Option.some.inj H
    go_enter Try.func67, Try.ntmps67
    go_wp2_with (first | ((with_reducible refine gate_callee (f := 62) rfl ?_); refine goesL_ (some 6) rfl rfl Try.func62 (by kernel_rfl) rfl #[.int .i64 a0] rfl pwk_ ?_; (with_reducible refine (impl_peopleOk.calls a0 true _ A3.out).mono ?_); rintro e w' ⟨rfl, ⟨nd, rfl⟩⟩; refine ⟨_, rfl, ?_⟩))
    go_ret
    exact ⟨by first | rfl | (simp; done) | (simp only [← hji7] <;> (first | rfl | simp)) | (simp [*]; done), by repeat (first | exact Drawn0.refl _ | apply Drawn0.step)⟩
   ·rw [if_neg c6] at H
    exact absurd H (by simp)
  ·rw [if_neg c5] at H
   have c5b0 : decide (0 ≤ a1) = false := decide_eq_false c5
   clear c5
   obtain rfl := Option.some.inj H
   go_enter Try.func67, Try.ntmps67
   go_wp2_with (first | ((with_reducible refine gate_callee (f := 62) rfl ?_); refine goesL_ (some 6) rfl rfl Try.func62 (by kernel_rfl) rfl #[.int .i64 a0] rfl pwk_ ?_; (with_reducible refine (impl_peopleOk.calls a0 true _ A3.out).mono ?_); rintro e w' ⟨rfl, ⟨nd, rfl⟩⟩; refine ⟨_, rfl, ?_⟩))
   go_ret
   exact ⟨pwa_, by repeat (first | exact Drawn0.refl _ | apply Drawn0.step)⟩
 ·replace c4 := Bool.eq_false_iff.mpr c4
  subst c4
  have H1 : (some false) = some r := by rw [if_neg (show ¬ (false = true) by decide)] at H; exact H
  clear H
  have H := H1
  clear H1
  obtain rfl := Option.some.inj H
  go_enter Try.func67, Try.ntmps67
  go_wp2_with (first | ((with_reducible refine gate_callee (f := 62) rfl ?_); refine goesL_ (some 6) rfl rfl Try.func62 (by kernel_rfl) rfl #[.int .i64 a0] rfl pwk_ ?_; (with_reducible refine (impl_peopleOk.calls a0 false _ A3.out).mono ?_); rintro e w' ⟨rfl, ⟨nd, rfl⟩⟩; refine ⟨_, rfl, ?_⟩))
  go_ret
  exact ⟨pwa_, by repeat (first | exact Drawn0.refl _ | apply Drawn0.step)⟩

/-! ### laws_alive: function 19 -/
def laws_alive.f  : Option (Bool) := (impl_WorldOk.f 1 1).bind fun t551 => (if t551 = true then ((impl_WorldOk.f 1 2).bind fun t552 => (some (!t552))) else (some false))
set_option maxHeartbeats 8000000 in
set_option maxRecDepth 100000 in
theorem laws_alive.calls  (r : Bool) (w : World) (h : laws_alive.f  = some r) :
  Calls Try.prog 19 #[] w fun e w' => e = .returned (.bool r) ∧ Drawn0 w w' := by
 have H : ((impl_WorldOk.f 1 1).bind fun t551 => (if t551 = true then ((impl_WorldOk.f 1 2).bind fun t552 => (some (!t552))) else (some false))) = some r := h
 clear h
 replace H := Option.bind_eq_some_iff.mp H
 obtain ⟨t551, A10, H⟩ := H
 replace H : (if t551 = true then ((impl_WorldOk.f 1 2).bind fun t552 => (some (!t552))) else (some false)) = some r := H
 have A1 := Aside0.mk A10
 clear A10
 by_cases c2 : t551 = true
 ·subst c2
  have H1 : ((impl_WorldOk.f 1 2).bind fun t552 => (some (!t552))) = some r := by rw [if_pos rfl] at H; exact H
  clear H
  have H := H1
  clear H1
  replace H := Option.bind_eq_some_iff.mp H
  obtain ⟨t552, A30, H⟩ := H
  replace H : (some (!t552)) = some r := H
  have A3 := Aside0.mk A30
  clear A30
  obtain rfl := Option.some.inj H
  go_enter Try.func19, Try.ntmps19
  go_wp2_with (first | ((with_reducible refine gate_callee (f := 67) rfl ?_); refine goesL_ (some 1) rfl rfl Try.func67 (by kernel_rfl) rfl #[.int .i64 1, .int .i64 1] rfl pwk_ ?_; (with_reducible refine (impl_WorldOk.calls 1 1 true _ A1.out).mono ?_); rintro e w' ⟨rfl, ⟨nd, rfl⟩⟩; refine ⟨_, rfl, ?_⟩) | (go_at_call 67; (with_reducible refine (impl_WorldOk.calls 1 2 t552 _ A3.out).mono ?_); rintro e w' ⟨rfl, ⟨nd, rfl⟩⟩))
  go_ret
  exact ⟨pwa_, by repeat (first | exact Drawn0.refl _ | apply Drawn0.step)⟩
 ·replace c2 := Bool.eq_false_iff.mpr c2
  subst c2
  have H1 : (some false) = some r := by rw [if_neg (show ¬ (false = true) by decide)] at H; exact H
  clear H
  have H := H1
  clear H1
  obtain rfl := Option.some.inj H
  go_enter Try.func19, Try.ntmps19
  go_wp2_with (first | ((with_reducible refine gate_callee (f := 67) rfl ?_); refine goesL_ (some 1) rfl rfl Try.func67 (by kernel_rfl) rfl #[.int .i64 1, .int .i64 1] rfl pwk_ ?_; (with_reducible refine (impl_WorldOk.calls 1 1 false _ A1.out).mono ?_); rintro e w' ⟨rfl, ⟨nd, rfl⟩⟩; refine ⟨_, rfl, ?_⟩))
  go_ret
  exact ⟨pwa_, by repeat (first | exact Drawn0.refl _ | apply Drawn0.step)⟩

/-! ### laws_FnReadTerm: function 3 -/
def laws_FnReadTerm.j0 : Nat → Int → ByteArray → List (S62) → Bool → Bool → Option (Bool)
 | 0, _, _, _, _, _ => none
 | k + 1, x3, x4, x5, x6, x39 => if x39 = true then (some false) else (if x6 = true then (if 1 + x4.size ≤ 9223372036854775807 then (if ((⟨#[40]⟩ : ByteArray) ++ x4).size + 1 ≤ 9223372036854775807 then ((impl_ReadTerm.f k x3 (((⟨#[40]⟩ : ByteArray) ++ x4) ++ (⟨#[41]⟩ : ByteArray))).bind fun bt564 => ((impl_TermText.f k x3 x5).bind fun t568 => (if t568.toList = x4.toList then ((impl_TermOk.f k x3 x5).bind fun t569 => (if t569 = true then (some (!bt564.2)) else (some false))) else (some false)))) else (none)) else (none)) else (if (x5.length : Int) = 0 then ((laws_alive.f).bind fun t570 => (some t570)) else (some false)))
def laws_FnReadTerm.f (k : Nat) (l0 : List Int) : Option (Bool) := if (l0.length : Int) > 1048576 then (some true) else ((spec_DrawReadTerm.f k l0).bind fun bt553 => ((impl_ReadTerm.f k bt553.1 bt553.2).bind fun bt555 => ((spec_ReadTerm.f k bt553.1 bt553.2).bind fun bt559 => ((laws_sameMarks.f k bt555.1 bt559.1).bind fun t563 => (if t563 = true then (laws_FnReadTerm.j0 k bt553.1 bt553.2 bt555.1 bt555.2 (bt555.2 != bt559.2)) else (laws_FnReadTerm.j0 k bt553.1 bt553.2 bt555.1 bt555.2 true))))))
theorem laws_FnReadTerm.mono_l : ∀ k, (∀ y0 y1 y2 y3 y4, LeO (laws_FnReadTerm.j0 k y0 y1 y2 y3 y4) (laws_FnReadTerm.j0 (k + 1) y0 y1 y2 y3 y4))
 | 0 => fun _ _ _ _ _ r h => by simp [laws_FnReadTerm.j0] at h
 | k + 1 => by
  have ih0 := laws_FnReadTerm.mono_l k
  ·intro y0 y1 y2 y3 y4
   unfold laws_FnReadTerm.j0
   repeat' first
   | (with_reducible exact ih0 _ _ _ _ _)
   | (with_reducible exact impl_ReadTerm.mono _ _ _)
   | (with_reducible exact impl_TermOk.mono _ _ _)
   | (with_reducible exact impl_TermText.mono _ _ _)
   | (with_reducible exact laws_sameMarks.mono _ _ _)
   | (with_reducible exact spec_DrawReadTerm.mono _ _)
   | (with_reducible exact spec_ReadTerm.mono _ _ _)
   | (with_reducible exact LeO.refl _)
   | (with_reducible exact LeO.none _)
   | (with_reducible refine LeO.ite ?_ ?_)
   | (with_reducible refine LeO.bind ?_ (fun _ => ?_))
   | exact ih0 _ _ _ _ _
   | exact impl_ReadTerm.mono _ _ _
   | exact impl_TermOk.mono _ _ _
   | exact impl_TermText.mono _ _ _
   | exact laws_sameMarks.mono _ _ _
   | exact spec_DrawReadTerm.mono _ _
   | exact spec_ReadTerm.mono _ _ _
   | exact LeO.none _
   | refine LeO.ite ?_ ?_
   | refine LeO.bind ?_ (fun _ => ?_)
theorem laws_FnReadTerm.mono : ∀ a0 k, LeO (laws_FnReadTerm.f k a0) (laws_FnReadTerm.f (k + 1) a0) := by
 intro a0 k
 have ih0 := laws_FnReadTerm.mono_l k
 unfold laws_FnReadTerm.f
 repeat' first
   | (with_reducible exact ih0 _ _ _ _ _)
   | (with_reducible exact impl_ReadTerm.mono _ _ _)
   | (with_reducible exact impl_TermOk.mono _ _ _)
   | (with_reducible exact impl_TermText.mono _ _ _)
   | (with_reducible exact laws_sameMarks.mono _ _ _)
   | (with_reducible exact spec_DrawReadTerm.mono _ _)
   | (with_reducible exact spec_ReadTerm.mono _ _ _)
   | (with_reducible exact LeO.refl _)
   | (with_reducible exact LeO.none _)
   | (with_reducible refine LeO.ite ?_ ?_)
   | (with_reducible refine LeO.bind ?_ (fun _ => ?_))
   | exact ih0 _ _ _ _ _
   | exact impl_ReadTerm.mono _ _ _
   | exact impl_TermOk.mono _ _ _
   | exact impl_TermText.mono _ _ _
   | exact laws_sameMarks.mono _ _ _
   | exact spec_DrawReadTerm.mono _ _
   | exact spec_ReadTerm.mono _ _ _
   | exact LeO.none _
   | refine LeO.ite ?_ ?_
   | refine LeO.bind ?_ (fun _ => ?_)
set_option maxHeartbeats 8000000 in
set_option maxRecDepth 100000 in
theorem laws_FnReadTerm.calls (k : Nat) (A0 : Option Addr) (c0 : Nat) (l0 : List Int) (r : Bool) (w : World) (hr0 : Kd.C (Kd.int .u8) w A0 l0.length l0) (hc0 : l0.length ≤ c0) (h : laws_FnReadTerm.f k l0 = some r) :
  Calls Try.prog 3 #[.slice A0 l0.length c0] w fun e w' => e = .returned (.bool r) ∧ Below w.heap.size w w' := by
 have HR0 := Aside0.mk hr0
 have HC0 := Aside0.mk hc0
 clear hr0 hc0
 have HB := Aside0.mk (Below.refl w.heap.size w)
 have H : (if (l0.length : Int) > 1048576 then (some true) else ((spec_DrawReadTerm.f k l0).bind fun bt553 => ((impl_ReadTerm.f k bt553.1 bt553.2).bind fun bt555 => ((spec_ReadTerm.f k bt553.1 bt553.2).bind fun bt559 => ((laws_sameMarks.f k bt555.1 bt559.1).bind fun t563 => (if t563 = true then (laws_FnReadTerm.j0 k bt553.1 bt553.2 bt555.1 bt555.2 (bt555.2 != bt559.2)) else (laws_FnReadTerm.j0 k bt553.1 bt553.2 bt555.1 bt555.2 true))))))) = some r := h
 clear h
 by_cases c2 : (l0.length : Int) > 1048576
 ·rw [if_pos c2] at H
  have c2b0 : decide (1048576 < (l0.length : Int)) = true := decide_eq_true c2
  have c2b1 : decide (1048576 < l0.length) = true := decide_eq_true (by omega)
  clear c2
  obtain rfl := Option.some.inj H
  go_enter Try.func3, Try.ntmps3
  go_wp2
  go_ret
  exact ⟨by first | rfl | (simp [errW_none, errW_some] <;> rfl) | (simp [*, errW_none, errW_some] <;> rfl), pwi_⟩
 ·rw [if_neg c2] at H
  have c2b0 : decide (1048576 < (l0.length : Int)) = false := decide_eq_false c2
  have c2b1 : decide (1048576 < l0.length) = false := decide_eq_false (by omega)
  clear c2
  replace H := Option.bind_eq_some_iff.mp H
  obtain ⟨⟨t553, t554⟩, A30, H⟩ := H
  replace H : ((impl_ReadTerm.f k t553 t554).bind fun bt555 => ((spec_ReadTerm.f k t553 t554).bind fun bt559 => ((laws_sameMarks.f k bt555.1 bt559.1).bind fun t563 => (if t563 = true then (laws_FnReadTerm.j0 k t553 t554 bt555.1 bt555.2 (bt555.2 != bt559.2)) else (laws_FnReadTerm.j0 k t553 t554 bt555.1 bt555.2 true))))) = some r := H
  have A3 := Aside0.mk A30
  clear A30
  replace H := Option.bind_eq_some_iff.mp H
  obtain ⟨⟨t555, t556⟩, A40, H⟩ := H
  replace H : ((spec_ReadTerm.f k t553 t554).bind fun bt559 => ((laws_sameMarks.f k t555 bt559.1).bind fun t563 => (if t563 = true then (laws_FnReadTerm.j0 k t553 t554 t555 t556 (t556 != bt559.2)) else (laws_FnReadTerm.j0 k t553 t554 t555 t556 true)))) = some r := H
  have A4 := Aside0.mk A40
  clear A40
  replace H := Option.bind_eq_some_iff.mp H
  obtain ⟨⟨t559, t560⟩, A50, H⟩ := H
  replace H : ((laws_sameMarks.f k t555 t559).bind fun t563 => (if t563 = true then (laws_FnReadTerm.j0 k t553 t554 t555 t556 (t556 != t560)) else (laws_FnReadTerm.j0 k t553 t554 t555 t556 true))) = some r := H
  have A5 := Aside0.mk A50
  clear A50
  have HC6 := Aside0.mk H
  clear H
  go_enter Try.func3, Try.ntmps3
  go_upto_region 6 with (first | ((with_reducible refine gate_callee (f := 15) rfl ?_); refine goesL_ (some 16) rfl rfl Try.func15 (by kernel_rfl) rfl #[.slice A0 l0.length c0] rfl pwk_ ?_; (with_reducible refine (spec_DrawReadTerm.calls k _ _ l0 t553 t554 _ ?side1 ?side2 A3.out).mono ?_); (case side1 => repeat (first | exact HR0.out | (with_reducible refine Kd.C_alloc ?_ _) | (with_reducible refine Kd.C_drewN ?_ _) | (with_reducible refine Kd.C_drew ?_))); (case side2 => exact HC0.out); rintro e w7 ⟨rfl, hb⟩; refine ⟨_, rfl, ?_⟩; have n0_ := Aside0.mk (below_step pwi_ hb); clear HB; have HB := n0_; clear n0_; (try clear hb); (try clear hb2); (try clear hk); (try clear hi)) | ((with_reducible refine gate_callee (f := 16) rfl ?_); refine goesL_ (some 22) rfl rfl Try.func16 (by kernel_rfl) rfl #[.int .i64 t553, .string t554] rfl pwk_ ?_; (with_reducible refine (impl_ReadTerm.calls k t553 t554 t555 t556 _ A4.out).mono ?_); rintro e w8 ⟨v557, rfl, ho0, hb⟩; refine ⟨_, rfl, ?_⟩; have n0_ := Aside0.mk (Kd.R_lower ho0 (below_size pwi_)); have n1_ := Aside0.mk (below_step pwi_ hb); clear HB; have HO558 := n0_; have HB := n1_; clear n0_ n1_; (try clear hb); (try clear hb2); (try clear hk); (try clear hi); (try clear ho0)) | ((with_reducible refine gate_callee (f := 17) rfl ?_); refine goesL_ (some 28) rfl rfl Try.func17 (by kernel_rfl) rfl #[.int .i64 t553, .string t554] rfl pwk_ ?_; (with_reducible refine (spec_ReadTerm.calls k t553 t554 t559 t560 _ A5.out).mono ?_); rintro e w9 ⟨v561, rfl, ho0, hb⟩; refine ⟨_, rfl, ?_⟩; have n0_ := Aside0.mk (Kd.R_elder' (by (with_reducible repeat apply Kd.R_alloc); exact HO558.out) (Kd.R_base ho0) hb); have n1_ := Aside0.mk (Kd.R_lower (Kd.R_new' ho0 (Kd.R_lt (by (with_reducible repeat apply Kd.R_alloc); exact HO558.out))) (below_size pwi_)); have n2_ := Aside0.mk (below_step pwi_ hb); clear HO558; clear HB; have HO558 := n0_; have HO562 := n1_; have HB := n2_; clear n0_ n1_ n2_; (try clear hb); (try clear hb2); (try clear hk); (try clear hi); (try clear ho0)))
  (try simp only [Act.put, List.setIfInBounds_toArray, List.set_cons_zero, List.set_cons_succ])
  go_cut [39] (fun v39 wc => ∃ (kq : Nat) (x39_5 : Bool), v39 = .bool x39_5 ∧ Aside0 (laws_FnReadTerm.j0 kq t553 t554 t555 t556 x39_5 = some r) ∧ Aside0 (kq ≤ k) ∧ Aside0 (Kd.R k62 62 wc w.heap.size (fun _ => True) v557 t555) ∧ Aside0 (Below w.heap.size w wc))
  case first =>
   have H := HC6.out
   clear HC6
   replace H := Option.bind_eq_some_iff.mp H
   obtain ⟨t563, A100, H⟩ := H
   replace H : (if t563 = true then (laws_FnReadTerm.j0 k t553 t554 t555 t556 (t556 != t560)) else (laws_FnReadTerm.j0 k t553 t554 t555 t556 true)) = some r := H
   have A10 := Aside0.mk A100
   clear A100
   by_cases c11 : t563 = true
   ·subst c11
    have H1 : (laws_FnReadTerm.j0 k t553 t554 t555 t556 (t556 != t560)) = some r := by rw [if_pos rfl] at H; exact H
    clear H
    have H := H1
    clear H1
    have H' := Aside0.mk H
    clear H
    obtain ⟨Ao12, co12, eo12⟩ := Kd.R_slice HO558.out
    subst eo12
    obtain ⟨Ao13, co13, eo13⟩ := Kd.R_slice HO562.out
    subst eo13
    go_wp2_with (first | ((with_reducible refine gate_callee (f := 18) rfl ?_); refine goesL_ (some 33) rfl rfl Try.func18 (by kernel_rfl) rfl #[.slice Ao12 t555.length co12, .slice Ao13 t559.length co13] rfl pwk_ ?_; (with_reducible refine (laws_sameMarks.calls k _ _ t555 _ _ t559 true _ ?side1 ?side2 ?side3 ?side4 A10.out).mono ?_); (case side1 => repeat (first | exact (Kd.R_reads' HO558.out).2.2 | (with_reducible refine Kd.C_alloc ?_ _) | (with_reducible refine Kd.C_drewN ?_ _) | (with_reducible refine Kd.C_drew ?_))); (case side2 => exact (Kd.R_reads' HO558.out).2.1); (case side3 => repeat (first | exact (Kd.R_reads' HO562.out).2.2 | (with_reducible refine Kd.C_alloc ?_ _) | (with_reducible refine Kd.C_drewN ?_ _) | (with_reducible refine Kd.C_drew ?_))); (case side4 => exact (Kd.R_reads' HO562.out).2.1); rintro e w' ⟨rfl, ⟨nd, rfl⟩⟩; refine ⟨_, rfl, ?_⟩))
    go_meet
    case rel => exact ⟨_, ((t556 != t560)), pwa_, H', ⟨by first | omega | exact Nat.le_refl _⟩, ⟨by (with_reducible repeat apply Kd.R_alloc); exact Kd.R_mono HO558.out (fun _ hk => trivial)⟩, ⟨pwi_⟩⟩
   ·replace c11 := Bool.eq_false_iff.mpr c11
    subst c11
    have H1 : (laws_FnReadTerm.j0 k t553 t554 t555 t556 true) = some r := by rw [if_neg (show ¬ (false = true) by decide)] at H; exact H
    clear H
    have H := H1
    clear H1
    have H' := Aside0.mk H
    clear H
    obtain ⟨Ao14, co14, eo14⟩ := Kd.R_slice HO558.out
    subst eo14
    obtain ⟨Ao15, co15, eo15⟩ := Kd.R_slice HO562.out
    subst eo15
    go_wp2_with (first | ((with_reducible refine gate_callee (f := 18) rfl ?_); refine goesL_ (some 33) rfl rfl Try.func18 (by kernel_rfl) rfl #[.slice Ao14 t555.length co14, .slice Ao15 t559.length co15] rfl pwk_ ?_; (with_reducible refine (laws_sameMarks.calls k _ _ t555 _ _ t559 false _ ?side1 ?side2 ?side3 ?side4 A10.out).mono ?_); (case side1 => repeat (first | exact (Kd.R_reads' HO558.out).2.2 | (with_reducible refine Kd.C_alloc ?_ _) | (with_reducible refine Kd.C_drewN ?_ _) | (with_reducible refine Kd.C_drew ?_))); (case side2 => exact (Kd.R_reads' HO558.out).2.1); (case side3 => repeat (first | exact (Kd.R_reads' HO562.out).2.2 | (with_reducible refine Kd.C_alloc ?_ _) | (with_reducible refine Kd.C_drewN ?_ _) | (with_reducible refine Kd.C_drew ?_))); (case side4 => exact (Kd.R_reads' HO562.out).2.1); rintro e w' ⟨rfl, ⟨nd, rfl⟩⟩; refine ⟨_, rfl, ?_⟩))
    go_meet
    case rel => exact ⟨_, (true), pwa_, H', ⟨by first | omega | exact Nat.le_refl _⟩, ⟨by (with_reducible repeat apply Kd.R_alloc); exact Kd.R_mono HO558.out (fun _ hk => trivial)⟩, ⟨pwi_⟩⟩
  case rest =>
   clear HC6
   try clear c1
   try clear c2
   try clear c2b0
   try clear c2b1
   try clear p2
   try clear c3
   try clear c11
   try clear c15
   obtain ⟨kq, x39_5, rfl, HA, HJ5, HO_5, HB⟩ := hcut
   cases kq with
   | zero => exact absurd HA.out (by simp [laws_FnReadTerm.j0])
   | succ kj5 =>
    have H := HA.out
    clear HA
    simp only [laws_FnReadTerm.j0] at H
    by_cases c16 : x39_5 = true
    ·subst c16
     have H1 : (some false) = some r := by rw [if_pos rfl] at H; exact H
     clear H
     have H := H1
     clear H1
     obtain rfl := Option.some.inj H
     go_wp2
     go_ret
     exact ⟨by first | rfl | (simp [errW_none, errW_some] <;> rfl) | (simp [*, errW_none, errW_some] <;> rfl), pwi_⟩
    ·replace c16 := Bool.eq_false_iff.mpr c16
     subst c16
     have H1 : (if t556 = true then (if 1 + t554.size ≤ 9223372036854775807 then (if ((⟨#[40]⟩ : ByteArray) ++ t554).size + 1 ≤ 9223372036854775807 then ((impl_ReadTerm.f kj5 t553 (((⟨#[40]⟩ : ByteArray) ++ t554) ++ (⟨#[41]⟩ : ByteArray))).bind fun bt564 => ((impl_TermText.f kj5 t553 t555).bind fun t568 => (if t568.toList = t554.toList then ((impl_TermOk.f kj5 t553 t555).bind fun t569 => (if t569 = true then (some (!bt564.2)) else (some false))) else (some false)))) else (none)) else (none)) else (if (t555.length : Int) = 0 then ((laws_alive.f).bind fun t570 => (some t570)) else (some false))) = some r := by rw [if_neg (show ¬ (false = true) by decide)] at H; exact H
     clear H
     have H := H1
     clear H1
     by_cases c17 : t556 = true
     ·subst c17
      have H1 : (if 1 + t554.size ≤ 9223372036854775807 then (if ((⟨#[40]⟩ : ByteArray) ++ t554).size + 1 ≤ 9223372036854775807 then ((impl_ReadTerm.f kj5 t553 (((⟨#[40]⟩ : ByteArray) ++ t554) ++ (⟨#[41]⟩ : ByteArray))).bind fun bt564 => ((impl_TermText.f kj5 t553 t555).bind fun t568 => (if t568.toList = t554.toList then ((impl_TermOk.f kj5 t553 t555).bind fun t569 => (if t569 = true then (some (!bt564.2)) else (some false))) else (some false)))) else (none)) else (none)) = some r := by rw [if_pos rfl] at H; exact H
      clear H
      have H := H1
      clear H1
      by_cases c18 : 1 + t554.size ≤ 9223372036854775807
      ·rw [if_pos c18] at H
       have c18b0 := eq_true c18
       have c18b1 : decide (1 + t554.size ≤ 9223372036854775807) = true := decide_eq_true c18
       try have c18b2 : (9223372036854775807 < 1 + t554.size) = False := eq_false (Nat.not_lt.2 c18)
       by_cases c19 : ((⟨#[40]⟩ : ByteArray) ++ t554).size + 1 ≤ 9223372036854775807
       ·rw [if_pos c19] at H
        have c19b0 := eq_true c19
        have c19b1 : decide (((⟨#[40]⟩ : ByteArray) ++ t554).size + 1 ≤ 9223372036854775807) = true := decide_eq_true c19
        try have c19b2 : (9223372036854775807 < ((⟨#[40]⟩ : ByteArray) ++ t554).size + 1) = False := eq_false (Nat.not_lt.2 c19)
        try have c19b3 : (9223372036854775807 < 1 + t554.size + 1) = False := eq_false (by have z_ := c19; simp only [ByteArray.size_append] at z_; have e0_ : (⟨#[40]⟩ : ByteArray).size = 1 := rfl; omega)
        replace H := Option.bind_eq_some_iff.mp H
        obtain ⟨⟨t564, t565⟩, A200, H⟩ := H
        replace H : ((impl_TermText.f kj5 t553 t555).bind fun t568 => (if t568.toList = t554.toList then ((impl_TermOk.f kj5 t553 t555).bind fun t569 => (if t569 = true then (some (!t565)) else (some false))) else (some false))) = some r := H
        have A20 := Aside0.mk A200
        clear A200
        replace H := Option.bind_eq_some_iff.mp H
        obtain ⟨t568, A210, H⟩ := H
        replace H : (if t568.toList = t554.toList then ((impl_TermOk.f kj5 t553 t555).bind fun t569 => (if t569 = true then (some (!t565)) else (some false))) else (some false)) = some r := H
        have A21 := Aside0.mk A210
        clear A210
        by_cases c22 : t568.toList = t554.toList
        ·rw [if_pos c22] at H
         have c22b0 : (t568.toList == t554.toList) = true := beq_iff_eq.mpr c22
         have c22b1 : (t568.toList != t554.toList) = false := bne_eq_false_iff_eq.mpr c22
         clear c22
         replace H := Option.bind_eq_some_iff.mp H
         obtain ⟨t569, A230, H⟩ := H
         replace H : (if t569 = true then (some (!t565)) else (some false)) = some r := H
         have A23 := Aside0.mk A230
         clear A230
         by_cases c24 : t569 = true
         ·subst c24
          have H1 : (some (!t565)) = some r := by rw [if_pos rfl] at H; exact H
          clear H
          have H := H1
          clear H1
          obtain rfl := Option.some.inj H
          go_wp2_with (first | ((with_reducible refine gate_callee (f := 16) rfl ?_); refine goesL_ (some 53) rfl rfl Try.func16 (by kernel_rfl) rfl #[.int .i64 t553, .string (((⟨#[40]⟩ : ByteArray) ++ t554) ++ (⟨#[41]⟩ : ByteArray))] rfl pwk_ ?_; (with_reducible refine (impl_ReadTerm.calls kj5 t553 (((⟨#[40]⟩ : ByteArray) ++ t554) ++ (⟨#[41]⟩ : ByteArray)) t564 t565 _ A20.out).mono ?_); rintro e w25 ⟨v566, rfl, ho0, hb⟩; refine ⟨_, rfl, ?_⟩; have n0_ := Aside0.mk (Kd.R_elder' pwc_ (Kd.R_base ho0) hb); have n1_ := Aside0.mk (Kd.R_lower (Kd.R_new' ho0 (Kd.R_lt pwc_)) (below_size pwi_)); have n2_ := Aside0.mk (below_step pwi_ hb); clear HO_5; clear HB; have HO_5 := n0_; have HO567 := n1_; have HB := n2_; clear n0_ n1_ n2_; (try clear hb); (try clear hb2); (try clear hk); (try clear hi); (try clear ho0); obtain ⟨Ao26, co26, eo26⟩ := Kd.R_slice HO_5.out; subst eo26) | ((with_reducible refine gate_callee (f := 20) rfl ?_); refine goesL_ (some 58) rfl rfl Try.func20 (by kernel_rfl) rfl #[.int .i64 t553, .slice Ao26 t555.length co26] rfl pwk_ ?_; (with_reducible refine (impl_TermText.calls kj5 t553 _ _ t555 t568 _ ?side1 ?side2 A21.out).mono ?_); (case side1 => repeat (first | exact (Kd.R_reads' HO_5.out).2.2 | (with_reducible refine Kd.C_alloc ?_ _) | (with_reducible refine Kd.C_drewN ?_ _) | (with_reducible refine Kd.C_drew ?_))); (case side2 => exact (Kd.R_reads' HO_5.out).2.1); rintro e w27 ⟨rfl, hb⟩; refine ⟨_, rfl, ?_⟩; have n0_ := Aside0.mk (Kd.R_below pwc_ hb); have n1_ := Aside0.mk (Kd.R_below (by (with_reducible repeat apply Kd.R_alloc); exact HO567.out) hb); have n2_ := Aside0.mk (below_step pwi_ hb); clear HO_5; clear HO567; clear HB; have HO_5 := n0_; have HO567 := n1_; have HB := n2_; clear n0_ n1_ n2_; (try clear hb); (try clear hb2); (try clear hk); (try clear hi)) | (go_at_call 21; (with_reducible refine (impl_TermOk.calls kj5 t553 _ _ t555 true _ ?side1 ?side2 A23.out).mono ?_); (case side1 => repeat (first | exact (Kd.R_reads' HO_5.out).2.2 | (with_reducible refine Kd.C_alloc ?_ _) | (with_reducible refine Kd.C_drewN ?_ _) | (with_reducible refine Kd.C_drew ?_))); (case side2 => exact (Kd.R_reads' HO_5.out).2.1); rintro e w28 ⟨rfl, hb⟩; have n0_ := Aside0.mk (Kd.R_below pwc_ hb); have n1_ := Aside0.mk (Kd.R_below (by (with_reducible repeat apply Kd.R_alloc); exact HO567.out) hb); have n2_ := Aside0.mk (below_step pwi_ hb); clear HO_5; clear HO567; clear HB; have HO_5 := n0_; have HO567 := n1_; have HB := n2_; clear n0_ n1_ n2_; (try clear hb); (try clear hb2); (try clear hk); (try clear hi)))
          go_ret
          exact ⟨by first | rfl | (simp [errW_none, errW_some] <;> rfl) | (simp [*, errW_none, errW_some] <;> rfl), pwi_⟩
         ·replace c24 := Bool.eq_false_iff.mpr c24
          subst c24
          have H1 : (some false) = some r := by rw [if_neg (show ¬ (false = true) by decide)] at H; exact H
          clear H
          have H := H1
          clear H1
          obtain rfl := Option.some.inj H
          go_wp2_with (first | ((with_reducible refine gate_callee (f := 16) rfl ?_); refine goesL_ (some 53) rfl rfl Try.func16 (by kernel_rfl) rfl #[.int .i64 t553, .string (((⟨#[40]⟩ : ByteArray) ++ t554) ++ (⟨#[41]⟩ : ByteArray))] rfl pwk_ ?_; (with_reducible refine (impl_ReadTerm.calls kj5 t553 (((⟨#[40]⟩ : ByteArray) ++ t554) ++ (⟨#[41]⟩ : ByteArray)) t564 t565 _ A20.out).mono ?_); rintro e w29 ⟨v566, rfl, ho0, hb⟩; refine ⟨_, rfl, ?_⟩; have n0_ := Aside0.mk (Kd.R_elder' pwc_ (Kd.R_base ho0) hb); have n1_ := Aside0.mk (Kd.R_lower (Kd.R_new' ho0 (Kd.R_lt pwc_)) (below_size pwi_)); have n2_ := Aside0.mk (below_step pwi_ hb); clear HO_5; clear HB; have HO_5 := n0_; have HO567 := n1_; have HB := n2_; clear n0_ n1_ n2_; (try clear hb); (try clear hb2); (try clear hk); (try clear hi); (try clear ho0); obtain ⟨Ao30, co30, eo30⟩ := Kd.R_slice HO_5.out; subst eo30) | ((with_reducible refine gate_callee (f := 20) rfl ?_); refine goesL_ (some 58) rfl rfl Try.func20 (by kernel_rfl) rfl #[.int .i64 t553, .slice Ao30 t555.length co30] rfl pwk_ ?_; (with_reducible refine (impl_TermText.calls kj5 t553 _ _ t555 t568 _ ?side1 ?side2 A21.out).mono ?_); (case side1 => repeat (first | exact (Kd.R_reads' HO_5.out).2.2 | (with_reducible refine Kd.C_alloc ?_ _) | (with_reducible refine Kd.C_drewN ?_ _) | (with_reducible refine Kd.C_drew ?_))); (case side2 => exact (Kd.R_reads' HO_5.out).2.1); rintro e w31 ⟨rfl, hb⟩; refine ⟨_, rfl, ?_⟩; have n0_ := Aside0.mk (Kd.R_below pwc_ hb); have n1_ := Aside0.mk (Kd.R_below (by (with_reducible repeat apply Kd.R_alloc); exact HO567.out) hb); have n2_ := Aside0.mk (below_step pwi_ hb); clear HO_5; clear HO567; clear HB; have HO_5 := n0_; have HO567 := n1_; have HB := n2_; clear n0_ n1_ n2_; (try clear hb); (try clear hb2); (try clear hk); (try clear hi)) | (go_at_call 21; (with_reducible refine (impl_TermOk.calls kj5 t553 _ _ t555 false _ ?side1 ?side2 A23.out).mono ?_); (case side1 => repeat (first | exact (Kd.R_reads' HO_5.out).2.2 | (with_reducible refine Kd.C_alloc ?_ _) | (with_reducible refine Kd.C_drewN ?_ _) | (with_reducible refine Kd.C_drew ?_))); (case side2 => exact (Kd.R_reads' HO_5.out).2.1); rintro e w32 ⟨rfl, hb⟩; have n0_ := Aside0.mk (Kd.R_below pwc_ hb); have n1_ := Aside0.mk (Kd.R_below (by (with_reducible repeat apply Kd.R_alloc); exact HO567.out) hb); have n2_ := Aside0.mk (below_step pwi_ hb); clear HO_5; clear HO567; clear HB; have HO_5 := n0_; have HO567 := n1_; have HB := n2_; clear n0_ n1_ n2_; (try clear hb); (try clear hb2); (try clear hk); (try clear hi)))
          go_ret
          exact ⟨by first | rfl | (simp [errW_none, errW_some] <;> rfl) | (simp [*, errW_none, errW_some] <;> rfl), pwi_⟩
        ·rw [if_neg c22] at H
         have c22b0 : (t568.toList == t554.toList) = false := beq_eq_false_iff_ne.mpr c22
         have c22b1 : (t568.toList != t554.toList) = true := bne_iff_ne.mpr c22
         obtain rfl := Option.some.inj H
         go_wp2_with (first | ((with_reducible refine gate_callee (f := 16) rfl ?_); refine goesL_ (some 53) rfl rfl Try.func16 (by kernel_rfl) rfl #[.int .i64 t553, .string (((⟨#[40]⟩ : ByteArray) ++ t554) ++ (⟨#[41]⟩ : ByteArray))] rfl pwk_ ?_; (with_reducible refine (impl_ReadTerm.calls kj5 t553 (((⟨#[40]⟩ : ByteArray) ++ t554) ++ (⟨#[41]⟩ : ByteArray)) t564 t565 _ A20.out).mono ?_); rintro e w33 ⟨v566, rfl, ho0, hb⟩; refine ⟨_, rfl, ?_⟩; have n0_ := Aside0.mk (Kd.R_elder' pwc_ (Kd.R_base ho0) hb); have n1_ := Aside0.mk (Kd.R_lower (Kd.R_new' ho0 (Kd.R_lt pwc_)) (below_size pwi_)); have n2_ := Aside0.mk (below_step pwi_ hb); clear HO_5; clear HB; have HO_5 := n0_; have HO567 := n1_; have HB := n2_; clear n0_ n1_ n2_; (try clear hb); (try clear hb2); (try clear hk); (try clear hi); (try clear ho0); obtain ⟨Ao34, co34, eo34⟩ := Kd.R_slice HO_5.out; subst eo34) | ((with_reducible refine gate_callee (f := 20) rfl ?_); refine goesL_ (some 58) rfl rfl Try.func20 (by kernel_rfl) rfl #[.int .i64 t553, .slice Ao34 t555.length co34] rfl pwk_ ?_; (with_reducible refine (impl_TermText.calls kj5 t553 _ _ t555 t568 _ ?side1 ?side2 A21.out).mono ?_); (case side1 => repeat (first | exact (Kd.R_reads' HO_5.out).2.2 | (with_reducible refine Kd.C_alloc ?_ _) | (with_reducible refine Kd.C_drewN ?_ _) | (with_reducible refine Kd.C_drew ?_))); (case side2 => exact (Kd.R_reads' HO_5.out).2.1); rintro e w35 ⟨rfl, hb⟩; refine ⟨_, rfl, ?_⟩; have n0_ := Aside0.mk (Kd.R_below pwc_ hb); have n1_ := Aside0.mk (Kd.R_below (by (with_reducible repeat apply Kd.R_alloc); exact HO567.out) hb); have n2_ := Aside0.mk (below_step pwi_ hb); clear HO_5; clear HO567; clear HB; have HO_5 := n0_; have HO567 := n1_; have HB := n2_; clear n0_ n1_ n2_; (try clear hb); (try clear hb2); (try clear hk); (try clear hi)))
         go_ret
         exact ⟨by first | rfl | (simp [errW_none, errW_some] <;> rfl) | (simp [*, errW_none, errW_some] <;> rfl), pwi_⟩
       ·rw [if_neg c19] at H
        exact absurd H (by simp)
      ·rw [if_neg c18] at H
       exact absurd H (by simp)
     ·replace c17 := Bool.eq_false_iff.mpr c17
      subst c17
      have H1 : (if (t555.length : Int) = 0 then ((laws_alive.f).bind fun t570 => (some t570)) else (some false)) = some r := by rw [if_neg (show ¬ (false = true) by decide)] at H; exact H
      clear H
      have H := H1
      clear H1
      by_cases c36 : (t555.length : Int) = 0
      ·rw [if_pos c36] at H
       have c36b0 : ((t555.length : Int) == 0) = true := beq_iff_eq.mpr c36
       have c36b1 : ((t555.length : Int) != 0) = false := bne_eq_false_iff_eq.mpr c36
       clear c36
       replace H := Option.bind_eq_some_iff.mp H
       obtain ⟨t570, A370, H⟩ := H
       replace H : (some t570) = some r := H
       have A37 := Aside0.mk A370
       clear A370
       obtain rfl := Option.some.inj H
       obtain ⟨Ao38, co38, eo38⟩ := Kd.R_slice HO_5.out
       subst eo38
       go_wp2_with (first | (go_at_call 19; (with_reducible refine (laws_alive.calls  t570 _ A37.out).mono ?_); rintro e w' ⟨rfl, ⟨nd, rfl⟩⟩))
       go_ret
       exact ⟨by first | rfl | (simp [errW_none, errW_some] <;> rfl) | (simp [*, errW_none, errW_some] <;> rfl), pwi_⟩
      ·rw [if_neg c36] at H
       have c36b0 : ((t555.length : Int) == 0) = false := beq_eq_false_iff_ne.mpr c36
       have c36b1 : ((t555.length : Int) != 0) = true := bne_iff_ne.mpr c36
       have c36b2 : ¬ (t555 = []) := fun h_ => c36 (by rw [h_]; rfl)
       obtain rfl := Option.some.inj H
       obtain ⟨Ao39, co39, eo39⟩ := Kd.R_slice HO_5.out
       subst eo39
       go_wp2
       go_ret
       exact ⟨by first | rfl | (simp [errW_none, errW_some] <;> rfl) | (simp [*, errW_none, errW_some] <;> rfl), pwi_⟩

/-- THE ONE PURE STATEMENT of laws_FnReadTerm: yours. -/
def laws_FnReadTerm.Pure : Prop := ∀ (l0 : List Int), l0.length ≤ maxLen → l0.length * 1 ≤ 140737488351232 → (∀ x ∈ l0, (Lit.int .u8 x).wf = true) → ∃ k, laws_FnReadTerm.f k l0 = some true
theorem laws_FnReadTerm.walk (P : laws_FnReadTerm.Pure) (a0 : Option Addr) (len0 cap0 : Nat) (z0 : List Int) (w : World) (w0 : (a0 = none ∧ len0 = 0 ∧ cap0 = 0 ∧ z0 = []) ∨ ∃ x, a0 = some x ∧ len0 ≤ cap0 ∧ cap0 ≤ maxLen ∧ z0.length = cap0 ∧ (∀ i, i < z0.length → w.cell? (x.add i) = some (.int .u8 (z0.getD i 0))) ∧ ∀ n ∈ z0, (Lit.int .u8 n).wf = true) (y0 : len0 * 1 ≤ 140737488351232) :
  Calls Try.prog 3 #[.slice a0 len0 cap0] w fun e w' => e = .returned (.bool true) ∧ Below w.heap.size w w' := by
 obtain ⟨l0, rfl, hr0, hm0, hw0, hc0⟩ := ReadsInt.ofRowC w0
 obtain ⟨k, h⟩ := P l0 hm0 y0 hw0
 refine (laws_FnReadTerm.calls k _ _ l0 true w (Kd.C_of_reads (d := (0 : Int)) (h1 := fun _ => rfl) hr0) hc0 h).mono ?_
 rintro e w' ⟨rfl, hd⟩
 exact ⟨rfl, hd⟩

end Go.Proofs.Ytfhmafmfaoknlaa.PFnReadTerm
