-- Made by a program of this session (wip/tools/patchprint.py), not by the kit itself.
import Derived.Test.YtfhmafmfaoknlaaPFnExactDenyClaimx0
import Derived.Test.YtfhmafmfaoknlaaPFnExactDenyClaimx1
import Derived.Test.YtfhmafmfaoknlaaPFnExactDenyClaimx2
namespace Go.Proofs.Ytfhmafmfaoknlaa.PFnExactDenyClaim
open Go.RowKit Go.Proofs.YtfhmafmfaoknlaaW.PrintWords Go.Proofs.YtfhmafmfaoknlaaW.PrintLast Go.Proofs.YtfhmafmfaoknlaaW.PrintMore
attribute [local go_sem] max2_int min2_int max_two min_two max_three min_three max_four min_four   -- for this text's walks alone
set_option linter.unusedVariables false
set_option linter.unusedSimpArgs false

attribute [local go_sem] setCell_isSome
attribute [local go_sem high] eqA62
/-! ### laws_markClaim: function 36 -/
def laws_markClaim.f (k : Nat) (a0_0 : Int) (l0_1 : List (S62)) (a1 : Int) : Option (Int × (List (S62))) := (laws_markMarkS.f k l0_1 a1).bind fun bt130 => (some (bt130.1, bt130.2))
theorem laws_markClaim.mono : ∀ a0 a1 a2 k, LeO (laws_markClaim.f k a0 a1 a2) (laws_markClaim.f (k + 1) a0 a1 a2) := by
 intro a0 a1 a2 k
 unfold laws_markClaim.f
 repeat' first
   | (with_reducible exact laws_markMarkS.mono _ _ _)
   | (with_reducible exact LeO.refl _)
   | (with_reducible exact LeO.none _)
   | (with_reducible refine LeO.ite ?_ ?_)
   | (with_reducible refine LeO.bind ?_ (fun _ => ?_))
   | exact laws_markMarkS.mono _ _ _
   | exact LeO.none _
   | refine LeO.ite ?_ ?_
   | refine LeO.bind ?_ (fun _ => ?_)
set_option maxHeartbeats 8000000 in
set_option maxRecDepth 100000 in
theorem laws_markClaim.calls (k : Nat) (a0_0 : Int) (P0_1_ : Nat → Prop) (u9000_ : Value) (l0_1 : List (S62)) (a1 : Int) (r1 : Int) (r2 : List (S62)) (w0 w : World) (hB : Below w0.heap.size w0 w) (ho0_1 : Kd.R k62 62 w w0.heap.size P0_1_ u9000_ l0_1) (h : laws_markClaim.f k a0_0 l0_1 a1 = some (r1, r2)) :
  Calls Try.prog 36 #[.agg #[.int .i64 a0_0, u9000_], .int .i64 a1] w fun e w' => e = .returned (.int .i64 r1) ∧ Kd.R k62 62 w' w0.heap.size (fun k_ => (P0_1_ k_ ∨ w.heap.size ≤ k_)) u9000_ r2 ∧ Below w0.heap.size w0 w' ∧ Kept w w' (fun k_ => P0_1_ k_) := by
 have hu47 := Try.underlying47
 have HO0_1 := Aside0.mk (show Kd.R k62 62 w w0.heap.size (fun k_ => (P0_1_ k_ ∨ w.heap.size ≤ k_)) u9000_ l0_1 from Kd.R_mono ho0_1 (fun k_ hk => (.inl hk)))
 have HK := Aside0.mk (Kept.refl w (fun k_ => P0_1_ k_))
 have HW0 := Aside0.mk hB.size
 have HB := Aside0.mk hB
 clear hB
 have H : ((laws_markMarkS.f k l0_1 a1).bind fun bt130 => (some (bt130.1, bt130.2))) = some (r1, r2) := h
 clear h
 replace H := Option.bind_eq_some_iff.mp H
 obtain ⟨⟨t130, t131⟩, A30, H⟩ := H
 replace H : (some (t130, t131)) = some (r1, r2) := H
 have A3 := Aside0.mk A30
 clear A30
 simp only [Option.some.injEq, Prod.mk.injEq] at H
 obtain ⟨rfl, rfl⟩ := H
 obtain ⟨Ao4, co4, eo4⟩ := Kd.R_slice HO0_1.out
 subst eo4
 go_enter Try.func36, Try.ntmps36
 go_wp2_with (first | ((with_reducible refine gate_dst (N := 2) rfl ?_); refine box_event ?hg (N := 2) ?hd (cs := #[.int .i64 a0_0, .slice Ao4 l0_1.length co4]) (t := 47) ?hr ?_; (case hd => rfl); (case hg => rfl); (case hr => first | (go_simp; done) | (go_simp; rfl)); intro gb129 hg w5 hbox hb; have n0_ := Aside0.mk (Kd.R_below (by (with_reducible repeat apply Kd.R_alloc); exact HO0_1.out) hb); have n1_ := Aside0.mk (Kept.below (S := (fun k_ => P0_1_ k_)) pww_ hb); have n2_ := Aside0.mk (below_step pwx_ hb); have n3_ := Aside0.mk (hbox); have n4_ := Aside0.mk ((by rw [hg]; exact (by first | exact HK.out.1 | exact (show Kept w _ (fun k_ => P0_1_ k_) from by repeat (first | (with_reducible first | exact HK.out | apply Kept.alloc | apply Kept.drewN | apply Kept.drew) | exact HK.out)).1) : w.heap.size ≤ gb129)); have n5_ := Aside0.mk ((by rw [hg]; exact (below_size pwx_) : w0.heap.size ≤ gb129)); clear HO0_1; clear HK; clear HB; have HO0_1 := n0_; have HK := n1_; have HB := n2_; have BK129 := n3_; have GW129 := n4_; have GE129 := n5_; clear n0_ n1_ n2_ n3_ n4_ n5_; clear hb hbox hg; have hcz6_0 : w5.cell? ⟨gb129, 0, none⟩ = some (.int .i64 a0_0) := (blk_cell BK129.out 0).trans rfl; have hcz6_1 : w5.cell? ⟨gb129, 1, none⟩ = some (.slice Ao4 l0_1.length co4) := (blk_cell BK129.out 1).trans rfl; have hfz6_0 := blk_frozen BK129.out 0; have hfz6_1 := blk_frozen BK129.out 1) | ((with_reducible refine gate_callee (f := 29) rfl ?_); refine goesL_ (some 8) rfl rfl Try.func29 (by kernel_rfl) rfl #[.slice Ao4 l0_1.length co4, .int .i64 a1] rfl pwy_ ?_; (with_reducible refine (laws_markMarkS.calls k (fun k_ => some k_ = (.slice Ao4 l0_1.length co4 : Value).ownBlock) (.slice Ao4 l0_1.length co4) l0_1 a1 t130 t131 w0 _ ?side1 ?side2 A3.out).mono ?_); (case side1 => repeat (first | (with_reducible first | exact HB.out | apply below_alloc | apply pw_below_drewN | apply below_drew1 | refine below_set ?_ GE129.out) | exact HB.out)); (case side2 => exact Kd.R_tight rfl HO0_1.out); rintro e w7 ⟨rfl, hy0, hb, hkp⟩; refine ⟨_, rfl, ?_⟩; have n0_ := Aside0.mk (Kd.R_reok rfl hy0 (fun k_ e_ => HO0_1.out.1 k_ e_)); have n1_ := Aside0.mk (blk_kept (by (with_reducible repeat (first | refine blk_drewN ?_ _ | refine blk_drew ?_ | refine blk_alloc ?_ _)); exact BK129.out) hkp (fun hs_ => (fun e_ => (Kd.R_ne HO0_1.out BK129.out (by decide)) e_) hs_)); have n2_ := Aside0.mk (Kept.then_ (S := (fun k_ => P0_1_ k_)) (by repeat (first | (with_reducible first | exact HK.out | apply Kept.alloc | apply Kept.drewN | apply Kept.drew | refine Kept.setCell ?_ (.inr GW129.out) _) | exact HK.out)) hkp (fun k_ hs_ => (fun e_ => (HO0_1.out.1 k_ e_.symm)) hs_)); have n3_ := Aside0.mk (hb); clear HO0_1; clear BK129; clear HK; clear HB; have HO0_1 := n0_; have BK129 := n1_; have HK := n2_; have HB := n3_; clear n0_ n1_ n2_ n3_; (try clear hb); (try clear hkp); (try clear hy0)))
 go_ret
 exact ⟨by first | rfl | (simp [errW_none, errW_some] <;> rfl) | (simp [*, errW_none, errW_some] <;> rfl), by (with_reducible repeat apply Kd.R_alloc); exact HO0_1.out, by repeat (first | (with_reducible first | exact HB.out | apply below_alloc | apply pw_below_drewN | apply below_drew1 | refine below_set ?_ GE129.out) | exact HB.out), by repeat (first | (with_reducible first | exact HK.out | apply Kept.alloc | apply Kept.drewN | apply Kept.drew | refine Kept.setCell ?_ (.inr GW129.out) _) | exact HK.out)⟩

/-! ### spec_l1In: function 73 -/
def spec_l1In.f (a0 : Int) (a1 : Int) (a2 : Int) : Option (Bool) := if a0 ≥ a1 then (some (decide (a0 ≤ a2))) else (some false)
set_option maxHeartbeats 8000000 in
set_option maxRecDepth 100000 in
theorem spec_l1In.calls (a0 : Int) (a1 : Int) (a2 : Int) (r : Bool) (w : World) (h : spec_l1In.f a0 a1 a2 = some r) :
  Calls Try.prog 73 #[.int .i64 a0, .int .i64 a1, .int .i64 a2] w fun e w' => e = .returned (.bool r) ∧ Drawn0 w w' := by
 have H : (if a0 ≥ a1 then (some (decide (a0 ≤ a2))) else (some false)) = some r := h
 clear h
 by_cases c4 : a0 ≥ a1
 ·rw [if_pos c4] at H
  have c4b0 : decide (a1 ≤ a0) = true := decide_eq_true c4
  clear c4
  obtain rfl := Option.some.inj H
  go_enter Try.func73, Try.ntmps73
  go_wp2
  go_ret
  exact ⟨pwa_, by repeat (first | exact Drawn0.refl _ | apply Drawn0.step)⟩
 ·rw [if_neg c4] at H
  have c4b0 : decide (a1 ≤ a0) = false := decide_eq_false c4
  clear c4
  obtain rfl := Option.some.inj H
  go_enter Try.func73, Try.ntmps73
  go_wp2
  go_ret
  exact ⟨pwa_, by repeat (first | exact Drawn0.refl _ | apply Drawn0.step)⟩

/-! ### spec_TermOk: function 65 -/
mutual
def spec_TermOk.l0 : Nat → Int → List (S62) → Int → Int → Option (Bool)
 | 0, _, _, _, _ => none
 | k + 1, x0, x1, x5, x6 => if x6 < (x1.length : Int) then (if 0 ≤ x6 then (if ((rd_T62 x1 x6).f0) = 0 then (if ((rd_T62 x1 x6).f1) ≥ 0 then (spec_TermOk.j1 k x0 x1 x5 x6 (decide (((rd_T62 x1 x6).f1) < x0))) else (spec_TermOk.j1 k x0 x1 x5 x6 false)) else (spec_TermOk.j1 k x0 x1 x5 x6 false)) else (none)) else ((spec_l1In.f x0 1 4).bind fun t132 => (if t132 = true then (if x5 = 1 then (some (decide ((x1.length : Int) ≤ 15))) else (some false)) else (some false)))
def spec_TermOk.j1 : Nat → Int → List (S62) → Int → Int → Bool → Option (Bool)
 | 0, _, _, _, _, _ => none
 | k + 1, x0, x1, x5, x6, x13 => if x13 = true then (spec_TermOk.l0 k x0 x1 (wrap64 (x5 + 1)) (wrap64 (x6 + 1))) else (if 0 ≤ x6 then (if x6 < (x1.length : Int) then (if ((rd_T62 x1 x6).f0) = 1 then (if ((rd_T62 x1 x6).f1) ≥ 0 then (if ((rd_T62 x1 x6).f1) ≤ x0 then (spec_TermOk.j2 k x0 x1 x5 x6 true) else (spec_TermOk.j2 k x0 x1 x5 x6 ((wrap64 (((rd_T62 x1 x6).f1) - 1)) == x0))) else (spec_TermOk.j2 k x0 x1 x5 x6 false)) else (spec_TermOk.j2 k x0 x1 x5 x6 false)) else (none)) else (none))
def spec_TermOk.j2 : Nat → Int → List (S62) → Int → Int → Bool → Option (Bool)
 | 0, _, _, _, _, _ => none
 | k + 1, x0, x1, x5, x6, x39 => if x39 = true then (spec_TermOk.l0 k x0 x1 (wrap64 (x5 + 1)) (wrap64 (x6 + 1))) else (if 0 ≤ x6 then (if x6 < (x1.length : Int) then (if (((rd_T62 x1 x6).f0) == 2 && (((rd_T62 x1 x6).f1) == 0)) = true then (spec_TermOk.j3 k x0 x1 x5 x6 (decide (x5 ≥ 1))) else (spec_TermOk.j3 k x0 x1 x5 x6 false)) else (none)) else (none))
def spec_TermOk.j3 : Nat → Int → List (S62) → Int → Int → Bool → Option (Bool)
 | 0, _, _, _, _, _ => none
 | k + 1, x0, x1, x5, x6, x75 => if x75 = true then (spec_TermOk.l0 k x0 x1 x5 (wrap64 (x6 + 1))) else (if 0 ≤ x6 then (if x6 < (x1.length : Int) then ((spec_l1In.f ((rd_T62 x1 x6).f0) 3 5).bind fun t142 => (if t142 = true then (if ((rd_T62 x1 x6).f1) = 0 then (if x5 ≥ 2 then (spec_TermOk.l0 k x0 x1 (wrap64 (x5 - 1)) (wrap64 (x6 + 1))) else (some false)) else (some false)) else (some false))) else (none)) else (none))
end
def spec_TermOk.f (k : Nat) (a0 : Int) (l1 : List (S62)) : Option (Bool) := spec_TermOk.l0 k a0 l1 0 0
theorem spec_TermOk.mono_l : ∀ k, (∀ y0 y1 y2 y3, LeO (spec_TermOk.l0 k y0 y1 y2 y3) (spec_TermOk.l0 (k + 1) y0 y1 y2 y3)) ∧ (∀ y0 y1 y2 y3 y4, LeO (spec_TermOk.j1 k y0 y1 y2 y3 y4) (spec_TermOk.j1 (k + 1) y0 y1 y2 y3 y4)) ∧ (∀ y0 y1 y2 y3 y4, LeO (spec_TermOk.j2 k y0 y1 y2 y3 y4) (spec_TermOk.j2 (k + 1) y0 y1 y2 y3 y4)) ∧ (∀ y0 y1 y2 y3 y4, LeO (spec_TermOk.j3 k y0 y1 y2 y3 y4) (spec_TermOk.j3 (k + 1) y0 y1 y2 y3 y4))
 | 0 => ⟨fun _ _ _ _ r h => by simp [spec_TermOk.l0] at h, fun _ _ _ _ _ r h => by simp [spec_TermOk.j1] at h, fun _ _ _ _ _ r h => by simp [spec_TermOk.j2] at h, fun _ _ _ _ _ r h => by simp [spec_TermOk.j3] at h⟩
 | k + 1 => by
  obtain ⟨ih0, ih1, ih2, ih3⟩ := spec_TermOk.mono_l k
  refine ⟨?_, ?_, ?_, ?_⟩
  ·intro y0 y1 y2 y3
   unfold spec_TermOk.l0
   repeat' first
   | (with_reducible exact ih0 _ _ _ _)
   | (with_reducible exact ih1 _ _ _ _ _)
   | (with_reducible exact ih2 _ _ _ _ _)
   | (with_reducible exact ih3 _ _ _ _ _)
   | (with_reducible exact LeO.refl _)
   | (with_reducible exact LeO.none _)
   | (with_reducible refine LeO.ite ?_ ?_)
   | (with_reducible refine LeO.bind ?_ (fun _ => ?_))
   | exact ih0 _ _ _ _
   | exact ih1 _ _ _ _ _
   | exact ih2 _ _ _ _ _
   | exact ih3 _ _ _ _ _
   | exact LeO.none _
   | refine LeO.ite ?_ ?_
   | refine LeO.bind ?_ (fun _ => ?_)
  ·intro y0 y1 y2 y3 y4
   unfold spec_TermOk.j1
   repeat' first
   | (with_reducible exact ih0 _ _ _ _)
   | (with_reducible exact ih1 _ _ _ _ _)
   | (with_reducible exact ih2 _ _ _ _ _)
   | (with_reducible exact ih3 _ _ _ _ _)
   | (with_reducible exact LeO.refl _)
   | (with_reducible exact LeO.none _)
   | (with_reducible refine LeO.ite ?_ ?_)
   | (with_reducible refine LeO.bind ?_ (fun _ => ?_))
   | exact ih0 _ _ _ _
   | exact ih1 _ _ _ _ _
   | exact ih2 _ _ _ _ _
   | exact ih3 _ _ _ _ _
   | exact LeO.none _
   | refine LeO.ite ?_ ?_
   | refine LeO.bind ?_ (fun _ => ?_)
  ·intro y0 y1 y2 y3 y4
   unfold spec_TermOk.j2
   repeat' first
   | (with_reducible exact ih0 _ _ _ _)
   | (with_reducible exact ih1 _ _ _ _ _)
   | (with_reducible exact ih2 _ _ _ _ _)
   | (with_reducible exact ih3 _ _ _ _ _)
   | (with_reducible exact LeO.refl _)
   | (with_reducible exact LeO.none _)
   | (with_reducible refine LeO.ite ?_ ?_)
   | (with_reducible refine LeO.bind ?_ (fun _ => ?_))
   | exact ih0 _ _ _ _
   | exact ih1 _ _ _ _ _
   | exact ih2 _ _ _ _ _
   | exact ih3 _ _ _ _ _
   | exact LeO.none _
   | refine LeO.ite ?_ ?_
   | refine LeO.bind ?_ (fun _ => ?_)
  ·intro y0 y1 y2 y3 y4
   unfold spec_TermOk.j3
   repeat' first
   | (with_reducible exact ih0 _ _ _ _)
   | (with_reducible exact ih1 _ _ _ _ _)
   | (with_reducible exact ih2 _ _ _ _ _)
   | (with_reducible exact ih3 _ _ _ _ _)
   | (with_reducible exact LeO.refl _)
   | (with_reducible exact LeO.none _)
   | (with_reducible refine LeO.ite ?_ ?_)
   | (with_reducible refine LeO.bind ?_ (fun _ => ?_))
   | exact ih0 _ _ _ _
   | exact ih1 _ _ _ _ _
   | exact ih2 _ _ _ _ _
   | exact ih3 _ _ _ _ _
   | exact LeO.none _
   | refine LeO.ite ?_ ?_
   | refine LeO.bind ?_ (fun _ => ?_)
theorem spec_TermOk.mono : ∀ a0 a1 k, LeO (spec_TermOk.f k a0 a1) (spec_TermOk.f (k + 1) a0 a1) := by
 intro a0 a1 k
 obtain ⟨ih0, ih1, ih2, ih3⟩ := spec_TermOk.mono_l k
 unfold spec_TermOk.f
 repeat' first
   | (with_reducible exact ih0 _ _ _ _)
   | (with_reducible exact ih1 _ _ _ _ _)
   | (with_reducible exact ih2 _ _ _ _ _)
   | (with_reducible exact ih3 _ _ _ _ _)
   | (with_reducible exact LeO.refl _)
   | (with_reducible exact LeO.none _)
   | (with_reducible refine LeO.ite ?_ ?_)
   | (with_reducible refine LeO.bind ?_ (fun _ => ?_))
   | exact ih0 _ _ _ _
   | exact ih1 _ _ _ _ _
   | exact ih2 _ _ _ _ _
   | exact ih3 _ _ _ _ _
   | exact LeO.none _
   | refine LeO.ite ?_ ?_
   | refine LeO.bind ?_ (fun _ => ?_)
set_option maxHeartbeats 8000000 in
set_option maxRecDepth 100000 in
theorem spec_TermOk.calls (k : Nat) (a0 : Int) (A1 : Option Addr) (c1 : Nat) (l1 : List (S62)) (r : Bool) (w : World) (hr1 : Kd.C k62 w A1 l1.length l1) (hc1 : l1.length ≤ c1) (h : spec_TermOk.f k a0 l1 = some r) :
  Calls Try.prog 65 #[.int .i64 a0, .slice A1 l1.length c1] w fun e w' => e = .returned (.bool r) ∧ Drawn0 w w' := by
 have hu62 := Try.underlying62
 have HR1 := Aside0.mk hr1
 have HC1 := Aside0.mk hc1
 clear hr1 hc1
 have H : (spec_TermOk.l0 k a0 l1 0 0) = some r := h
 clear h
 have H' := Aside0.mk H
 clear H
 go_enter Try.func65, Try.ntmps65
 go_wp2
 go_loopg [5, 6] k (fun kq v5 v6 w' => ∃ (x5_1 : Int) (x6_1 : Int), v5 = .int .i64 x5_1 ∧ v6 = .int .i64 x6_1 ∧ Aside0 (spec_TermOk.l0 kq a0 l1 x5_1 x6_1 = some r) ∧ Aside0 (kq ≤ k) ∧ Drawn0 w w')
 case atStart => exact ⟨(0), (0), pwa_, pwa_, H', ⟨Nat.le_refl _⟩, by repeat (first | exact Drawn0.refl _ | apply Drawn0.step)⟩
 case round =>
  clear H'
  try clear c1
  try clear p2
  obtain ⟨x5_1, x6_1, rfl, rfl, HA, HK1, ⟨m1, rfl⟩⟩ := hrel
  cases gk with
  | zero => exact absurd HA.out (by simp [spec_TermOk.l0])
  | succ k1 =>
   have H := HA.out
   clear HA
   simp only [spec_TermOk.l0] at H
   by_cases c3 : x6_1 < (l1.length : Int)
   ·rw [if_pos c3] at H
    have c3b0 : decide (x6_1 < (l1.length : Int)) = true := decide_eq_true c3
    clear c3
    have HC4 := Aside0.mk H
    clear H
    go_upto_region 6 with (fail)
    go_cut [13] (fun v13 wc => ∃ (kq : Nat) (x13_3 : Bool), v13 = .bool x13_3 ∧ Aside0 (spec_TermOk.j1 kq a0 l1 x5_1 x6_1 x13_3 = some r) ∧ Aside0 (kq ≤ k1) ∧ Drawn0 w wc)
    case first =>
     have H := HC4.out
     clear HC4
     by_cases c5 : 0 ≤ x6_1
     ·rw [if_pos c5] at H
      have c5b0 : decide (0 ≤ x6_1) = true := decide_eq_true c5
      clear c5
      (first | rw [c5b0] | (simp only [i64_w, i32_w]; rw [c5b0]) | skip)
      by_cases c6 : ((rd_T62 l1 x6_1).f0) = 0
      ·rw [if_pos c6] at H
       have c6b0 : (((rd_T62 l1 x6_1).f0) == 0) = true := beq_iff_eq.mpr c6
       have c6b1 : (((rd_T62 l1 x6_1).f0) != 0) = false := bne_eq_false_iff_eq.mpr c6
       clear c6
       by_cases c7 : ((rd_T62 l1 x6_1).f1) ≥ 0
       ·rw [if_pos c7] at H
        have c7b0 : decide (0 ≤ ((rd_T62 l1 x6_1).f1)) = true := decide_eq_true c7
        clear c7
        have H' := Aside0.mk H
        clear H
        have p133 : 0 ≤ (x6_1 : Int) := of_decide_eq_true pwb_
        have q133 : x6_1 < (l1.length : Int) := of_decide_eq_true pwb_
        obtain ⟨ad133, e133, hx133_0, hx133_1⟩ := at_T62 HR1.out x6_1 p133 q133
        cases e133
        replace p133 := eq_true p133
        replace q133 := eq_true q133
        have p134 : 0 ≤ (x6_1 : Int) := of_decide_eq_true pwb_
        have q134 : x6_1 < (l1.length : Int) := of_decide_eq_true pwb_
        obtain ⟨ad134, e134, hx134_0, hx134_1⟩ := at_T62 HR1.out x6_1 p134 q134
        obtain rfl : ad133 = ad134 := (by injection e134)
        replace p134 := eq_true p134
        replace q134 := eq_true q134
        have p135 : 0 ≤ (x6_1 : Int) := of_decide_eq_true pwb_
        have q135 : x6_1 < (l1.length : Int) := of_decide_eq_true pwb_
        obtain ⟨ad135, e135, hx135_0, hx135_1⟩ := at_T62 HR1.out x6_1 p135 q135
        obtain rfl : ad133 = ad135 := (by injection e135)
        replace p135 := eq_true p135
        replace q135 := eq_true q135
        go_wp2
        go_meet
        case rel => exact ⟨_, (decide (((rd_T62 l1 x6_1).f1) < a0)), pwa_, H', ⟨by have := HK1.out; first | omega | exact Nat.le_refl _⟩, by repeat (first | exact Drawn0.refl _ | apply Drawn0.step)⟩
       ·rw [if_neg c7] at H
        have c7b0 : decide (0 ≤ ((rd_T62 l1 x6_1).f1)) = false := decide_eq_false c7
        clear c7
        have H' := Aside0.mk H
        clear H
        have p133 : 0 ≤ (x6_1 : Int) := of_decide_eq_true pwb_
        have q133 : x6_1 < (l1.length : Int) := of_decide_eq_true pwb_
        obtain ⟨ad133, e133, hx133_0, hx133_1⟩ := at_T62 HR1.out x6_1 p133 q133
        cases e133
        replace p133 := eq_true p133
        replace q133 := eq_true q133
        have p134 : 0 ≤ (x6_1 : Int) := of_decide_eq_true pwb_
        have q134 : x6_1 < (l1.length : Int) := of_decide_eq_true pwb_
        obtain ⟨ad134, e134, hx134_0, hx134_1⟩ := at_T62 HR1.out x6_1 p134 q134
        obtain rfl : ad133 = ad134 := (by injection e134)
        replace p134 := eq_true p134
        replace q134 := eq_true q134
        go_wp2
        go_meet
        case rel => exact ⟨_, (false), pwa_, H', ⟨by have := HK1.out; first | omega | exact Nat.le_refl _⟩, by repeat (first | exact Drawn0.refl _ | apply Drawn0.step)⟩
      ·rw [if_neg c6] at H
       have c6b0 : (((rd_T62 l1 x6_1).f0) == 0) = false := beq_eq_false_iff_ne.mpr c6
       have c6b1 : (((rd_T62 l1 x6_1).f0) != 0) = true := bne_iff_ne.mpr c6
       have H' := Aside0.mk H
       clear H
       have p133 : 0 ≤ (x6_1 : Int) := of_decide_eq_true pwb_
       have q133 : x6_1 < (l1.length : Int) := of_decide_eq_true pwb_
       obtain ⟨ad133, e133, hx133_0, hx133_1⟩ := at_T62 HR1.out x6_1 p133 q133
       cases e133
       replace p133 := eq_true p133
       replace q133 := eq_true q133
       go_wp2
       go_meet
       case rel => exact ⟨_, (false), pwa_, H', ⟨by have := HK1.out; first | omega | exact Nat.le_refl _⟩, by repeat (first | exact Drawn0.refl _ | apply Drawn0.step)⟩
     ·rw [if_neg c5] at H
      exact absurd H (by simp)
    case rest =>
     clear HC4
     try clear c1
     try clear p1
     try clear q1
     try clear hx1
     try clear p2
     try clear c3
     try clear c3b0
     try clear c5
     try clear c5b0
     try clear c6
     try clear c6b0
     try clear c6b1
     try clear c7
     try clear c7b0
     try clear hx133_0
     try clear hx133_1
     try clear hx134_0
     try clear hx134_1
     try clear hx135_0
     try clear hx135_1
     try clear p133
     try clear p134
     try clear p135
     try clear p2
     try clear q133
     try clear q134
     try clear q135
     obtain ⟨kq, x13_3, rfl, HA, HJ3, ⟨mc3, rfl⟩⟩ := hcut
     cases kq with
     | zero => exact absurd HA.out (by simp [spec_TermOk.j1])
     | succ kj3 =>
      have H := HA.out
      clear HA
      simp only [spec_TermOk.j1] at H
      by_cases c8 : x13_3 = true
      ·subst c8
       have H1 : (spec_TermOk.l0 kj3 a0 l1 (wrap64 (x5_1 + 1)) (wrap64 (x6_1 + 1))) = some r := by rw [if_pos rfl] at H; exact H
       clear H
       have H := H1
       clear H1
       have H' := Aside0.mk H
       clear H
       go_wp2
       go_roundg kj3
       case measure => have := HK1.out; have := HJ3.out; omega
       case rel => exact ⟨(wrap64 (x5_1 + 1)), (wrap64 (x6_1 + 1)), pwa_, pwa_, H', ⟨by have := HK1.out; have := HJ3.out; omega⟩, by repeat (first | exact Drawn0.refl _ | apply Drawn0.step)⟩
      ·replace c8 := Bool.eq_false_iff.mpr c8
       subst c8
       have H1 : (if 0 ≤ x6_1 then (if x6_1 < (l1.length : Int) then (if ((rd_T62 l1 x6_1).f0) = 1 then (if ((rd_T62 l1 x6_1).f1) ≥ 0 then (if ((rd_T62 l1 x6_1).f1) ≤ a0 then (spec_TermOk.j2 kj3 a0 l1 x5_1 x6_1 true) else (spec_TermOk.j2 kj3 a0 l1 x5_1 x6_1 ((wrap64 (((rd_T62 l1 x6_1).f1) - 1)) == a0))) else (spec_TermOk.j2 kj3 a0 l1 x5_1 x6_1 false)) else (spec_TermOk.j2 kj3 a0 l1 x5_1 x6_1 false)) else (none)) else (none)) = some r := by rw [if_neg (show ¬ (false = true) by decide)] at H; exact H
       clear H
       have H := H1
       clear H1
       have HC9 := Aside0.mk H
       clear H
       go_upto_region 8 with (fail)
       go_cut [39] (fun v39 wc => ∃ (kq : Nat) (x39_8 : Bool), v39 = .bool x39_8 ∧ Aside0 (spec_TermOk.j2 kq a0 l1 x5_1 x6_1 x39_8 = some r) ∧ Aside0 (kq ≤ kj3) ∧ Drawn0 w wc)
       case first =>
        have H := HC9.out
        clear HC9
        by_cases c10 : 0 ≤ x6_1
        ·rw [if_pos c10] at H
         have c10b0 : decide (0 ≤ x6_1) = true := decide_eq_true c10
         clear c10
         (first | rw [c10b0] | (simp only [i64_w, i32_w]; rw [c10b0]) | skip)
         by_cases c11 : x6_1 < (l1.length : Int)
         ·rw [if_pos c11] at H
          have c11b0 : decide (x6_1 < (l1.length : Int)) = true := decide_eq_true c11
          clear c11
          by_cases c12 : ((rd_T62 l1 x6_1).f0) = 1
          ·rw [if_pos c12] at H
           have c12b0 : (((rd_T62 l1 x6_1).f0) == 1) = true := beq_iff_eq.mpr c12
           have c12b1 : (((rd_T62 l1 x6_1).f0) != 1) = false := bne_eq_false_iff_eq.mpr c12
           clear c12
           by_cases c13 : ((rd_T62 l1 x6_1).f1) ≥ 0
           ·rw [if_pos c13] at H
            have c13b0 : decide (0 ≤ ((rd_T62 l1 x6_1).f1)) = true := decide_eq_true c13
            clear c13
            by_cases c14 : ((rd_T62 l1 x6_1).f1) ≤ a0
            ·rw [if_pos c14] at H
             have c14b0 : decide (((rd_T62 l1 x6_1).f1) ≤ a0) = true := decide_eq_true c14
             clear c14
             have H' := Aside0.mk H
             clear H
             have p136 : 0 ≤ (x6_1 : Int) := of_decide_eq_true pwb_
             have q136 : x6_1 < (l1.length : Int) := of_decide_eq_true pwb_
             obtain ⟨ad136, e136, hx136_0, hx136_1⟩ := at_T62 HR1.out x6_1 p136 q136
             cases e136
             replace p136 := eq_true p136
             replace q136 := eq_true q136
             have p137 : 0 ≤ (x6_1 : Int) := of_decide_eq_true pwb_
             have q137 : x6_1 < (l1.length : Int) := of_decide_eq_true pwb_
             obtain ⟨ad137, e137, hx137_0, hx137_1⟩ := at_T62 HR1.out x6_1 p137 q137
             obtain rfl : ad136 = ad137 := (by injection e137)
             replace p137 := eq_true p137
             replace q137 := eq_true q137
             have p138 : 0 ≤ (x6_1 : Int) := of_decide_eq_true pwb_
             have q138 : x6_1 < (l1.length : Int) := of_decide_eq_true pwb_
             obtain ⟨ad138, e138, hx138_0, hx138_1⟩ := at_T62 HR1.out x6_1 p138 q138
             obtain rfl : ad136 = ad138 := (by injection e138)
             replace p138 := eq_true p138
             replace q138 := eq_true q138
             go_wp2
             go_meet
             case rel => exact ⟨_, (true), pwa_, H', ⟨by have := HK1.out; have := HJ3.out; first | omega | exact Nat.le_refl _⟩, by repeat (first | exact Drawn0.refl _ | apply Drawn0.step)⟩
            ·rw [if_neg c14] at H
             have c14b0 : decide (((rd_T62 l1 x6_1).f1) ≤ a0) = false := decide_eq_false c14
             clear c14
             have H' := Aside0.mk H
             clear H
             have p136 : 0 ≤ (x6_1 : Int) := of_decide_eq_true pwb_
             have q136 : x6_1 < (l1.length : Int) := of_decide_eq_true pwb_
             obtain ⟨ad136, e136, hx136_0, hx136_1⟩ := at_T62 HR1.out x6_1 p136 q136
             cases e136
             replace p136 := eq_true p136
             replace q136 := eq_true q136
             have p137 : 0 ≤ (x6_1 : Int) := of_decide_eq_true pwb_
             have q137 : x6_1 < (l1.length : Int) := of_decide_eq_true pwb_
             obtain ⟨ad137, e137, hx137_0, hx137_1⟩ := at_T62 HR1.out x6_1 p137 q137
             obtain rfl : ad136 = ad137 := (by injection e137)
             replace p137 := eq_true p137
             replace q137 := eq_true q137
             have p138 : 0 ≤ (x6_1 : Int) := of_decide_eq_true pwb_
             have q138 : x6_1 < (l1.length : Int) := of_decide_eq_true pwb_
             obtain ⟨ad138, e138, hx138_0, hx138_1⟩ := at_T62 HR1.out x6_1 p138 q138
             obtain rfl : ad136 = ad138 := (by injection e138)
             replace p138 := eq_true p138
             replace q138 := eq_true q138
             have p139 : 0 ≤ (x6_1 : Int) := of_decide_eq_true pwb_
             have q139 : x6_1 < (l1.length : Int) := of_decide_eq_true pwb_
             obtain ⟨ad139, e139, hx139_0, hx139_1⟩ := at_T62 HR1.out x6_1 p139 q139
             obtain rfl : ad136 = ad139 := (by injection e139)
             replace p139 := eq_true p139
             replace q139 := eq_true q139
             go_wp2
             go_meet
             case rel => exact ⟨_, (((wrap64 (((rd_T62 l1 x6_1).f1) - 1)) == a0)), pwa_, H', ⟨by have := HK1.out; have := HJ3.out; first | omega | exact Nat.le_refl _⟩, by repeat (first | exact Drawn0.refl _ | apply Drawn0.step)⟩
           ·rw [if_neg c13] at H
            have c13b0 : decide (0 ≤ ((rd_T62 l1 x6_1).f1)) = false := decide_eq_false c13
            clear c13
            have H' := Aside0.mk H
            clear H
            have p136 : 0 ≤ (x6_1 : Int) := of_decide_eq_true pwb_
            have q136 : x6_1 < (l1.length : Int) := of_decide_eq_true pwb_
            obtain ⟨ad136, e136, hx136_0, hx136_1⟩ := at_T62 HR1.out x6_1 p136 q136
            cases e136
            replace p136 := eq_true p136
            replace q136 := eq_true q136
            have p137 : 0 ≤ (x6_1 : Int) := of_decide_eq_true pwb_
            have q137 : x6_1 < (l1.length : Int) := of_decide_eq_true pwb_
            obtain ⟨ad137, e137, hx137_0, hx137_1⟩ := at_T62 HR1.out x6_1 p137 q137
            obtain rfl : ad136 = ad137 := (by injection e137)
            replace p137 := eq_true p137
            replace q137 := eq_true q137
            go_wp2
            go_meet
            case rel => exact ⟨_, (false), pwa_, H', ⟨by have := HK1.out; have := HJ3.out; first | omega | exact Nat.le_refl _⟩, by repeat (first | exact Drawn0.refl _ | apply Drawn0.step)⟩
          ·rw [if_neg c12] at H
           have c12b0 : (((rd_T62 l1 x6_1).f0) == 1) = false := beq_eq_false_iff_ne.mpr c12
           have c12b1 : (((rd_T62 l1 x6_1).f0) != 1) = true := bne_iff_ne.mpr c12
           have H' := Aside0.mk H
           clear H
           have p136 : 0 ≤ (x6_1 : Int) := of_decide_eq_true pwb_
           have q136 : x6_1 < (l1.length : Int) := of_decide_eq_true pwb_
           obtain ⟨ad136, e136, hx136_0, hx136_1⟩ := at_T62 HR1.out x6_1 p136 q136
           cases e136
           replace p136 := eq_true p136
           replace q136 := eq_true q136
           go_wp2
           go_meet
           case rel => exact ⟨_, (false), pwa_, H', ⟨by have := HK1.out; have := HJ3.out; first | omega | exact Nat.le_refl _⟩, by repeat (first | exact Drawn0.refl _ | apply Drawn0.step)⟩
         ·rw [if_neg c11] at H
          exact absurd H (by simp)
        ·rw [if_neg c10] at H
         exact absurd H (by simp)
       case rest =>
        clear HC9
        try clear c1
        try clear p1
        try clear q1
        try clear hx1
        try clear p2
        try clear c3
        try clear c3b0
        try clear c5
        try clear c5b0
        try clear c6
        try clear c6b0
        try clear c6b1
        try clear p6
        try clear c7
        try clear c7b0
        try clear c8
        try clear c10
        try clear c10b0
        try clear c11
        try clear c11b0
        try clear c12
        try clear c12b0
        try clear c12b1
        try clear c13
        try clear c13b0
        try clear p13
        try clear q13
        try clear hx13
        try clear c14
        try clear c14b0
        try clear hx133_0
        try clear hx133_1
        try clear hx134_0
        try clear hx134_1
        try clear hx135_0
        try clear hx135_1
        try clear hx136_0
        try clear hx136_1
        try clear hx137_0
        try clear hx137_1
        try clear hx138_0
        try clear hx138_1
        try clear hx139_0
        try clear hx139_1
        try clear p1
        try clear p133
        try clear p134
        try clear p135
        try clear p136
        try clear p137
        try clear p138
        try clear p139
        try clear p2
        try clear q1
        try clear q133
        try clear q134
        try clear q135
        try clear q136
        try clear q137
        try clear q138
        try clear q139
        obtain ⟨kq, x39_8, rfl, HA, HJ8, ⟨mc8, rfl⟩⟩ := hcut
        cases kq with
        | zero => exact absurd HA.out (by simp [spec_TermOk.j2])
        | succ kj8 =>
         have H := HA.out
         clear HA
         simp only [spec_TermOk.j2] at H
         by_cases c15 : x39_8 = true
         ·subst c15
          have H1 : (spec_TermOk.l0 kj8 a0 l1 (wrap64 (x5_1 + 1)) (wrap64 (x6_1 + 1))) = some r := by rw [if_pos rfl] at H; exact H
          clear H
          have H := H1
          clear H1
          have H' := Aside0.mk H
          clear H
          go_wp2
          go_roundg kj8
          case measure => have := HK1.out; have := HJ3.out; have := HJ8.out; omega
          case rel => exact ⟨(wrap64 (x5_1 + 1)), (wrap64 (x6_1 + 1)), pwa_, pwa_, H', ⟨by have := HK1.out; have := HJ3.out; have := HJ8.out; omega⟩, by repeat (first | exact Drawn0.refl _ | apply Drawn0.step)⟩
         ·replace c15 := Bool.eq_false_iff.mpr c15
          subst c15
          have H1 : (if 0 ≤ x6_1 then (if x6_1 < (l1.length : Int) then (if (((rd_T62 l1 x6_1).f0) == 2 && (((rd_T62 l1 x6_1).f1) == 0)) = true then (spec_TermOk.j3 kj8 a0 l1 x5_1 x6_1 (decide (x5_1 ≥ 1))) else (spec_TermOk.j3 kj8 a0 l1 x5_1 x6_1 false)) else (none)) else (none)) = some r := by rw [if_neg (show ¬ (false = true) by decide)] at H; exact H
          clear H
          have H := H1
          clear H1
          have HC16 := Aside0.mk H
          clear H
          go_upto_region 10 with (fail)
          go_cut [75] (fun v75 wc => ∃ (kq : Nat) (x75_15 : Bool), v75 = .bool x75_15 ∧ Aside0 (spec_TermOk.j3 kq a0 l1 x5_1 x6_1 x75_15 = some r) ∧ Aside0 (kq ≤ kj8) ∧ Drawn0 w wc)
          case first =>
           have H := HC16.out
           clear HC16
           by_cases c17 : 0 ≤ x6_1
           ·rw [if_pos c17] at H
            have c17b0 : decide (0 ≤ x6_1) = true := decide_eq_true c17
            clear c17
            (first | rw [c17b0] | (simp only [i64_w, i32_w]; rw [c17b0]) | skip)
            by_cases c18 : x6_1 < (l1.length : Int)
            ·rw [if_pos c18] at H
             have c18b0 : decide (x6_1 < (l1.length : Int)) = true := decide_eq_true c18
             clear c18
             by_cases c19 : (((rd_T62 l1 x6_1).f0) == 2 && (((rd_T62 l1 x6_1).f1) == 0)) = true
             ·rw [if_pos c19] at H
              have c19b0 : (((rd_T62 l1 x6_1).f0) == 2 && (((rd_T62 l1 x6_1).f1) == 0)) = true := c19
              (try (have c19b1 : decide (((rd_T62 l1 x6_1).f0) = 2 && (((rd_T62 l1 x6_1).f1) == 0)) = true := by simpa using c19))
              (try (have c19b2 : (((rd_T62 l1 x6_1).f0) == 2 && (((rd_T62 l1 x6_1).f1) == 0)) = true := by simpa using c19))
              clear c19
              have H' := Aside0.mk H
              clear H
              have p140 : 0 ≤ (x6_1 : Int) := of_decide_eq_true pwb_
              have q140 : x6_1 < (l1.length : Int) := of_decide_eq_true pwb_
              obtain ⟨ad140, e140, hx140_0, hx140_1⟩ := at_T62 HR1.out x6_1 p140 q140
              cases e140
              replace p140 := eq_true p140
              replace q140 := eq_true q140
              go_wp2
              go_meet
              case rel => exact ⟨_, (decide (x5_1 ≥ 1)), pwa_, H', ⟨by have := HK1.out; have := HJ3.out; have := HJ8.out; first | omega | exact Nat.le_refl _⟩, by repeat (first | exact Drawn0.refl _ | apply Drawn0.step)⟩
             ·rw [if_neg c19] at H
              have c19b0 : (((rd_T62 l1 x6_1).f0) == 2 && (((rd_T62 l1 x6_1).f1) == 0)) = false := by simpa using c19
              (try (have c19b1 : decide (((rd_T62 l1 x6_1).f0) = 2 && (((rd_T62 l1 x6_1).f1) == 0)) = false := by simpa using c19))
              (try (have c19b2 : (((rd_T62 l1 x6_1).f0) == 2 && (((rd_T62 l1 x6_1).f1) == 0)) = false := by simpa using c19))
              (try (have c19b3 : ¬ (((rd_T62 l1 x6_1).f0) = 2 && (((rd_T62 l1 x6_1).f1) == 0)) := by simpa using c19))
              clear c19
              have H' := Aside0.mk H
              clear H
              have p140 : 0 ≤ (x6_1 : Int) := of_decide_eq_true pwb_
              have q140 : x6_1 < (l1.length : Int) := of_decide_eq_true pwb_
              obtain ⟨ad140, e140, hx140_0, hx140_1⟩ := at_T62 HR1.out x6_1 p140 q140
              cases e140
              replace p140 := eq_true p140
              replace q140 := eq_true q140
              go_wp2
              go_meet
              case rel => exact ⟨_, (false), pwa_, H', ⟨by have := HK1.out; have := HJ3.out; have := HJ8.out; first | omega | exact Nat.le_refl _⟩, by repeat (first | exact Drawn0.refl _ | apply Drawn0.step)⟩
            ·rw [if_neg c18] at H
             exact absurd H (by simp)
           ·rw [if_neg c17] at H
            exact absurd H (by simp)
          case rest =>
           clear HC16
           try clear c1
           try clear p1
           try clear q1
           try clear hx1
           try clear p2
           try clear c3
           try clear c3b0
           try clear c5
           try clear c5b0
           try clear c6
           try clear c6b0
           try clear c6b1
           try clear p6
           try clear c7
           try clear c7b0
           try clear c8
           try clear c10
           try clear c10b0
           try clear c11
           try clear c11b0
           try clear c12
           try clear c12b0
           try clear c12b1
           try clear c13
           try clear c13b0
           try clear p13
           try clear q13
           try clear hx13
           try clear c14
           try clear c14b0
           try clear p14
           try clear q14
           try clear hx14
           try clear c15
           try clear c17
           try clear c17b0
           try clear c18
           try clear c18b0
           try clear c19
           try clear c19b0
           try clear c19b1
           try clear c19b2
           try clear hx133_0
           try clear hx133_1
           try clear hx134_0
           try clear hx134_1
           try clear hx135_0
           try clear hx135_1
           try clear hx136_0
           try clear hx136_1
           try clear hx137_0
           try clear hx137_1
           try clear hx138_0
           try clear hx138_1
           try clear hx139_0
           try clear hx139_1
           try clear hx140_0
           try clear hx140_1
           try clear p1
           try clear p13
           try clear p133
           try clear p134
           try clear p135
           try clear p136
           try clear p137
           try clear p138
           try clear p139
           try clear p140
           try clear p2
           try clear p6
           try clear q1
           try clear q13
           try clear q133
           try clear q134
           try clear q135
           try clear q136
           try clear q137
           try clear q138
           try clear q139
           try clear q140
           obtain ⟨kq, x75_15, rfl, HA, HJ15, ⟨mc15, rfl⟩⟩ := hcut
           cases kq with
           | zero => exact absurd HA.out (by simp [spec_TermOk.j3])
           | succ kj15 =>
            have H := HA.out
            clear HA
            simp only [spec_TermOk.j3] at H
            by_cases c20 : x75_15 = true
            ·subst c20
             have H1 : (spec_TermOk.l0 kj15 a0 l1 x5_1 (wrap64 (x6_1 + 1))) = some r := by rw [if_pos rfl] at H; exact H
             clear H
             have H := H1
             clear H1
             have H' := Aside0.mk H
             clear H
             go_wp2
             go_roundg kj15
             case measure => have := HK1.out; have := HJ3.out; have := HJ8.out; have := HJ15.out; omega
             case rel => exact ⟨(x5_1), (wrap64 (x6_1 + 1)), pwa_, pwa_, H', ⟨by have := HK1.out; have := HJ3.out; have := HJ8.out; have := HJ15.out; omega⟩, by repeat (first | exact Drawn0.refl _ | apply Drawn0.step)⟩
            ·replace c20 := Bool.eq_false_iff.mpr c20
             subst c20
             have H1 : (if 0 ≤ x6_1 then (if x6_1 < (l1.length : Int) then ((spec_l1In.f ((rd_T62 l1 x6_1).f0) 3 5).bind fun t142 => (if t142 = true then (if ((rd_T62 l1 x6_1).f1) = 0 then (if x5_1 ≥ 2 then (spec_TermOk.l0 kj15 a0 l1 (wrap64 (x5_1 - 1)) (wrap64 (x6_1 + 1))) else (some false)) else (some false)) else (some false))) else (none)) else (none)) = some r := by rw [if_neg (show ¬ (false = true) by decide)] at H; exact H
             clear H
             have H := H1
             clear H1
             by_cases c21 : 0 ≤ x6_1
             ·rw [if_pos c21] at H
              have c21b0 : decide (0 ≤ x6_1) = true := decide_eq_true c21
              clear c21
              by_cases c22 : x6_1 < (l1.length : Int)
              ·rw [if_pos c22] at H
               have c22b0 : decide (x6_1 < (l1.length : Int)) = true := decide_eq_true c22
               clear c22
               replace H := Option.bind_eq_some_iff.mp H
               obtain ⟨t142, A230, H⟩ := H
               replace H : (if t142 = true then (if ((rd_T62 l1 x6_1).f1) = 0 then (if x5_1 ≥ 2 then (spec_TermOk.l0 kj15 a0 l1 (wrap64 (x5_1 - 1)) (wrap64 (x6_1 + 1))) else (some false)) else (some false)) else (some false)) = some r := H
               have A23 := Aside0.mk A230
               clear A230
               by_cases c24 : t142 = true
               ·subst c24
                have H1 : (if ((rd_T62 l1 x6_1).f1) = 0 then (if x5_1 ≥ 2 then (spec_TermOk.l0 kj15 a0 l1 (wrap64 (x5_1 - 1)) (wrap64 (x6_1 + 1))) else (some false)) else (some false)) = some r := by rw [if_pos rfl] at H; exact H
                clear H
                have H := H1
                clear H1
                by_cases c25 : ((rd_T62 l1 x6_1).f1) = 0
                ·rw [if_pos c25] at H
                 have c25b0 : (((rd_T62 l1 x6_1).f1) == 0) = true := beq_iff_eq.mpr c25
                 have c25b1 : (((rd_T62 l1 x6_1).f1) != 0) = false := bne_eq_false_iff_eq.mpr c25
                 clear c25
                 by_cases c26 : x5_1 ≥ 2
                 ·rw [if_pos c26] at H
                  have c26b0 : decide (2 ≤ x5_1) = true := decide_eq_true c26
                  clear c26
                  have H' := Aside0.mk H
                  clear H
                  have p141 : 0 ≤ (x6_1 : Int) := of_decide_eq_true pwb_
                  have q141 : x6_1 < (l1.length : Int) := of_decide_eq_true pwb_
                  obtain ⟨ad141, e141, hx141_0, hx141_1⟩ := at_T62 HR1.out x6_1 p141 q141
                  cases e141
                  replace p141 := eq_true p141
                  replace q141 := eq_true q141
                  go_wp2_with (first | ((with_reducible refine gate_callee (f := 73) rfl ?_); refine goesL_ (some 92) rfl rfl Try.func73 (by kernel_rfl) rfl #[.int .i64 ((rd_T62 l1 x6_1).f0), .int .i64 3, .int .i64 5] rfl pwy_ ?_; (with_reducible refine (spec_l1In.calls ((rd_T62 l1 x6_1).f0) 3 5 true _ A23.out).mono ?_); rintro e w' ⟨rfl, ⟨nd, rfl⟩⟩; refine ⟨_, rfl, ?_⟩; have p143 : 0 ≤ (x6_1 : Int) := of_decide_eq_true pwb_; have q143 : x6_1 < (l1.length : Int) := of_decide_eq_true pwb_; obtain ⟨ad143, e143, hx143_0, hx143_1⟩ := at_T62 HR1.out x6_1 p143 q143; obtain rfl : ad141 = ad143 := (by injection e143); replace p143 := eq_true p143; replace q143 := eq_true q143))
                  go_roundg kj15
                  case measure => have := HK1.out; have := HJ3.out; have := HJ8.out; have := HJ15.out; omega
                  case rel => exact ⟨(wrap64 (x5_1 - 1)), (wrap64 (x6_1 + 1)), pwa_, pwa_, H', ⟨by have := HK1.out; have := HJ3.out; have := HJ8.out; have := HJ15.out; omega⟩, by repeat (first | exact Drawn0.refl _ | apply Drawn0.step)⟩
                 ·rw [if_neg c26] at H
                  have c26b0 : decide (2 ≤ x5_1) = false := decide_eq_false c26
                  clear c26
                  obtain rfl := Option.some.inj H
                  have p141 : 0 ≤ (x6_1 : Int) := of_decide_eq_true pwb_
                  have q141 : x6_1 < (l1.length : Int) := of_decide_eq_true pwb_
                  obtain ⟨ad141, e141, hx141_0, hx141_1⟩ := at_T62 HR1.out x6_1 p141 q141
                  cases e141
                  replace p141 := eq_true p141
                  replace q141 := eq_true q141
                  go_wp2_with (first | ((with_reducible refine gate_callee (f := 73) rfl ?_); refine goesL_ (some 92) rfl rfl Try.func73 (by kernel_rfl) rfl #[.int .i64 ((rd_T62 l1 x6_1).f0), .int .i64 3, .int .i64 5] rfl pwy_ ?_; (with_reducible refine (spec_l1In.calls ((rd_T62 l1 x6_1).f0) 3 5 true _ A23.out).mono ?_); rintro e w' ⟨rfl, ⟨nd, rfl⟩⟩; refine ⟨_, rfl, ?_⟩; have p143 : 0 ≤ (x6_1 : Int) := of_decide_eq_true pwb_; have q143 : x6_1 < (l1.length : Int) := of_decide_eq_true pwb_; obtain ⟨ad143, e143, hx143_0, hx143_1⟩ := at_T62 HR1.out x6_1 p143 q143; obtain rfl : ad141 = ad143 := (by injection e143); replace p143 := eq_true p143; replace q143 := eq_true q143))
                  go_ret
                  exact ⟨pwa_, by repeat (first | exact Drawn0.refl _ | apply Drawn0.step)⟩
                ·rw [if_neg c25] at H
                 have c25b0 : (((rd_T62 l1 x6_1).f1) == 0) = false := beq_eq_false_iff_ne.mpr c25
                 have c25b1 : (((rd_T62 l1 x6_1).f1) != 0) = true := bne_iff_ne.mpr c25
                 obtain rfl := Option.some.inj H
                 have p141 : 0 ≤ (x6_1 : Int) := of_decide_eq_true pwb_
                 have q141 : x6_1 < (l1.length : Int) := of_decide_eq_true pwb_
                 obtain ⟨ad141, e141, hx141_0, hx141_1⟩ := at_T62 HR1.out x6_1 p141 q141
                 cases e141
                 replace p141 := eq_true p141
                 replace q141 := eq_true q141
                 go_wp2_with (first | ((with_reducible refine gate_callee (f := 73) rfl ?_); refine goesL_ (some 92) rfl rfl Try.func73 (by kernel_rfl) rfl #[.int .i64 ((rd_T62 l1 x6_1).f0), .int .i64 3, .int .i64 5] rfl pwy_ ?_; (with_reducible refine (spec_l1In.calls ((rd_T62 l1 x6_1).f0) 3 5 true _ A23.out).mono ?_); rintro e w' ⟨rfl, ⟨nd, rfl⟩⟩; refine ⟨_, rfl, ?_⟩; have p143 : 0 ≤ (x6_1 : Int) := of_decide_eq_true pwb_; have q143 : x6_1 < (l1.length : Int) := of_decide_eq_true pwb_; obtain ⟨ad143, e143, hx143_0, hx143_1⟩ := at_T62 HR1.out x6_1 p143 q143; obtain rfl : ad141 = ad143 := (by injection e143); replace p143 := eq_true p143; replace q143 := eq_true q143))
                 go_ret
                 exact ⟨pwa_, by repeat (first | exact Drawn0.refl _ | apply Drawn0.step)⟩
               ·replace c24 := Bool.eq_false_iff.mpr c24
                subst c24
                have H1 : (some false) = some r := by rw [if_neg (show ¬ (false = true) by decide)] at H; exact H
                clear H
                have H := H1
                clear H1
                obtain rfl := Option.some.inj H
                have p141 : 0 ≤ (x6_1 : Int) := of_decide_eq_true pwb_
                have q141 : x6_1 < (l1.length : Int) := of_decide_eq_true pwb_
                obtain ⟨ad141, e141, hx141_0, hx141_1⟩ := at_T62 HR1.out x6_1 p141 q141
                cases e141
                replace p141 := eq_true p141
                replace q141 := eq_true q141
                go_wp2_with (first | ((with_reducible refine gate_callee (f := 73) rfl ?_); refine goesL_ (some 92) rfl rfl Try.func73 (by kernel_rfl) rfl #[.int .i64 ((rd_T62 l1 x6_1).f0), .int .i64 3, .int .i64 5] rfl pwy_ ?_; (with_reducible refine (spec_l1In.calls ((rd_T62 l1 x6_1).f0) 3 5 false _ A23.out).mono ?_); rintro e w' ⟨rfl, ⟨nd, rfl⟩⟩; refine ⟨_, rfl, ?_⟩))
                go_ret
                exact ⟨pwa_, by repeat (first | exact Drawn0.refl _ | apply Drawn0.step)⟩
              ·rw [if_neg c22] at H
               exact absurd H (by simp)
             ·rw [if_neg c21] at H
              exact absurd H (by simp)
   ·rw [if_neg c3] at H
    have c3b0 : decide (x6_1 < (l1.length : Int)) = false := decide_eq_false c3
    clear c3
    replace H := Option.bind_eq_some_iff.mp H
    obtain ⟨t132, A270, H⟩ := H
    replace H : (if t132 = true then (if x5_1 = 1 then (some (decide ((l1.length : Int) ≤ 15))) else (some false)) else (some false)) = some r := H
    have A27 := Aside0.mk A270
    clear A270
    by_cases c28 : t132 = true
    ·subst c28
     have H1 : (if x5_1 = 1 then (some (decide ((l1.length : Int) ≤ 15))) else (some false)) = some r := by rw [if_pos rfl] at H; exact H
     clear H
     have H := H1
     clear H1
     by_cases c29 : x5_1 = 1
     ·rw [if_pos c29] at H
      have c29b0 : (x5_1 == 1) = true := beq_iff_eq.mpr c29
      have c29b1 : (x5_1 != 1) = false := bne_eq_false_iff_eq.mpr c29
      clear c29
      obtain rfl := Option.some.inj H
      go_wp2_with (first | ((with_reducible refine gate_callee (f := 73) rfl ?_); refine goesL_ (some 108) rfl rfl Try.func73 (by kernel_rfl) rfl #[.int .i64 a0, .int .i64 1, .int .i64 4] rfl pwy_ ?_; (with_reducible refine (spec_l1In.calls a0 1 4 true _ A27.out).mono ?_); rintro e w' ⟨rfl, ⟨nd, rfl⟩⟩; refine ⟨_, rfl, ?_⟩))
      go_ret
      exact ⟨pwa_, by repeat (first | exact Drawn0.refl _ | apply Drawn0.step)⟩
     ·rw [if_neg c29] at H
      have c29b0 : (x5_1 == 1) = false := beq_eq_false_iff_ne.mpr c29
      have c29b1 : (x5_1 != 1) = true := bne_iff_ne.mpr c29
      obtain rfl := Option.some.inj H
      go_wp2_with (first | ((with_reducible refine gate_callee (f := 73) rfl ?_); refine goesL_ (some 108) rfl rfl Try.func73 (by kernel_rfl) rfl #[.int .i64 a0, .int .i64 1, .int .i64 4] rfl pwy_ ?_; (with_reducible refine (spec_l1In.calls a0 1 4 true _ A27.out).mono ?_); rintro e w' ⟨rfl, ⟨nd, rfl⟩⟩; refine ⟨_, rfl, ?_⟩))
      go_ret
      exact ⟨pwa_, by repeat (first | exact Drawn0.refl _ | apply Drawn0.step)⟩
    ·replace c28 := Bool.eq_false_iff.mpr c28
     subst c28
     have H1 : (some false) = some r := by rw [if_neg (show ¬ (false = true) by decide)] at H; exact H
     clear H
     have H := H1
     clear H1
     obtain rfl := Option.some.inj H
     go_wp2_with (first | ((with_reducible refine gate_callee (f := 73) rfl ?_); refine goesL_ (some 108) rfl rfl Try.func73 (by kernel_rfl) rfl #[.int .i64 a0, .int .i64 1, .int .i64 4] rfl pwy_ ?_; (with_reducible refine (spec_l1In.calls a0 1 4 false _ A27.out).mono ?_); rintro e w' ⟨rfl, ⟨nd, rfl⟩⟩; refine ⟨_, rfl, ?_⟩))
     go_ret
     exact ⟨pwa_, by repeat (first | exact Drawn0.refl _ | apply Drawn0.step)⟩

end Go.Proofs.Ytfhmafmfaoknlaa.PFnExactDenyClaim
