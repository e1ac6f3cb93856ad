-- Made by a program of this session (wip/tools/patchprint.py), not by the kit itself.
import Derived.Test.YtfhmafmfaoknlaaPFnExactDenyClaimx0
import Derived.Test.YtfhmafmfaoknlaaPFnExactDenyClaimx2
import Derived.Test.YtfhmafmfaoknlaaPFnExactDenyClaimx3
import Derived.Test.YtfhmafmfaoknlaaPFnExactDenyClaimx5
import Derived.Test.YtfhmafmfaoknlaaPFnExactDenyClaimx7
namespace Go.Proofs.Ytfhmafmfaoknlaa.PFnExactDenyClaim
open Go.RowKit Go.Proofs.YtfhmafmfaoknlaaW.PrintWords Go.Proofs.YtfhmafmfaoknlaaW.PrintLast Go.Proofs.YtfhmafmfaoknlaaW.PrintMore
attribute [local go_sem] max2_int min2_int max_two min_two max_three min_three max_four min_four   -- for this text's walks alone
set_option linter.unusedVariables false
set_option linter.unusedSimpArgs false

attribute [local go_sem] setCell_isSome
/-! ### laws_FnExactDenyClaim: function 10 -/
mutual
def laws_FnExactDenyClaim.j0 : Nat → Int → Bool → Bool → Bool → Int → List (S90) → Int → List (S62) → Int → List (S62) → Int → List (S62) → Option (Bool)
 | 0, _, _, _, _, _, _, _, _, _, _, _, _ => none
 | k + 1, x0, x7, x10, x44, x197000, x197001, x208000, x208001, x213000, x213001, x219000, x219001 => if x44 = true then (some false) else ((laws_toClaim.f k x197000 x197001).bind fun bt220 => ((laws_eqClaim.f k x213000 x213001 bt220.1 bt220.2).bind fun t224 => (if t224 = true then ((laws_markClaim.f k x213000 x213001 1).bind fun bt225 => (if bt225.1 < 0 then (laws_FnExactDenyClaim.j1 k x0 x7 true x197000 x197001 x208000 x208001 x219000 x219001) else ((laws_eqClaim.f k x219000 x219001 x208000 x208001).bind fun t227 => (if t227 = true then (laws_FnExactDenyClaim.j1 k x0 x7 (x10 != x7) x197000 x197001 x208000 x208001 x219000 x219001) else (laws_FnExactDenyClaim.j1 k x0 x7 true x197000 x197001 x208000 x208001 x219000 x219001))))) else (some false))))
def laws_FnExactDenyClaim.j1 : Nat → Int → Bool → Bool → Int → List (S90) → Int → List (S62) → Int → List (S62) → Option (Bool)
 | 0, _, _, _, _, _, _, _, _, _ => none
 | k + 1, x0, x7, x65, x197000, x197001, x208000, x208001, x219000, x219001 => if x65 = true then (some false) else ((laws_markClaim.f k x219000 x219001 1).bind fun bt228 => ((laws_heldClaim.f k x219000 bt228.2 1).bind fun t230 => (if t230 < 0 then (some false) else (if t230 = bt228.1 then ((laws_toClaim.f k x197000 x197001).bind fun bt231 => ((impl_DenyClaim.f k x0 bt231.1 bt231.2).bind fun bt235 => ((laws_eqClaim.f k bt235.1 bt235.2.1 x208000 x208001).bind fun t241 => (if t241 = true then (laws_FnExactDenyClaim.j2 k bt228.1 (bt235.2.2 != x7) x219000 bt228.2) else (laws_FnExactDenyClaim.j2 k bt228.1 true x219000 bt228.2))))) else (some false)))))
def laws_FnExactDenyClaim.j2 : Nat → Int → Bool → Int → List (S62) → Option (Bool)
 | 0, _, _, _, _ => none
 | k + 1, x12, x92, x219000, x219001 => if x92 = true then (some false) else ((laws_heldClaim.f k x219000 x219001 1).bind fun t242 => (if t242 < 0 then (some false) else (if t242 = x12 then (some true) else (some false))))
end
def laws_FnExactDenyClaim.f (k : Nat) (a0 : Int) (a1_0 : Int) (l1_1 : List (S90)) : Option (Bool) := (laws_szClaim.f a1_0 l1_1 1048576).bind fun t197 => (if t197 < 0 then (some true) else ((laws_toClaim.f k a1_0 l1_1).bind fun bt198 => ((spec_DenyClaim.f k a0 bt198.1 bt198.2).bind fun bt202 => ((laws_toClaim.f k a1_0 l1_1).bind fun bt208 => ((impl_DenyClaim.f k a0 bt208.1 bt208.2).bind fun bt213 => ((laws_eqClaim.f k bt213.1 bt213.2.1 bt202.1 bt202.2.1).bind fun t219 => (if t219 = true then (laws_FnExactDenyClaim.j0 k a0 bt202.2.2 bt213.2.2 (bt213.2.2 != bt202.2.2) a1_0 l1_1 bt202.1 bt202.2.1 bt208.1 bt208.2 bt213.1 bt213.2.1) else (laws_FnExactDenyClaim.j0 k a0 bt202.2.2 bt213.2.2 true a1_0 l1_1 bt202.1 bt202.2.1 bt208.1 bt208.2 bt213.1 bt213.2.1))))))))
theorem laws_FnExactDenyClaim.mono_l : ∀ k, (∀ y0 y1 y2 y3 y4 y5 y6 y7 y8 y9 y10 y11, LeO (laws_FnExactDenyClaim.j0 k y0 y1 y2 y3 y4 y5 y6 y7 y8 y9 y10 y11) (laws_FnExactDenyClaim.j0 (k + 1) y0 y1 y2 y3 y4 y5 y6 y7 y8 y9 y10 y11)) ∧ (∀ y0 y1 y2 y3 y4 y5 y6 y7 y8, LeO (laws_FnExactDenyClaim.j1 k y0 y1 y2 y3 y4 y5 y6 y7 y8) (laws_FnExactDenyClaim.j1 (k + 1) y0 y1 y2 y3 y4 y5 y6 y7 y8)) ∧ (∀ y0 y1 y2 y3, LeO (laws_FnExactDenyClaim.j2 k y0 y1 y2 y3) (laws_FnExactDenyClaim.j2 (k + 1) y0 y1 y2 y3))
 | 0 => ⟨fun _ _ _ _ _ _ _ _ _ _ _ _ r h => by simp [laws_FnExactDenyClaim.j0] at h, fun _ _ _ _ _ _ _ _ _ r h => by simp [laws_FnExactDenyClaim.j1] at h, fun _ _ _ _ r h => by simp [laws_FnExactDenyClaim.j2] at h⟩
 | k + 1 => by
  obtain ⟨ih0, ih1, ih2⟩ := laws_FnExactDenyClaim.mono_l k
  refine ⟨?_, ?_, ?_⟩
  ·intro y0 y1 y2 y3 y4 y5 y6 y7 y8 y9 y10 y11
   unfold laws_FnExactDenyClaim.j0
   repeat' first
   | (with_reducible exact ih0 _ _ _ _ _ _ _ _ _ _ _ _)
   | (with_reducible exact ih1 _ _ _ _ _ _ _ _ _)
   | (with_reducible exact ih2 _ _ _ _)
   | (with_reducible exact impl_DenyClaim.mono _ _ _ _)
   | (with_reducible exact laws_eqClaim.mono _ _ _ _ _)
   | (with_reducible exact laws_heldClaim.mono _ _ _ _)
   | (with_reducible exact laws_markClaim.mono _ _ _ _)
   | (with_reducible exact laws_toClaim.mono _ _ _)
   | (with_reducible exact spec_DenyClaim.mono _ _ _ _)
   | (with_reducible exact LeO.refl _)
   | (with_reducible exact LeO.none _)
   | (with_reducible refine LeO.ite ?_ ?_)
   | (with_reducible refine LeO.bind ?_ (fun _ => ?_))
   | exact ih0 _ _ _ _ _ _ _ _ _ _ _ _
   | exact ih1 _ _ _ _ _ _ _ _ _
   | exact ih2 _ _ _ _
   | exact impl_DenyClaim.mono _ _ _ _
   | exact laws_eqClaim.mono _ _ _ _ _
   | exact laws_heldClaim.mono _ _ _ _
   | exact laws_markClaim.mono _ _ _ _
   | exact laws_toClaim.mono _ _ _
   | exact spec_DenyClaim.mono _ _ _ _
   | exact LeO.none _
   | refine LeO.ite ?_ ?_
   | refine LeO.bind ?_ (fun _ => ?_)
  ·intro y0 y1 y2 y3 y4 y5 y6 y7 y8
   unfold laws_FnExactDenyClaim.j1
   repeat' first
   | (with_reducible exact ih0 _ _ _ _ _ _ _ _ _ _ _ _)
   | (with_reducible exact ih1 _ _ _ _ _ _ _ _ _)
   | (with_reducible exact ih2 _ _ _ _)
   | (with_reducible exact impl_DenyClaim.mono _ _ _ _)
   | (with_reducible exact laws_eqClaim.mono _ _ _ _ _)
   | (with_reducible exact laws_heldClaim.mono _ _ _ _)
   | (with_reducible exact laws_markClaim.mono _ _ _ _)
   | (with_reducible exact laws_toClaim.mono _ _ _)
   | (with_reducible exact spec_DenyClaim.mono _ _ _ _)
   | (with_reducible exact LeO.refl _)
   | (with_reducible exact LeO.none _)
   | (with_reducible refine LeO.ite ?_ ?_)
   | (with_reducible refine LeO.bind ?_ (fun _ => ?_))
   | exact ih0 _ _ _ _ _ _ _ _ _ _ _ _
   | exact ih1 _ _ _ _ _ _ _ _ _
   | exact ih2 _ _ _ _
   | exact impl_DenyClaim.mono _ _ _ _
   | exact laws_eqClaim.mono _ _ _ _ _
   | exact laws_heldClaim.mono _ _ _ _
   | exact laws_markClaim.mono _ _ _ _
   | exact laws_toClaim.mono _ _ _
   | exact spec_DenyClaim.mono _ _ _ _
   | exact LeO.none _
   | refine LeO.ite ?_ ?_
   | refine LeO.bind ?_ (fun _ => ?_)
  ·intro y0 y1 y2 y3
   unfold laws_FnExactDenyClaim.j2
   repeat' first
   | (with_reducible exact ih0 _ _ _ _ _ _ _ _ _ _ _ _)
   | (with_reducible exact ih1 _ _ _ _ _ _ _ _ _)
   | (with_reducible exact ih2 _ _ _ _)
   | (with_reducible exact impl_DenyClaim.mono _ _ _ _)
   | (with_reducible exact laws_eqClaim.mono _ _ _ _ _)
   | (with_reducible exact laws_heldClaim.mono _ _ _ _)
   | (with_reducible exact laws_markClaim.mono _ _ _ _)
   | (with_reducible exact laws_toClaim.mono _ _ _)
   | (with_reducible exact spec_DenyClaim.mono _ _ _ _)
   | (with_reducible exact LeO.refl _)
   | (with_reducible exact LeO.none _)
   | (with_reducible refine LeO.ite ?_ ?_)
   | (with_reducible refine LeO.bind ?_ (fun _ => ?_))
   | exact ih0 _ _ _ _ _ _ _ _ _ _ _ _
   | exact ih1 _ _ _ _ _ _ _ _ _
   | exact ih2 _ _ _ _
   | exact impl_DenyClaim.mono _ _ _ _
   | exact laws_eqClaim.mono _ _ _ _ _
   | exact laws_heldClaim.mono _ _ _ _
   | exact laws_markClaim.mono _ _ _ _
   | exact laws_toClaim.mono _ _ _
   | exact spec_DenyClaim.mono _ _ _ _
   | exact LeO.none _
   | refine LeO.ite ?_ ?_
   | refine LeO.bind ?_ (fun _ => ?_)
theorem laws_FnExactDenyClaim.mono : ∀ a0 a1 a2 k, LeO (laws_FnExactDenyClaim.f k a0 a1 a2) (laws_FnExactDenyClaim.f (k + 1) a0 a1 a2) := by
 intro a0 a1 a2 k
 obtain ⟨ih0, ih1, ih2⟩ := laws_FnExactDenyClaim.mono_l k
 unfold laws_FnExactDenyClaim.f
 repeat' first
   | (with_reducible exact ih0 _ _ _ _ _ _ _ _ _ _ _ _)
   | (with_reducible exact ih1 _ _ _ _ _ _ _ _ _)
   | (with_reducible exact ih2 _ _ _ _)
   | (with_reducible exact impl_DenyClaim.mono _ _ _ _)
   | (with_reducible exact laws_eqClaim.mono _ _ _ _ _)
   | (with_reducible exact laws_heldClaim.mono _ _ _ _)
   | (with_reducible exact laws_markClaim.mono _ _ _ _)
   | (with_reducible exact laws_toClaim.mono _ _ _)
   | (with_reducible exact spec_DenyClaim.mono _ _ _ _)
   | (with_reducible exact LeO.refl _)
   | (with_reducible exact LeO.none _)
   | (with_reducible refine LeO.ite ?_ ?_)
   | (with_reducible refine LeO.bind ?_ (fun _ => ?_))
   | exact ih0 _ _ _ _ _ _ _ _ _ _ _ _
   | exact ih1 _ _ _ _ _ _ _ _ _
   | exact ih2 _ _ _ _
   | exact impl_DenyClaim.mono _ _ _ _
   | exact laws_eqClaim.mono _ _ _ _ _
   | exact laws_heldClaim.mono _ _ _ _
   | exact laws_markClaim.mono _ _ _ _
   | exact laws_toClaim.mono _ _ _
   | exact spec_DenyClaim.mono _ _ _ _
   | exact LeO.none _
   | refine LeO.ite ?_ ?_
   | refine LeO.bind ?_ (fun _ => ?_)
set_option maxHeartbeats 8000000 in
set_option maxRecDepth 100000 in
theorem laws_FnExactDenyClaim.calls (k : Nat) (a0 : Int) (a1_0 : Int) (A1_1 : Option Addr) (c1_1 : Nat) (l1_1 : List (S90)) (r : Bool) (w : World) (hr1_1 : Kd.C k90 w A1_1 l1_1.length l1_1) (hc1_1 : l1_1.length ≤ c1_1) (h : laws_FnExactDenyClaim.f k a0 a1_0 l1_1 = some r) :
  Calls Try.prog 10 #[.int .i64 a0, .agg #[.int .i64 a1_0, .slice A1_1 l1_1.length c1_1]] w fun e w' => e = .returned (.bool r) ∧ Below w.heap.size w w' := by
 have hu43 := Try.underlying43
 have hu47 := Try.underlying47
 have HR1_1 := Aside0.mk hr1_1
 have HC1_1 := Aside0.mk hc1_1
 clear hr1_1 hc1_1
 have HB := Aside0.mk (Below.refl w.heap.size w)
 have H : ((laws_szClaim.f a1_0 l1_1 1048576).bind fun t197 => (if t197 < 0 then (some true) else ((laws_toClaim.f k a1_0 l1_1).bind fun bt198 => ((spec_DenyClaim.f k a0 bt198.1 bt198.2).bind fun bt202 => ((laws_toClaim.f k a1_0 l1_1).bind fun bt208 => ((impl_DenyClaim.f k a0 bt208.1 bt208.2).bind fun bt213 => ((laws_eqClaim.f k bt213.1 bt213.2.1 bt202.1 bt202.2.1).bind fun t219 => (if t219 = true then (laws_FnExactDenyClaim.j0 k a0 bt202.2.2 bt213.2.2 (bt213.2.2 != bt202.2.2) a1_0 l1_1 bt202.1 bt202.2.1 bt208.1 bt208.2 bt213.1 bt213.2.1) else (laws_FnExactDenyClaim.j0 k a0 bt202.2.2 bt213.2.2 true a1_0 l1_1 bt202.1 bt202.2.1 bt208.1 bt208.2 bt213.1 bt213.2.1))))))))) = some r := h
 clear h
 replace H := Option.bind_eq_some_iff.mp H
 obtain ⟨t197, A30, H⟩ := H
 replace H : (if t197 < 0 then (some true) else ((laws_toClaim.f k a1_0 l1_1).bind fun bt198 => ((spec_DenyClaim.f k a0 bt198.1 bt198.2).bind fun bt202 => ((laws_toClaim.f k a1_0 l1_1).bind fun bt208 => ((impl_DenyClaim.f k a0 bt208.1 bt208.2).bind fun bt213 => ((laws_eqClaim.f k bt213.1 bt213.2.1 bt202.1 bt202.2.1).bind fun t219 => (if t219 = true then (laws_FnExactDenyClaim.j0 k a0 bt202.2.2 bt213.2.2 (bt213.2.2 != bt202.2.2) a1_0 l1_1 bt202.1 bt202.2.1 bt208.1 bt208.2 bt213.1 bt213.2.1) else (laws_FnExactDenyClaim.j0 k a0 bt202.2.2 bt213.2.2 true a1_0 l1_1 bt202.1 bt202.2.1 bt208.1 bt208.2 bt213.1 bt213.2.1)))))))) = some r := H
 have A3 := Aside0.mk A30
 clear A30
 by_cases c4 : t197 < 0
 ·rw [if_pos c4] at H
  have c4b0 : decide (t197 < 0) = true := decide_eq_true c4
  clear c4
  obtain rfl := Option.some.inj H
  go_enter Try.func10, Try.ntmps10
  go_wp2_with (first | ((with_reducible refine gate_dst (N := 3) rfl ?_); refine box_event ?hg (N := 3) ?hd (cs := #[.int .i64 a1_0, .slice A1_1 l1_1.length c1_1]) (t := 43) ?hr ?_; (case hd => rfl); (case hg => rfl); (case hr => first | (go_simp; done) | (go_simp; rfl)); intro gb196 hg w5 hbox hb; have n0_ := Aside0.mk (below_step pwx_ hb); have n1_ := Aside0.mk (hbox); have n2_ := Aside0.mk ((by rw [hg]; exact (below_size pwx_) : w.heap.size ≤ gb196)); have n3_ := Aside0.mk ((by rw [hg]; exact (below_size pwx_) : w.heap.size ≤ gb196)); clear HB; have HB := n0_; have BK196 := n1_; have GW196 := n2_; have GE196 := n3_; clear n0_ n1_ n2_ n3_; clear hb hbox hg; have hcz6_0 : w5.cell? ⟨gb196, 0, none⟩ = some (.int .i64 a1_0) := (blk_cell BK196.out 0).trans rfl; have hcz6_1 : w5.cell? ⟨gb196, 1, none⟩ = some (.slice A1_1 l1_1.length c1_1) := (blk_cell BK196.out 1).trans rfl; have hfz6_0 := blk_frozen BK196.out 0; have hfz6_1 := blk_frozen BK196.out 1) | ((with_reducible refine gate_callee (f := 31) rfl ?_); refine goesL_ (some 18) rfl rfl Try.func31 (by kernel_rfl) rfl #[.agg #[.int .i64 a1_0, .slice A1_1 l1_1.length c1_1], .int .i64 1048576] rfl pwy_ ?_; (with_reducible refine (laws_szClaim.calls a1_0 _ _ l1_1 1048576 t197 _ ?side1 ?side2 A3.out).mono ?_); (case side1 => repeat (first | exact (Kd.C_below HR1_1.out HB.out) | (with_reducible refine Kd.C_alloc ?_ _) | (with_reducible refine Kd.C_drewN ?_ _) | (with_reducible refine Kd.C_drew ?_))); (case side2 => exact HC1_1.out); rintro e w7 ⟨rfl, hb⟩; refine ⟨_, rfl, ?_⟩; have n0_ := Aside0.mk (blk_below (g := gb196) (o := .cells #[.int .i64 a1_0, .slice A1_1 l1_1.length c1_1] 43 (0, 0)) pwr_ hb); have n1_ := Aside0.mk (below_step (by repeat (first | (with_reducible first | exact HB.out | apply below_alloc | apply pw_below_drewN | apply below_drew1 | refine below_set ?_ GE196.out) | exact HB.out)) hb); clear BK196; clear HB; have BK196 := n0_; have HB := n1_; clear n0_ n1_; (try clear hb); (try clear hb2); (try clear hk); (try clear hi)))
  go_ret
  exact ⟨by first | rfl | (simp [errW_none, errW_some] <;> rfl) | (simp [*, errW_none, errW_some] <;> rfl), by repeat (first | (with_reducible first | exact HB.out | apply below_alloc | apply pw_below_drewN | apply below_drew1 | refine below_set ?_ GE196.out) | exact HB.out)⟩
 ·rw [if_neg c4] at H
  have c4b0 : decide (t197 < 0) = false := decide_eq_false c4
  clear c4
  replace H := Option.bind_eq_some_iff.mp H
  obtain ⟨⟨t198, t199⟩, A80, H⟩ := H
  replace H : ((spec_DenyClaim.f k a0 t198 t199).bind fun bt202 => ((laws_toClaim.f k a1_0 l1_1).bind fun bt208 => ((impl_DenyClaim.f k a0 bt208.1 bt208.2).bind fun bt213 => ((laws_eqClaim.f k bt213.1 bt213.2.1 bt202.1 bt202.2.1).bind fun t219 => (if t219 = true then (laws_FnExactDenyClaim.j0 k a0 bt202.2.2 bt213.2.2 (bt213.2.2 != bt202.2.2) a1_0 l1_1 bt202.1 bt202.2.1 bt208.1 bt208.2 bt213.1 bt213.2.1) else (laws_FnExactDenyClaim.j0 k a0 bt202.2.2 bt213.2.2 true a1_0 l1_1 bt202.1 bt202.2.1 bt208.1 bt208.2 bt213.1 bt213.2.1)))))) = some r := H
  have A8 := Aside0.mk A80
  clear A80
  replace H := Option.bind_eq_some_iff.mp H
  obtain ⟨⟨t202, t203, t206⟩, A90, H⟩ := H
  replace H : ((laws_toClaim.f k a1_0 l1_1).bind fun bt208 => ((impl_DenyClaim.f k a0 bt208.1 bt208.2).bind fun bt213 => ((laws_eqClaim.f k bt213.1 bt213.2.1 t202 t203).bind fun t219 => (if t219 = true then (laws_FnExactDenyClaim.j0 k a0 t206 bt213.2.2 (bt213.2.2 != t206) a1_0 l1_1 t202 t203 bt208.1 bt208.2 bt213.1 bt213.2.1) else (laws_FnExactDenyClaim.j0 k a0 t206 bt213.2.2 true a1_0 l1_1 t202 t203 bt208.1 bt208.2 bt213.1 bt213.2.1))))) = some r := H
  have A9 := Aside0.mk A90
  clear A90
  replace H := Option.bind_eq_some_iff.mp H
  obtain ⟨⟨t208, t209⟩, A100, H⟩ := H
  replace H : ((impl_DenyClaim.f k a0 t208 t209).bind fun bt213 => ((laws_eqClaim.f k bt213.1 bt213.2.1 t202 t203).bind fun t219 => (if t219 = true then (laws_FnExactDenyClaim.j0 k a0 t206 bt213.2.2 (bt213.2.2 != t206) a1_0 l1_1 t202 t203 t208 t209 bt213.1 bt213.2.1) else (laws_FnExactDenyClaim.j0 k a0 t206 bt213.2.2 true a1_0 l1_1 t202 t203 t208 t209 bt213.1 bt213.2.1)))) = some r := H
  have A10 := Aside0.mk A100
  clear A100
  replace H := Option.bind_eq_some_iff.mp H
  obtain ⟨⟨t213, t214, t217⟩, A110, H⟩ := H
  replace H : ((laws_eqClaim.f k t213 t214 t202 t203).bind fun t219 => (if t219 = true then (laws_FnExactDenyClaim.j0 k a0 t206 t217 (t217 != t206) a1_0 l1_1 t202 t203 t208 t209 t213 t214) else (laws_FnExactDenyClaim.j0 k a0 t206 t217 true a1_0 l1_1 t202 t203 t208 t209 t213 t214))) = some r := H
  have A11 := Aside0.mk A110
  clear A110
  have HC12 := Aside0.mk H
  clear H
  go_enter Try.func10, Try.ntmps10
  go_upto_region 8 with (first | ((with_reducible refine gate_dst (N := 3) rfl ?_); refine box_event ?hg (N := 3) ?hd (cs := #[.int .i64 a1_0, .slice A1_1 l1_1.length c1_1]) (t := 43) ?hr ?_; (case hd => rfl); (case hg => rfl); (case hr => first | (go_simp; done) | (go_simp; rfl)); intro gb196 hg w13 hbox hb; have n0_ := Aside0.mk (below_step pwx_ hb); have n1_ := Aside0.mk (hbox); have n2_ := Aside0.mk ((by rw [hg]; exact (below_size pwx_) : w.heap.size ≤ gb196)); have n3_ := Aside0.mk ((by rw [hg]; exact (below_size pwx_) : w.heap.size ≤ gb196)); clear HB; have HB := n0_; have BK196 := n1_; have GW196 := n2_; have GE196 := n3_; clear n0_ n1_ n2_ n3_; clear hb hbox hg; have hcz14_0 : w13.cell? ⟨gb196, 0, none⟩ = some (.int .i64 a1_0) := (blk_cell BK196.out 0).trans rfl; have hcz14_1 : w13.cell? ⟨gb196, 1, none⟩ = some (.slice A1_1 l1_1.length c1_1) := (blk_cell BK196.out 1).trans rfl; have hfz14_0 := blk_frozen BK196.out 0; have hfz14_1 := blk_frozen BK196.out 1) | ((with_reducible refine gate_callee (f := 31) rfl ?_); refine goesL_ (some 18) rfl rfl Try.func31 (by kernel_rfl) rfl #[.agg #[.int .i64 a1_0, .slice A1_1 l1_1.length c1_1], .int .i64 1048576] rfl pwy_ ?_; (with_reducible refine (laws_szClaim.calls a1_0 _ _ l1_1 1048576 t197 _ ?side1 ?side2 A3.out).mono ?_); (case side1 => repeat (first | exact (Kd.C_below HR1_1.out HB.out) | (with_reducible refine Kd.C_alloc ?_ _) | (with_reducible refine Kd.C_drewN ?_ _) | (with_reducible refine Kd.C_drew ?_))); (case side2 => exact HC1_1.out); rintro e w15 ⟨rfl, hb⟩; refine ⟨_, rfl, ?_⟩; have n0_ := Aside0.mk (blk_below (g := gb196) (o := .cells #[.int .i64 a1_0, .slice A1_1 l1_1.length c1_1] 43 (0, 0)) pwr_ hb); have n1_ := Aside0.mk (below_step (by repeat (first | (with_reducible first | exact HB.out | apply below_alloc | apply pw_below_drewN | apply below_drew1 | refine below_set ?_ GE196.out) | exact HB.out)) hb); clear BK196; clear HB; have BK196 := n0_; have HB := n1_; clear n0_ n1_; (try clear hb); (try clear hb2); (try clear hk); (try clear hi); have hcz16_0 : w15.cell? ⟨gb196, 0, none⟩ = some (.int .i64 a1_0) := (blk_cell BK196.out 0).trans rfl; have hcz16_1 : w15.cell? ⟨gb196, 1, none⟩ = some (.slice A1_1 l1_1.length c1_1) := (blk_cell BK196.out 1).trans rfl; have hfz16_0 := blk_frozen BK196.out 0; have hfz16_1 := blk_frozen BK196.out 1) | ((with_reducible refine gate_callee (f := 33) rfl ?_); refine goesL_ (some 24) rfl rfl Try.func33 (by kernel_rfl) rfl #[.agg #[.int .i64 a1_0, .slice A1_1 l1_1.length c1_1]] rfl pwy_ ?_; (with_reducible refine (laws_toClaim.calls k a1_0 _ _ l1_1 t198 t199 _ ?side1 ?side2 A8.out).mono ?_); (case side1 => repeat (first | exact (Kd.C_below HR1_1.out HB.out) | (with_reducible refine Kd.C_alloc ?_ _) | (with_reducible refine Kd.C_drewN ?_ _) | (with_reducible refine Kd.C_drew ?_))); (case side2 => exact HC1_1.out); rintro e w17 ⟨v200, rfl, ho0, hb⟩; refine ⟨_, rfl, ?_⟩; have n0_ := Aside0.mk (Kd.R_lower ho0 (below_size (by repeat (first | (with_reducible first | exact HB.out | apply below_alloc | apply pw_below_drewN | apply below_drew1 | refine below_set ?_ GE196.out) | exact HB.out)))); have n1_ := Aside0.mk (blk_below (g := gb196) (o := .cells #[.int .i64 a1_0, .slice A1_1 l1_1.length c1_1] 43 (0, 0)) pwr_ hb); have n2_ := Aside0.mk (below_step (by repeat (first | (with_reducible first | exact HB.out | apply below_alloc | apply pw_below_drewN | apply below_drew1 | refine below_set ?_ GE196.out) | exact HB.out)) hb); clear BK196; clear HB; have HO201 := n0_; have BK196 := n1_; have HB := n2_; clear n0_ n1_ n2_; (try clear hb); (try clear hb2); (try clear hk); (try clear hi); (try clear ho0); obtain ⟨Ao18, co18, eo18⟩ := Kd.R_slice HO201.out; subst eo18) | ((with_reducible refine gate_callee (f := 47) rfl ?_); refine goesL_ (some 25) rfl rfl Try.func47 (by kernel_rfl) rfl #[.int .i64 a0, .agg #[.int .i64 t198, .slice Ao18 t199.length co18]] rfl pwy_ ?_; (with_reducible refine (spec_DenyClaim.calls k a0 t198 _ _ t199 t202 t203 t206 _ ?side1 ?side2 A9.out).mono ?_); (case side1 => repeat (first | exact (Kd.R_reads' HO201.out).2.2 | (with_reducible refine Kd.C_alloc ?_ _) | (with_reducible refine Kd.C_drewN ?_ _) | (with_reducible refine Kd.C_drew ?_))); (case side2 => exact (Kd.R_reads' HO201.out).2.1); rintro e w19 ⟨v204, rfl, ho0, hb⟩; refine ⟨_, rfl, ?_⟩; have n0_ := Aside0.mk (Kd.R_elder' (by (with_reducible repeat apply Kd.R_alloc); exact HO201.out) (Kd.R_base ho0) hb); have n1_ := Aside0.mk (Kd.R_lower (Kd.R_new' ho0 (Kd.R_lt (by (with_reducible repeat apply Kd.R_alloc); exact HO201.out))) (below_size (by repeat (first | (with_reducible first | exact HB.out | apply below_alloc | apply pw_below_drewN | apply below_drew1 | refine below_set ?_ GE196.out) | exact HB.out)))); have n2_ := Aside0.mk (blk_below (g := gb196) (o := .cells #[.int .i64 a1_0, .slice A1_1 l1_1.length c1_1] 43 (0, 0)) pwr_ hb); have n3_ := Aside0.mk (below_step (by repeat (first | (with_reducible first | exact HB.out | apply below_alloc | apply pw_below_drewN | apply below_drew1 | refine below_set ?_ GE196.out) | exact HB.out)) hb); clear HO201; clear BK196; clear HB; have HO201 := n0_; have HO205 := n1_; have BK196 := n2_; have HB := n3_; clear n0_ n1_ n2_ n3_; (try clear hb); (try clear hb2); (try clear hk); (try clear hi); (try clear ho0)) | ((with_reducible refine gate_dst (N := 6) rfl ?_); refine box_event ?hg (N := 6) ?hd (cs := #[.int .i64 0, .slice none 0 0]) (t := 47) ?hr ?_; (case hd => rfl); (case hg => rfl); (case hr => first | (go_simp; done) | (go_simp; rfl)); intro gb207 hg w20 hbox hb; have n0_ := Aside0.mk (Kd.R_below (by (with_reducible repeat apply Kd.R_alloc); exact HO201.out) hb); have n1_ := Aside0.mk (Kd.R_below (by (with_reducible repeat apply Kd.R_alloc); exact HO205.out) hb); have n2_ := Aside0.mk (blk_below (g := gb196) (o := .cells #[.int .i64 a1_0, .slice A1_1 l1_1.length c1_1] 43 (0, 0)) pwr_ hb); have n3_ := Aside0.mk (below_step (by repeat (first | (with_reducible first | exact HB.out | apply below_alloc | apply pw_below_drewN | apply below_drew1 | refine below_set ?_ GE196.out) | exact HB.out)) hb); have n4_ := Aside0.mk (hbox); have n5_ := Aside0.mk ((by rw [hg]; exact (below_size (by repeat (first | (with_reducible first | exact HB.out | apply below_alloc | apply pw_below_drewN | apply below_drew1 | refine below_set ?_ GE196.out) | exact HB.out))) : w.heap.size ≤ gb207)); have n6_ := Aside0.mk ((by rw [hg]; exact (below_size (by repeat (first | (with_reducible first | exact HB.out | apply below_alloc | apply pw_below_drewN | apply below_drew1 | refine below_set ?_ GE196.out) | exact HB.out))) : w.heap.size ≤ gb207)); have n7_ := Aside0.mk ((by rw [hg]; exact Nat.ne_of_lt (blk_lt (g := gb196) (o := .cells #[.int .i64 a1_0, .slice A1_1 l1_1.length c1_1] 43 (0, 0)) pwr_) : gb196 ≠ gb207)); have n8_ := Aside0.mk ((by rw [hg]; exact Nat.ne_of_gt (blk_lt (g := gb196) (o := .cells #[.int .i64 a1_0, .slice A1_1 l1_1.length c1_1] 43 (0, 0)) pwr_) : gb207 ≠ gb196)); clear HO201; clear HO205; clear BK196; clear HB; have HO201 := n0_; have HO205 := n1_; have BK196 := n2_; have HB := n3_; have BK207 := n4_; have GW207 := n5_; have GE207 := n6_; have NB196_207 := n7_; have NB207_196 := n8_; clear n0_ n1_ n2_ n3_ n4_ n5_ n6_ n7_ n8_; clear hb hbox hg; have hnb21 := NB207_196.out; have hnc21 := NB196_207.out; have hcz22_0 : w20.cell? ⟨gb207, 0, none⟩ = some (.int .i64 0) := (blk_cell BK207.out 0).trans rfl; have hcz22_1 : w20.cell? ⟨gb207, 1, none⟩ = some (.slice none 0 0) := (blk_cell BK207.out 1).trans rfl; have hfz22_0 := blk_frozen BK207.out 0; have hfz22_1 := blk_frozen BK207.out 1; obtain ⟨Ao23, co23, eo23⟩ := Kd.R_slice HO205.out; subst eo23; have hcz24_0 : w20.cell? ⟨gb196, 0, none⟩ = some (.int .i64 a1_0) := (blk_cell BK196.out 0).trans rfl; have hcz24_1 : w20.cell? ⟨gb196, 1, none⟩ = some (.slice A1_1 l1_1.length c1_1) := (blk_cell BK196.out 1).trans rfl; have hfz24_0 := blk_frozen BK196.out 0; have hfz24_1 := blk_frozen BK196.out 1) | ((with_reducible refine gate_callee (f := 33) rfl ?_); refine goesL_ (some 29) rfl rfl Try.func33 (by kernel_rfl) rfl #[.agg #[.int .i64 a1_0, .slice A1_1 l1_1.length c1_1]] rfl pwy_ ?_; (with_reducible refine (laws_toClaim.calls k a1_0 _ _ l1_1 t208 t209 _ ?side1 ?side2 A10.out).mono ?_); (case side1 => exact Kd.C_below HR1_1.out (by repeat (first | (with_reducible first | exact HB.out | apply below_alloc | apply pw_below_drewN | apply below_drew1 | refine below_set ?_ GE196.out | refine below_set ?_ GE207.out) | exact HB.out))); (case side2 => exact HC1_1.out); rintro e w25 ⟨v210, rfl, ho0, hb⟩; refine ⟨_, rfl, ?_⟩; have n0_ := Aside0.mk (Kd.R_elder' (by (with_reducible repeat apply Kd.R_alloc); exact (Kd.R_mono (Kd.R_far (p := ⟨gb207, 1, none⟩) (Kd.R_far (p := ⟨gb207, 0, none⟩) (Kd.R_types HO201.out BK207.out (by decide)) (fun _ hk => hk.2) (.int .i64 t202)) (fun _ hk => hk.2) (.slice Ao23 t203.length co23)) (fun _ h_ => h_.1))) (Kd.R_base ho0) hb); have n1_ := Aside0.mk (Kd.R_elder' (by (with_reducible repeat apply Kd.R_alloc); exact (Kd.R_mono (Kd.R_far (p := ⟨gb207, 1, none⟩) (Kd.R_far (p := ⟨gb207, 0, none⟩) (Kd.R_types HO205.out BK207.out (by decide)) (fun _ hk => hk.2) (.int .i64 t202)) (fun _ hk => hk.2) (.slice Ao23 t203.length co23)) (fun _ h_ => h_.1))) (Kd.R_base ho0) hb); have n2_ := Aside0.mk (Kd.R_lower (Kd.R_new' (Kd.R_new' ho0 (Kd.R_lt (by (with_reducible repeat apply Kd.R_alloc); exact (Kd.R_mono (Kd.R_far (p := ⟨gb207, 1, none⟩) (Kd.R_far (p := ⟨gb207, 0, none⟩) (Kd.R_types HO201.out BK207.out (by decide)) (fun _ hk => hk.2) (.int .i64 t202)) (fun _ hk => hk.2) (.slice Ao23 t203.length co23)) (fun _ h_ => h_.1))))) (Kd.R_lt (by (with_reducible repeat apply Kd.R_alloc); exact (Kd.R_mono (Kd.R_far (p := ⟨gb207, 1, none⟩) (Kd.R_far (p := ⟨gb207, 0, none⟩) (Kd.R_types HO205.out BK207.out (by decide)) (fun _ hk => hk.2) (.int .i64 t202)) (fun _ hk => hk.2) (.slice Ao23 t203.length co23)) (fun _ h_ => h_.1))))) (below_size (by repeat (first | (with_reducible first | exact HB.out | apply below_alloc | apply pw_below_drewN | apply below_drew1 | refine below_set ?_ GE196.out | refine below_set ?_ GE207.out) | exact HB.out)))); have n3_ := Aside0.mk (blk_below (g := gb196) (o := .cells #[.int .i64 a1_0, .slice A1_1 l1_1.length c1_1] 43 (0, 0)) (by (with_reducible repeat (first | refine blk_drewN ?_ _ | refine blk_drew ?_ | refine blk_alloc ?_ _)); refine blk_far ?_ NB196_207.out _; (with_reducible repeat (first | refine blk_drewN ?_ _ | refine blk_drew ?_ | refine blk_alloc ?_ _)); refine blk_far ?_ NB196_207.out _; (with_reducible repeat (first | refine blk_drewN ?_ _ | refine blk_drew ?_ | refine blk_alloc ?_ _)); exact BK196.out) hb); have n4_ := Aside0.mk (blk_below (g := gb207) (o := .cells #[.int .i64 t202, .slice Ao23 t203.length co23] 47 (0, 0)) (by (with_reducible repeat (first | refine blk_drewN ?_ _ | refine blk_drew ?_ | refine blk_alloc ?_ _)); refine blk_put (cs := #[.int .i64 t202, .slice none 0 0]) ?_ 1 _ rfl; (with_reducible repeat (first | refine blk_drewN ?_ _ | refine blk_drew ?_ | refine blk_alloc ?_ _)); refine blk_put (cs := #[.int .i64 0, .slice none 0 0]) ?_ 0 _ rfl; (with_reducible repeat (first | refine blk_drewN ?_ _ | refine blk_drew ?_ | refine blk_alloc ?_ _)); exact BK207.out) hb); have n5_ := Aside0.mk (below_step (by repeat (first | (with_reducible first | exact HB.out | apply below_alloc | apply pw_below_drewN | apply below_drew1 | refine below_set ?_ GE196.out | refine below_set ?_ GE207.out) | exact HB.out)) hb); clear HO201; clear HO205; clear BK196; clear BK207; clear HB; have HO201 := n0_; have HO205 := n1_; have HO211 := n2_; have BK196 := n3_; have BK207 := n4_; have HB := n5_; clear n0_ n1_ n2_ n3_ n4_ n5_; (try clear hb); (try clear hb2); (try clear hk); (try clear hi); (try clear ho0)) | ((with_reducible refine gate_dst (N := 8) rfl ?_); refine box_event ?hg (N := 8) ?hd (cs := #[.int .i64 0, .slice none 0 0]) (t := 47) ?hr ?_; (case hd => rfl); (case hg => rfl); (case hr => first | (go_simp; done) | (go_simp; rfl)); intro gb212 hg w26 hbox hb; have n0_ := Aside0.mk (Kd.R_below (by (with_reducible repeat apply Kd.R_alloc); exact HO201.out) hb); have n1_ := Aside0.mk (Kd.R_below (by (with_reducible repeat apply Kd.R_alloc); exact HO205.out) hb); have n2_ := Aside0.mk (Kd.R_below (by (with_reducible repeat apply Kd.R_alloc); exact HO211.out) hb); have n3_ := Aside0.mk (blk_below (g := gb196) (o := .cells #[.int .i64 a1_0, .slice A1_1 l1_1.length c1_1] 43 (0, 0)) pwr_ hb); have n4_ := Aside0.mk (blk_below (g := gb207) (o := .cells #[.int .i64 t202, .slice Ao23 t203.length co23] 47 (0, 0)) pws_ hb); have n5_ := Aside0.mk (below_step (by repeat (first | (with_reducible first | exact HB.out | apply below_alloc | apply pw_below_drewN | apply below_drew1 | refine below_set ?_ GE196.out | refine below_set ?_ GE207.out) | exact HB.out)) hb); have n6_ := Aside0.mk (hbox); have n7_ := Aside0.mk ((by rw [hg]; exact (below_size (by repeat (first | (with_reducible first | exact HB.out | apply below_alloc | apply pw_below_drewN | apply below_drew1 | refine below_set ?_ GE196.out | refine below_set ?_ GE207.out) | exact HB.out))) : w.heap.size ≤ gb212)); have n8_ := Aside0.mk ((by rw [hg]; exact (below_size (by repeat (first | (with_reducible first | exact HB.out | apply below_alloc | apply pw_below_drewN | apply below_drew1 | refine below_set ?_ GE196.out | refine below_set ?_ GE207.out) | exact HB.out))) : w.heap.size ≤ gb212)); have n9_ := Aside0.mk ((by rw [hg]; exact Nat.ne_of_lt (blk_lt (g := gb196) (o := .cells #[.int .i64 a1_0, .slice A1_1 l1_1.length c1_1] 43 (0, 0)) pwr_) : gb196 ≠ gb212)); have n10_ := Aside0.mk ((by rw [hg]; exact Nat.ne_of_gt (blk_lt (g := gb196) (o := .cells #[.int .i64 a1_0, .slice A1_1 l1_1.length c1_1] 43 (0, 0)) pwr_) : gb212 ≠ gb196)); have n11_ := Aside0.mk ((by rw [hg]; exact Nat.ne_of_lt (blk_lt (g := gb207) (o := .cells #[.int .i64 t202, .slice Ao23 t203.length co23] 47 (0, 0)) pws_) : gb207 ≠ gb212)); have n12_ := Aside0.mk ((by rw [hg]; exact Nat.ne_of_gt (blk_lt (g := gb207) (o := .cells #[.int .i64 t202, .slice Ao23 t203.length co23] 47 (0, 0)) pws_) : gb212 ≠ gb207)); clear HO201; clear HO205; clear HO211; clear BK196; clear BK207; clear HB; have HO201 := n0_; have HO205 := n1_; have HO211 := n2_; have BK196 := n3_; have BK207 := n4_; have HB := n5_; have BK212 := n6_; have GW212 := n7_; have GE212 := n8_; have NB196_212 := n9_; have NB212_196 := n10_; have NB207_212 := n11_; have NB212_207 := n12_; clear n0_ n1_ n2_ n3_ n4_ n5_ n6_ n7_ n8_ n9_ n10_ n11_ n12_; clear hb hbox hg; have hnb27 := NB212_196.out; have hnc27 := NB196_212.out; have hnb28 := NB212_207.out; have hnc28 := NB207_212.out; have hcz29_0 : w26.cell? ⟨gb212, 0, none⟩ = some (.int .i64 0) := (blk_cell BK212.out 0).trans rfl; have hcz29_1 : w26.cell? ⟨gb212, 1, none⟩ = some (.slice none 0 0) := (blk_cell BK212.out 1).trans rfl; have hfz29_0 := blk_frozen BK212.out 0; have hfz29_1 := blk_frozen BK212.out 1; obtain ⟨Ao30, co30, eo30⟩ := Kd.R_slice HO211.out; subst eo30) | ((with_reducible refine gate_callee (f := 48) rfl ?_); refine goesL_ (some 33) rfl rfl Try.func48 (by kernel_rfl) rfl #[.int .i64 a0, .agg #[.int .i64 t208, .slice Ao30 t209.length co30]] rfl pwy_ ?_; (with_reducible refine (impl_DenyClaim.calls k a0 t208 _ _ t209 t213 t214 t217 _ ?side1 ?side2 A11.out).mono ?_); (case side1 => refine (Kd.R_reads' (e := 62) (base := w.heap.size) (ok := fun k_ => ((True ∧ some k_ ≠ (.slice Ao18 t199.length co18 : Value).ownBlock) ∧ some k_ ≠ (.slice Ao23 t203.length co23 : Value).ownBlock)) (n := t209.length) (c := co30) ?_).2.2; exact (by (with_reducible repeat apply Kd.R_alloc); exact (Kd.R_mono (Kd.R_far (p := ⟨gb212, 1, none⟩) (Kd.R_far (p := ⟨gb212, 0, none⟩) (Kd.R_types HO211.out BK212.out (by decide)) (fun _ hk => hk.2) (.int .i64 t208)) (fun _ hk => hk.2) (.slice Ao30 t209.length co30)) (fun _ h_ => h_.1)))); (case side2 => exact (Kd.R_reads' HO211.out).2.1); rintro e w31 ⟨v215, rfl, ho0, hb⟩; refine ⟨_, rfl, ?_⟩; have n0_ := Aside0.mk (Kd.R_elder' (by (with_reducible repeat apply Kd.R_alloc); exact (Kd.R_mono (Kd.R_far (p := ⟨gb212, 1, none⟩) (Kd.R_far (p := ⟨gb212, 0, none⟩) (Kd.R_types HO201.out BK212.out (by decide)) (fun _ hk => hk.2) (.int .i64 t208)) (fun _ hk => hk.2) (.slice Ao30 t209.length co30)) (fun _ h_ => h_.1))) (Kd.R_base ho0) hb); have n1_ := Aside0.mk (Kd.R_elder' (by (with_reducible repeat apply Kd.R_alloc); exact (Kd.R_mono (Kd.R_far (p := ⟨gb212, 1, none⟩) (Kd.R_far (p := ⟨gb212, 0, none⟩) (Kd.R_types HO205.out BK212.out (by decide)) (fun _ hk => hk.2) (.int .i64 t208)) (fun _ hk => hk.2) (.slice Ao30 t209.length co30)) (fun _ h_ => h_.1))) (Kd.R_base ho0) hb); have n2_ := Aside0.mk (Kd.R_elder' (by (with_reducible repeat apply Kd.R_alloc); exact (Kd.R_mono (Kd.R_far (p := ⟨gb212, 1, none⟩) (Kd.R_far (p := ⟨gb212, 0, none⟩) (Kd.R_types HO211.out BK212.out (by decide)) (fun _ hk => hk.2) (.int .i64 t208)) (fun _ hk => hk.2) (.slice Ao30 t209.length co30)) (fun _ h_ => h_.1))) (Kd.R_base ho0) hb); have n3_ := Aside0.mk (Kd.R_lower (Kd.R_new' (Kd.R_new' (Kd.R_new' ho0 (Kd.R_lt (by (with_reducible repeat apply Kd.R_alloc); exact (Kd.R_mono (Kd.R_far (p := ⟨gb212, 1, none⟩) (Kd.R_far (p := ⟨gb212, 0, none⟩) (Kd.R_types HO201.out BK212.out (by decide)) (fun _ hk => hk.2) (.int .i64 t208)) (fun _ hk => hk.2) (.slice Ao30 t209.length co30)) (fun _ h_ => h_.1))))) (Kd.R_lt (by (with_reducible repeat apply Kd.R_alloc); exact (Kd.R_mono (Kd.R_far (p := ⟨gb212, 1, none⟩) (Kd.R_far (p := ⟨gb212, 0, none⟩) (Kd.R_types HO205.out BK212.out (by decide)) (fun _ hk => hk.2) (.int .i64 t208)) (fun _ hk => hk.2) (.slice Ao30 t209.length co30)) (fun _ h_ => h_.1))))) (Kd.R_lt (by (with_reducible repeat apply Kd.R_alloc); exact (Kd.R_mono (Kd.R_far (p := ⟨gb212, 1, none⟩) (Kd.R_far (p := ⟨gb212, 0, none⟩) (Kd.R_types HO211.out BK212.out (by decide)) (fun _ hk => hk.2) (.int .i64 t208)) (fun _ hk => hk.2) (.slice Ao30 t209.length co30)) (fun _ h_ => h_.1))))) (below_size (by repeat (first | (with_reducible first | exact HB.out | apply below_alloc | apply pw_below_drewN | apply below_drew1 | refine below_set ?_ GE196.out | refine below_set ?_ GE207.out | refine below_set ?_ GE212.out) | exact HB.out)))); have n4_ := Aside0.mk (blk_below (g := gb196) (o := .cells #[.int .i64 a1_0, .slice A1_1 l1_1.length c1_1] 43 (0, 0)) (by (with_reducible repeat (first | refine blk_drewN ?_ _ | refine blk_drew ?_ | refine blk_alloc ?_ _)); refine blk_far ?_ NB196_212.out _; (with_reducible repeat (first | refine blk_drewN ?_ _ | refine blk_drew ?_ | refine blk_alloc ?_ _)); refine blk_far ?_ NB196_212.out _; (with_reducible repeat (first | refine blk_drewN ?_ _ | refine blk_drew ?_ | refine blk_alloc ?_ _)); exact BK196.out) hb); have n5_ := Aside0.mk (blk_below (g := gb207) (o := .cells #[.int .i64 t202, .slice Ao23 t203.length co23] 47 (0, 0)) (by (with_reducible repeat (first | refine blk_drewN ?_ _ | refine blk_drew ?_ | refine blk_alloc ?_ _)); refine blk_far ?_ NB207_212.out _; (with_reducible repeat (first | refine blk_drewN ?_ _ | refine blk_drew ?_ | refine blk_alloc ?_ _)); refine blk_far ?_ NB207_212.out _; (with_reducible repeat (first | refine blk_drewN ?_ _ | refine blk_drew ?_ | refine blk_alloc ?_ _)); exact BK207.out) hb); have n6_ := Aside0.mk (blk_below (g := gb212) (o := .cells #[.int .i64 t208, .slice Ao30 t209.length co30] 47 (0, 0)) (by (with_reducible repeat (first | refine blk_drewN ?_ _ | refine blk_drew ?_ | refine blk_alloc ?_ _)); refine blk_put (cs := #[.int .i64 t208, .slice none 0 0]) ?_ 1 _ rfl; (with_reducible repeat (first | refine blk_drewN ?_ _ | refine blk_drew ?_ | refine blk_alloc ?_ _)); refine blk_put (cs := #[.int .i64 0, .slice none 0 0]) ?_ 0 _ rfl; (with_reducible repeat (first | refine blk_drewN ?_ _ | refine blk_drew ?_ | refine blk_alloc ?_ _)); exact BK212.out) hb); have n7_ := Aside0.mk (below_step (by repeat (first | (with_reducible first | exact HB.out | apply below_alloc | apply pw_below_drewN | apply below_drew1 | refine below_set ?_ GE196.out | refine below_set ?_ GE207.out | refine below_set ?_ GE212.out) | exact HB.out)) hb); clear HO201; clear HO205; clear HO211; clear BK196; clear BK207; clear BK212; clear HB; have HO201 := n0_; have HO205 := n1_; have HO211 := n2_; have HO216 := n3_; have BK196 := n4_; have BK207 := n5_; have BK212 := n6_; have HB := n7_; clear n0_ n1_ n2_ n3_ n4_ n5_ n6_ n7_; (try clear hb); (try clear hb2); (try clear hk); (try clear hi); (try clear ho0)) | ((with_reducible refine gate_dst (N := 9) rfl ?_); refine box_event ?hg (N := 9) ?hd (cs := #[.int .i64 0, .slice none 0 0]) (t := 47) ?hr ?_; (case hd => rfl); (case hg => rfl); (case hr => first | (go_simp; done) | (go_simp; rfl)); intro gb218 hg w32 hbox hb; have n0_ := Aside0.mk (Kd.R_below (by (with_reducible repeat apply Kd.R_alloc); exact HO201.out) hb); have n1_ := Aside0.mk (Kd.R_below (by (with_reducible repeat apply Kd.R_alloc); exact HO205.out) hb); have n2_ := Aside0.mk (Kd.R_below (by (with_reducible repeat apply Kd.R_alloc); exact HO211.out) hb); have n3_ := Aside0.mk (Kd.R_below (by (with_reducible repeat apply Kd.R_alloc); exact HO216.out) hb); have n4_ := Aside0.mk (blk_below (g := gb196) (o := .cells #[.int .i64 a1_0, .slice A1_1 l1_1.length c1_1] 43 (0, 0)) pwr_ hb); have n5_ := Aside0.mk (blk_below (g := gb207) (o := .cells #[.int .i64 t202, .slice Ao23 t203.length co23] 47 (0, 0)) pws_ hb); have n6_ := Aside0.mk (blk_below (g := gb212) (o := .cells #[.int .i64 t208, .slice Ao30 t209.length co30] 47 (0, 0)) pwt_ hb); have n7_ := Aside0.mk (below_step (by repeat (first | (with_reducible first | exact HB.out | apply below_alloc | apply pw_below_drewN | apply below_drew1 | refine below_set ?_ GE196.out | refine below_set ?_ GE207.out | refine below_set ?_ GE212.out) | exact HB.out)) hb); have n8_ := Aside0.mk (hbox); have n9_ := Aside0.mk ((by rw [hg]; exact (below_size (by repeat (first | (with_reducible first | exact HB.out | apply below_alloc | apply pw_below_drewN | apply below_drew1 | refine below_set ?_ GE196.out | refine below_set ?_ GE207.out | refine below_set ?_ GE212.out) | exact HB.out))) : w.heap.size ≤ gb218)); have n10_ := Aside0.mk ((by rw [hg]; exact (below_size (by repeat (first | (with_reducible first | exact HB.out | apply below_alloc | apply pw_below_drewN | apply below_drew1 | refine below_set ?_ GE196.out | refine below_set ?_ GE207.out | refine below_set ?_ GE212.out) | exact HB.out))) : w.heap.size ≤ gb218)); have n11_ := Aside0.mk ((by rw [hg]; exact Nat.ne_of_lt (blk_lt (g := gb196) (o := .cells #[.int .i64 a1_0, .slice A1_1 l1_1.length c1_1] 43 (0, 0)) pwr_) : gb196 ≠ gb218)); have n12_ := Aside0.mk ((by rw [hg]; exact Nat.ne_of_gt (blk_lt (g := gb196) (o := .cells #[.int .i64 a1_0, .slice A1_1 l1_1.length c1_1] 43 (0, 0)) pwr_) : gb218 ≠ gb196)); have n13_ := Aside0.mk ((by rw [hg]; exact Nat.ne_of_lt (blk_lt (g := gb207) (o := .cells #[.int .i64 t202, .slice Ao23 t203.length co23] 47 (0, 0)) pws_) : gb207 ≠ gb218)); have n14_ := Aside0.mk ((by rw [hg]; exact Nat.ne_of_gt (blk_lt (g := gb207) (o := .cells #[.int .i64 t202, .slice Ao23 t203.length co23] 47 (0, 0)) pws_) : gb218 ≠ gb207)); have n15_ := Aside0.mk ((by rw [hg]; exact Nat.ne_of_lt (blk_lt (g := gb212) (o := .cells #[.int .i64 t208, .slice Ao30 t209.length co30] 47 (0, 0)) pwt_) : gb212 ≠ gb218)); have n16_ := Aside0.mk ((by rw [hg]; exact Nat.ne_of_gt (blk_lt (g := gb212) (o := .cells #[.int .i64 t208, .slice Ao30 t209.length co30] 47 (0, 0)) pwt_) : gb218 ≠ gb212)); clear HO201; clear HO205; clear HO211; clear HO216; clear BK196; clear BK207; clear BK212; clear HB; have HO201 := n0_; have HO205 := n1_; have HO211 := n2_; have HO216 := n3_; have BK196 := n4_; have BK207 := n5_; have BK212 := n6_; have HB := n7_; have BK218 := n8_; have GW218 := n9_; have GE218 := n10_; have NB196_218 := n11_; have NB218_196 := n12_; have NB207_218 := n13_; have NB218_207 := n14_; have NB212_218 := n15_; have NB218_212 := n16_; clear n0_ n1_ n2_ n3_ n4_ n5_ n6_ n7_ n8_ n9_ n10_ n11_ n12_ n13_ n14_ n15_ n16_; clear hb hbox hg; have hnb33 := NB218_196.out; have hnc33 := NB196_218.out; have hnb34 := NB218_207.out; have hnc34 := NB207_218.out; have hnb35 := NB218_212.out; have hnc35 := NB212_218.out; have hcz36_0 : w32.cell? ⟨gb218, 0, none⟩ = some (.int .i64 0) := (blk_cell BK218.out 0).trans rfl; have hcz36_1 : w32.cell? ⟨gb218, 1, none⟩ = some (.slice none 0 0) := (blk_cell BK218.out 1).trans rfl; have hfz36_0 := blk_frozen BK218.out 0; have hfz36_1 := blk_frozen BK218.out 1; obtain ⟨Ao37, co37, eo37⟩ := Kd.R_slice HO216.out; subst eo37))
  (try simp only [Act.put, List.setIfInBounds_toArray, List.set_cons_zero, List.set_cons_succ])
  go_cut [44] (fun v44 wc => ∃ (kq : Nat) (x44_11 : Bool), v44 = .bool x44_11 ∧ Aside0 (laws_FnExactDenyClaim.j0 kq a0 t206 t217 x44_11 a1_0 l1_1 t202 t203 t208 t209 t213 t214 = some r) ∧ Aside0 (kq ≤ k) ∧ Aside0 (Kd.R k62 62 wc w.heap.size (fun k_ => some k_ ≠ ((.slice Ao30 t209.length co30) : Value).ownBlock ∧ some k_ ≠ ((.slice Ao37 t214.length co37) : Value).ownBlock) (.slice Ao23 t203.length co23) t203) ∧ Aside0 (Kd.R k62 62 wc w.heap.size (fun k_ => some k_ ≠ ((.slice Ao23 t203.length co23) : Value).ownBlock ∧ some k_ ≠ ((.slice Ao37 t214.length co37) : Value).ownBlock) (.slice Ao30 t209.length co30) t209) ∧ Aside0 (Kd.R k62 62 wc w.heap.size (fun k_ => some k_ ≠ ((.slice Ao23 t203.length co23) : Value).ownBlock ∧ some k_ ≠ ((.slice Ao30 t209.length co30) : Value).ownBlock) (.slice Ao37 t214.length co37) t214) ∧ Aside0 (wc.heap[gb196]? = some (.cells #[.int .i64 a1_0, (.slice A1_1 l1_1.length c1_1)] 43 (0, 0))) ∧ Aside0 (wc.heap[gb207]? = some (.cells #[.int .i64 t202, (.slice Ao23 t203.length co23)] 47 (0, 0))) ∧ Aside0 (wc.heap[gb212]? = some (.cells #[.int .i64 t208, (.slice Ao30 t209.length co30)] 47 (0, 0))) ∧ Aside0 (wc.heap[gb218]? = some (.cells #[.int .i64 t213, (.slice Ao37 t214.length co37)] 47 (0, 0))) ∧ Aside0 (Below w.heap.size w wc))
  case first =>
   have H := HC12.out
   clear HC12
   replace H := Option.bind_eq_some_iff.mp H
   obtain ⟨t219, A380, H⟩ := H
   replace H : (if t219 = true then (laws_FnExactDenyClaim.j0 k a0 t206 t217 (t217 != t206) a1_0 l1_1 t202 t203 t208 t209 t213 t214) else (laws_FnExactDenyClaim.j0 k a0 t206 t217 true a1_0 l1_1 t202 t203 t208 t209 t213 t214)) = some r := H
   have A38 := Aside0.mk A380
   clear A380
   by_cases c39 : t219 = true
   ·subst c39
    have H1 : (laws_FnExactDenyClaim.j0 k a0 t206 t217 (t217 != t206) a1_0 l1_1 t202 t203 t208 t209 t213 t214) = some r := by rw [if_pos rfl] at H; exact H
    clear H
    have H := H1
    clear H1
    have H' := Aside0.mk H
    clear H
    have hnb40 := NB218_196.out
    have hnc40 := NB196_218.out
    have hnb41 := NB218_207.out
    have hnc41 := NB207_218.out
    have hnb42 := NB218_212.out
    have hnc42 := NB212_218.out
    have hcz43_0 : w32.cell? ⟨gb218, 0, none⟩ = some (.int .i64 0) := (blk_cell BK218.out 0).trans rfl
    have hcz43_1 : w32.cell? ⟨gb218, 1, none⟩ = some (.slice none 0 0) := (blk_cell BK218.out 1).trans rfl
    have hfz43_0 := blk_frozen BK218.out 0
    have hfz43_1 := blk_frozen BK218.out 1
    have hnb44 := NB207_196.out
    have hnc44 := NB196_207.out
    have hnb45 := NB207_212.out
    have hnc45 := NB212_207.out
    have hcz46_0 : w32.cell? ⟨gb207, 0, none⟩ = some (.int .i64 t202) := (blk_cell BK207.out 0).trans rfl
    have hcz46_1 : w32.cell? ⟨gb207, 1, none⟩ = some (.slice Ao23 t203.length co23) := (blk_cell BK207.out 1).trans rfl
    have hfz46_0 := blk_frozen BK207.out 0
    have hfz46_1 := blk_frozen BK207.out 1
    go_wp2_with (first | ((with_reducible refine gate_callee (f := 35) rfl ?_); refine goesL_ (some 38) rfl rfl Try.func35 (by kernel_rfl) rfl #[.agg #[.int .i64 t213, .slice Ao37 t214.length co37], .agg #[.int .i64 t202, .slice Ao23 t203.length co23]] rfl pwy_ ?_; (with_reducible refine (laws_eqClaim.calls k t213 _ _ t214 t202 _ _ t203 true _ ?side1 ?side2 ?side3 ?side4 A38.out).mono ?_); (case side1 => refine (Kd.R_reads' (e := 62) (base := w.heap.size) (ok := fun k_ => (((True ∧ some k_ ≠ (.slice Ao18 t199.length co18 : Value).ownBlock) ∧ some k_ ≠ (.slice Ao23 t203.length co23 : Value).ownBlock) ∧ some k_ ≠ (.slice Ao30 t209.length co30 : Value).ownBlock)) (n := t214.length) (c := co37) ?_).2.2; exact (by (with_reducible repeat apply Kd.R_alloc); exact (Kd.R_mono (Kd.R_far (p := ⟨gb218, 1, none⟩) (Kd.R_far (p := ⟨gb218, 0, none⟩) (Kd.R_types HO216.out BK218.out (by decide)) (fun _ hk => hk.2) (.int .i64 t213)) (fun _ hk => hk.2) (.slice Ao37 t214.length co37)) (fun _ h_ => h_.1)))); (case side2 => exact (Kd.R_reads' HO216.out).2.1); (case side3 => refine (Kd.R_reads' (e := 62) (base := w.heap.size) (ok := fun k_ => (((True ∧ some k_ ≠ (.slice Ao18 t199.length co18 : Value).ownBlock) ∧ some k_ ≠ (.slice Ao30 t209.length co30 : Value).ownBlock) ∧ some k_ ≠ (.slice Ao37 t214.length co37 : Value).ownBlock)) (n := t203.length) (c := co23) ?_).2.2; exact (by (with_reducible repeat apply Kd.R_alloc); exact (Kd.R_mono (Kd.R_far (p := ⟨gb218, 1, none⟩) (Kd.R_far (p := ⟨gb218, 0, none⟩) (Kd.R_types HO205.out BK218.out (by decide)) (fun _ hk => hk.2) (.int .i64 t213)) (fun _ hk => hk.2) (.slice Ao37 t214.length co37)) (fun _ h_ => h_.1)))); (case side4 => exact (Kd.R_reads' HO205.out).2.1); rintro e w47 ⟨rfl, hb⟩; refine ⟨_, rfl, ?_⟩; have n0_ := Aside0.mk (Kd.R_below (by (with_reducible repeat apply Kd.R_alloc); exact (Kd.R_mono (Kd.R_far (p := ⟨gb218, 1, none⟩) (Kd.R_far (p := ⟨gb218, 0, none⟩) (Kd.R_types HO201.out BK218.out (by decide)) (fun _ hk => hk.2) (.int .i64 t213)) (fun _ hk => hk.2) (.slice Ao37 t214.length co37)) (fun _ h_ => h_.1))) hb); have n1_ := Aside0.mk (Kd.R_below (by (with_reducible repeat apply Kd.R_alloc); exact (Kd.R_mono (Kd.R_far (p := ⟨gb218, 1, none⟩) (Kd.R_far (p := ⟨gb218, 0, none⟩) (Kd.R_types HO205.out BK218.out (by decide)) (fun _ hk => hk.2) (.int .i64 t213)) (fun _ hk => hk.2) (.slice Ao37 t214.length co37)) (fun _ h_ => h_.1))) hb); have n2_ := Aside0.mk (Kd.R_below (by (with_reducible repeat apply Kd.R_alloc); exact (Kd.R_mono (Kd.R_far (p := ⟨gb218, 1, none⟩) (Kd.R_far (p := ⟨gb218, 0, none⟩) (Kd.R_types HO211.out BK218.out (by decide)) (fun _ hk => hk.2) (.int .i64 t213)) (fun _ hk => hk.2) (.slice Ao37 t214.length co37)) (fun _ h_ => h_.1))) hb); have n3_ := Aside0.mk (Kd.R_below (by (with_reducible repeat apply Kd.R_alloc); exact (Kd.R_mono (Kd.R_far (p := ⟨gb218, 1, none⟩) (Kd.R_far (p := ⟨gb218, 0, none⟩) (Kd.R_types HO216.out BK218.out (by decide)) (fun _ hk => hk.2) (.int .i64 t213)) (fun _ hk => hk.2) (.slice Ao37 t214.length co37)) (fun _ h_ => h_.1))) hb); have n4_ := Aside0.mk (blk_below (g := gb196) (o := .cells #[.int .i64 a1_0, .slice A1_1 l1_1.length c1_1] 43 (0, 0)) (by (with_reducible repeat (first | refine blk_drewN ?_ _ | refine blk_drew ?_ | refine blk_alloc ?_ _)); refine blk_far ?_ NB196_218.out _; (with_reducible repeat (first | refine blk_drewN ?_ _ | refine blk_drew ?_ | refine blk_alloc ?_ _)); refine blk_far ?_ NB196_218.out _; (with_reducible repeat (first | refine blk_drewN ?_ _ | refine blk_drew ?_ | refine blk_alloc ?_ _)); exact BK196.out) hb); have n5_ := Aside0.mk (blk_below (g := gb207) (o := .cells #[.int .i64 t202, .slice Ao23 t203.length co23] 47 (0, 0)) (by (with_reducible repeat (first | refine blk_drewN ?_ _ | refine blk_drew ?_ | refine blk_alloc ?_ _)); refine blk_far ?_ NB207_218.out _; (with_reducible repeat (first | refine blk_drewN ?_ _ | refine blk_drew ?_ | refine blk_alloc ?_ _)); refine blk_far ?_ NB207_218.out _; (with_reducible repeat (first | refine blk_drewN ?_ _ | refine blk_drew ?_ | refine blk_alloc ?_ _)); exact BK207.out) hb); have n6_ := Aside0.mk (blk_below (g := gb212) (o := .cells #[.int .i64 t208, .slice Ao30 t209.length co30] 47 (0, 0)) (by (with_reducible repeat (first | refine blk_drewN ?_ _ | refine blk_drew ?_ | refine blk_alloc ?_ _)); refine blk_far ?_ NB212_218.out _; (with_reducible repeat (first | refine blk_drewN ?_ _ | refine blk_drew ?_ | refine blk_alloc ?_ _)); refine blk_far ?_ NB212_218.out _; (with_reducible repeat (first | refine blk_drewN ?_ _ | refine blk_drew ?_ | refine blk_alloc ?_ _)); exact BK212.out) hb); have n7_ := Aside0.mk (blk_below (g := gb218) (o := .cells #[.int .i64 t213, .slice Ao37 t214.length co37] 47 (0, 0)) (by (with_reducible repeat (first | refine blk_drewN ?_ _ | refine blk_drew ?_ | refine blk_alloc ?_ _)); refine blk_put (cs := #[.int .i64 t213, .slice none 0 0]) ?_ 1 _ rfl; (with_reducible repeat (first | refine blk_drewN ?_ _ | refine blk_drew ?_ | refine blk_alloc ?_ _)); refine blk_put (cs := #[.int .i64 0, .slice none 0 0]) ?_ 0 _ rfl; (with_reducible repeat (first | refine blk_drewN ?_ _ | refine blk_drew ?_ | refine blk_alloc ?_ _)); exact BK218.out) hb); have n8_ := Aside0.mk (below_step pwee_ hb); clear HO201; clear HO205; clear HO211; clear HO216; clear BK196; clear BK207; clear BK212; clear BK218; clear HB; have HO201 := n0_; have HO205 := n1_; have HO211 := n2_; have HO216 := n3_; have BK196 := n4_; have BK207 := n5_; have BK212 := n6_; have BK218 := n7_; have HB := n8_; clear n0_ n1_ n2_ n3_ n4_ n5_ n6_ n7_ n8_; (try clear hb); (try clear hb2); (try clear hk); (try clear hi)))
    go_meet
    case rel => exact ⟨_, ((t217 != t206)), pwa_, H', ⟨by first | omega | exact Nat.le_refl _⟩, ⟨by (with_reducible repeat apply Kd.R_alloc); exact Kd.R_mono HO205.out (fun _ hk => ⟨hk.1.2, hk.2⟩)⟩, ⟨by (with_reducible repeat apply Kd.R_alloc); exact Kd.R_mono HO211.out (fun _ hk => ⟨hk.1.2, hk.2⟩)⟩, ⟨by (with_reducible repeat apply Kd.R_alloc); exact Kd.R_mono HO216.out (fun _ hk => ⟨hk.1.2, hk.2⟩)⟩, ⟨pwr_⟩, ⟨pws_⟩, ⟨pwt_⟩, ⟨pwu_⟩, ⟨pwee_⟩⟩
   ·replace c39 := Bool.eq_false_iff.mpr c39
    subst c39
    have H1 : (laws_FnExactDenyClaim.j0 k a0 t206 t217 true a1_0 l1_1 t202 t203 t208 t209 t213 t214) = some r := by rw [if_neg (show ¬ (false = true) by decide)] at H; exact H
    clear H
    have H := H1
    clear H1
    have H' := Aside0.mk H
    clear H
    have hnb48 := NB218_196.out
    have hnc48 := NB196_218.out
    have hnb49 := NB218_207.out
    have hnc49 := NB207_218.out
    have hnb50 := NB218_212.out
    have hnc50 := NB212_218.out
    have hcz51_0 : w32.cell? ⟨gb218, 0, none⟩ = some (.int .i64 0) := (blk_cell BK218.out 0).trans rfl
    have hcz51_1 : w32.cell? ⟨gb218, 1, none⟩ = some (.slice none 0 0) := (blk_cell BK218.out 1).trans rfl
    have hfz51_0 := blk_frozen BK218.out 0
    have hfz51_1 := blk_frozen BK218.out 1
    have hnb52 := NB207_196.out
    have hnc52 := NB196_207.out
    have hnb53 := NB207_212.out
    have hnc53 := NB212_207.out
    have hcz54_0 : w32.cell? ⟨gb207, 0, none⟩ = some (.int .i64 t202) := (blk_cell BK207.out 0).trans rfl
    have hcz54_1 : w32.cell? ⟨gb207, 1, none⟩ = some (.slice Ao23 t203.length co23) := (blk_cell BK207.out 1).trans rfl
    have hfz54_0 := blk_frozen BK207.out 0
    have hfz54_1 := blk_frozen BK207.out 1
    go_wp2_with (first | ((with_reducible refine gate_callee (f := 35) rfl ?_); refine goesL_ (some 38) rfl rfl Try.func35 (by kernel_rfl) rfl #[.agg #[.int .i64 t213, .slice Ao37 t214.length co37], .agg #[.int .i64 t202, .slice Ao23 t203.length co23]] rfl pwy_ ?_; (with_reducible refine (laws_eqClaim.calls k t213 _ _ t214 t202 _ _ t203 false _ ?side1 ?side2 ?side3 ?side4 A38.out).mono ?_); (case side1 => refine (Kd.R_reads' (e := 62) (base := w.heap.size) (ok := fun k_ => (((True ∧ some k_ ≠ (.slice Ao18 t199.length co18 : Value).ownBlock) ∧ some k_ ≠ (.slice Ao23 t203.length co23 : Value).ownBlock) ∧ some k_ ≠ (.slice Ao30 t209.length co30 : Value).ownBlock)) (n := t214.length) (c := co37) ?_).2.2; exact (by (with_reducible repeat apply Kd.R_alloc); exact (Kd.R_mono (Kd.R_far (p := ⟨gb218, 1, none⟩) (Kd.R_far (p := ⟨gb218, 0, none⟩) (Kd.R_types HO216.out BK218.out (by decide)) (fun _ hk => hk.2) (.int .i64 t213)) (fun _ hk => hk.2) (.slice Ao37 t214.length co37)) (fun _ h_ => h_.1)))); (case side2 => exact (Kd.R_reads' HO216.out).2.1); (case side3 => refine (Kd.R_reads' (e := 62) (base := w.heap.size) (ok := fun k_ => (((True ∧ some k_ ≠ (.slice Ao18 t199.length co18 : Value).ownBlock) ∧ some k_ ≠ (.slice Ao30 t209.length co30 : Value).ownBlock) ∧ some k_ ≠ (.slice Ao37 t214.length co37 : Value).ownBlock)) (n := t203.length) (c := co23) ?_).2.2; exact (by (with_reducible repeat apply Kd.R_alloc); exact (Kd.R_mono (Kd.R_far (p := ⟨gb218, 1, none⟩) (Kd.R_far (p := ⟨gb218, 0, none⟩) (Kd.R_types HO205.out BK218.out (by decide)) (fun _ hk => hk.2) (.int .i64 t213)) (fun _ hk => hk.2) (.slice Ao37 t214.length co37)) (fun _ h_ => h_.1)))); (case side4 => exact (Kd.R_reads' HO205.out).2.1); rintro e w55 ⟨rfl, hb⟩; refine ⟨_, rfl, ?_⟩; have n0_ := Aside0.mk (Kd.R_below (by (with_reducible repeat apply Kd.R_alloc); exact (Kd.R_mono (Kd.R_far (p := ⟨gb218, 1, none⟩) (Kd.R_far (p := ⟨gb218, 0, none⟩) (Kd.R_types HO201.out BK218.out (by decide)) (fun _ hk => hk.2) (.int .i64 t213)) (fun _ hk => hk.2) (.slice Ao37 t214.length co37)) (fun _ h_ => h_.1))) hb); have n1_ := Aside0.mk (Kd.R_below (by (with_reducible repeat apply Kd.R_alloc); exact (Kd.R_mono (Kd.R_far (p := ⟨gb218, 1, none⟩) (Kd.R_far (p := ⟨gb218, 0, none⟩) (Kd.R_types HO205.out BK218.out (by decide)) (fun _ hk => hk.2) (.int .i64 t213)) (fun _ hk => hk.2) (.slice Ao37 t214.length co37)) (fun _ h_ => h_.1))) hb); have n2_ := Aside0.mk (Kd.R_below (by (with_reducible repeat apply Kd.R_alloc); exact (Kd.R_mono (Kd.R_far (p := ⟨gb218, 1, none⟩) (Kd.R_far (p := ⟨gb218, 0, none⟩) (Kd.R_types HO211.out BK218.out (by decide)) (fun _ hk => hk.2) (.int .i64 t213)) (fun _ hk => hk.2) (.slice Ao37 t214.length co37)) (fun _ h_ => h_.1))) hb); have n3_ := Aside0.mk (Kd.R_below (by (with_reducible repeat apply Kd.R_alloc); exact (Kd.R_mono (Kd.R_far (p := ⟨gb218, 1, none⟩) (Kd.R_far (p := ⟨gb218, 0, none⟩) (Kd.R_types HO216.out BK218.out (by decide)) (fun _ hk => hk.2) (.int .i64 t213)) (fun _ hk => hk.2) (.slice Ao37 t214.length co37)) (fun _ h_ => h_.1))) hb); have n4_ := Aside0.mk (blk_below (g := gb196) (o := .cells #[.int .i64 a1_0, .slice A1_1 l1_1.length c1_1] 43 (0, 0)) (by (with_reducible repeat (first | refine blk_drewN ?_ _ | refine blk_drew ?_ | refine blk_alloc ?_ _)); refine blk_far ?_ NB196_218.out _; (with_reducible repeat (first | refine blk_drewN ?_ _ | refine blk_drew ?_ | refine blk_alloc ?_ _)); refine blk_far ?_ NB196_218.out _; (with_reducible repeat (first | refine blk_drewN ?_ _ | refine blk_drew ?_ | refine blk_alloc ?_ _)); exact BK196.out) hb); have n5_ := Aside0.mk (blk_below (g := gb207) (o := .cells #[.int .i64 t202, .slice Ao23 t203.length co23] 47 (0, 0)) (by (with_reducible repeat (first | refine blk_drewN ?_ _ | refine blk_drew ?_ | refine blk_alloc ?_ _)); refine blk_far ?_ NB207_218.out _; (with_reducible repeat (first | refine blk_drewN ?_ _ | refine blk_drew ?_ | refine blk_alloc ?_ _)); refine blk_far ?_ NB207_218.out _; (with_reducible repeat (first | refine blk_drewN ?_ _ | refine blk_drew ?_ | refine blk_alloc ?_ _)); exact BK207.out) hb); have n6_ := Aside0.mk (blk_below (g := gb212) (o := .cells #[.int .i64 t208, .slice Ao30 t209.length co30] 47 (0, 0)) (by (with_reducible repeat (first | refine blk_drewN ?_ _ | refine blk_drew ?_ | refine blk_alloc ?_ _)); refine blk_far ?_ NB212_218.out _; (with_reducible repeat (first | refine blk_drewN ?_ _ | refine blk_drew ?_ | refine blk_alloc ?_ _)); refine blk_far ?_ NB212_218.out _; (with_reducible repeat (first | refine blk_drewN ?_ _ | refine blk_drew ?_ | refine blk_alloc ?_ _)); exact BK212.out) hb); have n7_ := Aside0.mk (blk_below (g := gb218) (o := .cells #[.int .i64 t213, .slice Ao37 t214.length co37] 47 (0, 0)) (by (with_reducible repeat (first | refine blk_drewN ?_ _ | refine blk_drew ?_ | refine blk_alloc ?_ _)); refine blk_put (cs := #[.int .i64 t213, .slice none 0 0]) ?_ 1 _ rfl; (with_reducible repeat (first | refine blk_drewN ?_ _ | refine blk_drew ?_ | refine blk_alloc ?_ _)); refine blk_put (cs := #[.int .i64 0, .slice none 0 0]) ?_ 0 _ rfl; (with_reducible repeat (first | refine blk_drewN ?_ _ | refine blk_drew ?_ | refine blk_alloc ?_ _)); exact BK218.out) hb); have n8_ := Aside0.mk (below_step pwee_ hb); clear HO201; clear HO205; clear HO211; clear HO216; clear BK196; clear BK207; clear BK212; clear BK218; clear HB; have HO201 := n0_; have HO205 := n1_; have HO211 := n2_; have HO216 := n3_; have BK196 := n4_; have BK207 := n5_; have BK212 := n6_; have BK218 := n7_; have HB := n8_; clear n0_ n1_ n2_ n3_ n4_ n5_ n6_ n7_ n8_; (try clear hb); (try clear hb2); (try clear hk); (try clear hi)))
    go_meet
    case rel => exact ⟨_, (true), pwa_, H', ⟨by first | omega | exact Nat.le_refl _⟩, ⟨by (with_reducible repeat apply Kd.R_alloc); exact Kd.R_mono HO205.out (fun _ hk => ⟨hk.1.2, hk.2⟩)⟩, ⟨by (with_reducible repeat apply Kd.R_alloc); exact Kd.R_mono HO211.out (fun _ hk => ⟨hk.1.2, hk.2⟩)⟩, ⟨by (with_reducible repeat apply Kd.R_alloc); exact Kd.R_mono HO216.out (fun _ hk => ⟨hk.1.2, hk.2⟩)⟩, ⟨pwr_⟩, ⟨pws_⟩, ⟨pwt_⟩, ⟨pwu_⟩, ⟨pwee_⟩⟩
  case rest =>
   clear HC12
   try clear c1
   try clear c2
   try clear p2
   try clear c3
   try clear c4
   try clear c4b0
   try clear c5
   try clear c10
   try clear c21
   try clear c27
   try clear c28
   try clear c31
   try clear c33
   try clear c34
   try clear c35
   try clear c39
   try clear c40
   try clear c41
   try clear c42
   try clear c44
   try clear c45
   try clear c47
   try clear c48
   try clear c49
   try clear c50
   try clear c52
   try clear c53
   try clear hcz14_0
   try clear hcz14_1
   try clear hcz16_0
   try clear hcz16_1
   try clear hcz22_0
   try clear hcz22_1
   try clear hcz24_0
   try clear hcz24_1
   try clear hcz29_0
   try clear hcz29_1
   try clear hcz36_0
   try clear hcz36_1
   try clear hcz43_0
   try clear hcz43_1
   try clear hcz46_0
   try clear hcz46_1
   try clear hcz51_0
   try clear hcz51_1
   try clear hcz54_0
   try clear hcz54_1
   try clear hcz6_0
   try clear hcz6_1
   try clear hfz14_0
   try clear hfz14_1
   try clear hfz16_0
   try clear hfz16_1
   try clear hfz22_0
   try clear hfz22_1
   try clear hfz24_0
   try clear hfz24_1
   try clear hfz29_0
   try clear hfz29_1
   try clear hfz36_0
   try clear hfz36_1
   try clear hfz43_0
   try clear hfz43_1
   try clear hfz46_0
   try clear hfz46_1
   try clear hfz51_0
   try clear hfz51_1
   try clear hfz54_0
   try clear hfz54_1
   try clear hfz6_0
   try clear hfz6_1
   obtain ⟨kq, x44_11, rfl, HA, HJ11, HO_208001, HO_213001, HO_219001, BK196, BK207, BK212, BK218, HB⟩ := hcut
   cases kq with
   | zero => exact absurd HA.out (by simp [laws_FnExactDenyClaim.j0])
   | succ kj11 =>
    have H := HA.out
    clear HA
    simp only [laws_FnExactDenyClaim.j0] at H
    by_cases c56 : x44_11 = true
    ·subst c56
     have H1 : (some false) = some r := by rw [if_pos rfl] at H; exact H
     clear H
     have H := H1
     clear H1
     obtain rfl := Option.some.inj H
     go_wp2
     go_ret
     exact ⟨by first | rfl | (simp [errW_none, errW_some] <;> rfl) | (simp [*, errW_none, errW_some] <;> rfl), pwee_⟩
    ·replace c56 := Bool.eq_false_iff.mpr c56
     subst c56
     have H1 : ((laws_toClaim.f kj11 a1_0 l1_1).bind fun bt220 => ((laws_eqClaim.f kj11 t208 t209 bt220.1 bt220.2).bind fun t224 => (if t224 = true then ((laws_markClaim.f kj11 t208 t209 1).bind fun bt225 => (if bt225.1 < 0 then (laws_FnExactDenyClaim.j1 kj11 a0 t206 true a1_0 l1_1 t202 t203 t213 t214) else ((laws_eqClaim.f kj11 t213 t214 t202 t203).bind fun t227 => (if t227 = true then (laws_FnExactDenyClaim.j1 kj11 a0 t206 (t217 != t206) a1_0 l1_1 t202 t203 t213 t214) else (laws_FnExactDenyClaim.j1 kj11 a0 t206 true a1_0 l1_1 t202 t203 t213 t214))))) else (some false)))) = some r := by rw [if_neg (show ¬ (false = true) by decide)] at H; exact H
     clear H
     have H := H1
     clear H1
     replace H := Option.bind_eq_some_iff.mp H
     obtain ⟨⟨t220, t221⟩, A570, H⟩ := H
     replace H : ((laws_eqClaim.f kj11 t208 t209 t220 t221).bind fun t224 => (if t224 = true then ((laws_markClaim.f kj11 t208 t209 1).bind fun bt225 => (if bt225.1 < 0 then (laws_FnExactDenyClaim.j1 kj11 a0 t206 true a1_0 l1_1 t202 t203 t213 t214) else ((laws_eqClaim.f kj11 t213 t214 t202 t203).bind fun t227 => (if t227 = true then (laws_FnExactDenyClaim.j1 kj11 a0 t206 (t217 != t206) a1_0 l1_1 t202 t203 t213 t214) else (laws_FnExactDenyClaim.j1 kj11 a0 t206 true a1_0 l1_1 t202 t203 t213 t214))))) else (some false))) = some r := H
     have A57 := Aside0.mk A570
     clear A570
     replace H := Option.bind_eq_some_iff.mp H
     obtain ⟨t224, A580, H⟩ := H
     replace H : (if t224 = true then ((laws_markClaim.f kj11 t208 t209 1).bind fun bt225 => (if bt225.1 < 0 then (laws_FnExactDenyClaim.j1 kj11 a0 t206 true a1_0 l1_1 t202 t203 t213 t214) else ((laws_eqClaim.f kj11 t213 t214 t202 t203).bind fun t227 => (if t227 = true then (laws_FnExactDenyClaim.j1 kj11 a0 t206 (t217 != t206) a1_0 l1_1 t202 t203 t213 t214) else (laws_FnExactDenyClaim.j1 kj11 a0 t206 true a1_0 l1_1 t202 t203 t213 t214))))) else (some false)) = some r := H
     have A58 := Aside0.mk A580
     clear A580
     by_cases c59 : t224 = true
     ·subst c59
      have H1 : ((laws_markClaim.f kj11 t208 t209 1).bind fun bt225 => (if bt225.1 < 0 then (laws_FnExactDenyClaim.j1 kj11 a0 t206 true a1_0 l1_1 t202 t203 t213 t214) else ((laws_eqClaim.f kj11 t213 t214 t202 t203).bind fun t227 => (if t227 = true then (laws_FnExactDenyClaim.j1 kj11 a0 t206 (t217 != t206) a1_0 l1_1 t202 t203 t213 t214) else (laws_FnExactDenyClaim.j1 kj11 a0 t206 true a1_0 l1_1 t202 t203 t213 t214))))) = some r := by rw [if_pos rfl] at H; exact H
      clear H
      have H := H1
      clear H1
      replace H := Option.bind_eq_some_iff.mp H
      obtain ⟨⟨t225, t226⟩, A600, H⟩ := H
      replace H : (if t225 < 0 then (laws_FnExactDenyClaim.j1 kj11 a0 t206 true a1_0 l1_1 t202 t203 t213 t214) else ((laws_eqClaim.f kj11 t213 t214 t202 t203).bind fun t227 => (if t227 = true then (laws_FnExactDenyClaim.j1 kj11 a0 t206 (t217 != t206) a1_0 l1_1 t202 t203 t213 t214) else (laws_FnExactDenyClaim.j1 kj11 a0 t206 true a1_0 l1_1 t202 t203 t213 t214)))) = some r := H
      have A60 := Aside0.mk A600
      clear A600
      have HC61 := Aside0.mk H
      clear H
      try go_wp2
      have n0_ := Aside0.mk (Kd.R_drew HO_208001.out)
      have n1_ := Aside0.mk (Kd.R_drew HO_213001.out)
      have n2_ := Aside0.mk (Kd.R_drew HO_219001.out)
      have n3_ := Aside0.mk (blk_drew BK196.out)
      have n4_ := Aside0.mk (blk_drew BK207.out)
      have n5_ := Aside0.mk (blk_drew BK212.out)
      have n6_ := Aside0.mk (blk_drew BK218.out)
      have n7_ := Aside0.mk (below_drew1 HB.out)
      clear HO_208001
      clear HO_213001
      clear HO_219001
      clear BK196
      clear BK207
      clear BK212
      clear BK218
      clear HB
      have HO_208001 := n0_
      have HO_213001 := n1_
      have HO_219001 := n2_
      have BK196 := n3_
      have BK207 := n4_
      have BK212 := n5_
      have BK218 := n6_
      have HB := n7_
      clear n0_ n1_ n2_ n3_ n4_ n5_ n6_ n7_
      refine start_ (n := 5) (S := fun w' => w'.cell? ⟨gb212, 0, none⟩ = some (.int .i64 t208) ∧ w'.cell? ⟨gb212, 1, none⟩ = some (.slice Ao30 t209.length co30) ∧ w'.cell? ⟨gb196, 0, none⟩ = some (.int .i64 a1_0) ∧ w'.cell? ⟨gb196, 1, none⟩ = some (.slice A1_1 l1_1.length c1_1)) (ds := []) #[false, false, false, false, false] (by kernel_rfl) rfl rfl ⟨(blk_cell BK212.out 0).trans rfl, (blk_cell BK212.out 1).trans rfl, (blk_cell BK196.out 0).trans rfl, (blk_cell BK196.out 1).trans rfl⟩ (fun hHeld => ?_)
      generalize wc.drew = w62 at HO_208001 HO_213001 HO_219001 BK196 BK207 BK212 BK218 HB hHeld ⊢
      refine take_ (i := 0) (N := some 45) (v := ?_) (a' := ?_) #[true, false, false, false, false] rfl rfl (by kernel_rfl) (fun _ _ _ h => h) (Or.inl ⟨by rfl, ?_⟩) hHeld ?_ ?_
      rotate_left
      ·rintro w' ⟨s0, s1, s2, s3⟩
       go_simp
       with_reducible rfl
      rotate_left
      ·simp only [Act.put, List.setIfInBounds_toArray, List.set_cons_zero, List.set_cons_succ, i64_w, i32_w]
       rfl
      refine take_ (i := 1) (N := some 46) (v := ?_) (a' := ?_) #[true, true, false, false, false] rfl rfl (by kernel_rfl) (fun _ _ _ h => h) (Or.inl ⟨by rfl, ?_⟩) hHeld ?_ ?_
      rotate_left
      ·rintro w' ⟨s0, s1, s2, s3⟩
       go_simp
       with_reducible rfl
      rotate_left
      ·simp only [Act.put, List.setIfInBounds_toArray, List.set_cons_zero, List.set_cons_succ, i64_w, i32_w]
       rfl
      refine one_ (i := 2) (N := some 47) #[true, true, true, false, false] rfl rfl (by kernel_rfl) (by decide) (fun K hK => ?_)
      refine goes_ Try.func33 (by kernel_rfl) rfl #[.agg #[.int .i64 a1_0, .slice A1_1 l1_1.length c1_1]] (by rfl) rfl rfl pwy_ ?_
      with_reducible refine (laws_toClaim.calls kj11 a1_0 _ _ l1_1 t220 t221 _ ?side1 ?side2 A57.out).mono ?_
      (case side1 => repeat (first | exact (Kd.C_below HR1_1.out HB.out) | (with_reducible refine Kd.C_alloc ?_ _) | (with_reducible refine Kd.C_drewN ?_ _) | (with_reducible refine Kd.C_drew ?_)))
      (case side2 => exact HC1_1.out)
      rintro e w63 ⟨v222, rfl, ho0, hb⟩
      refine ⟨_, rfl, ?_⟩
      have n0_ := Aside0.mk (Kd.R_elder' pwc_ (Kd.R_base ho0) hb)
      have n1_ := Aside0.mk (Kd.R_elder' pwd_ (Kd.R_base ho0) hb)
      have n2_ := Aside0.mk (Kd.R_elder' pwe_ (Kd.R_base ho0) hb)
      have n3_ := Aside0.mk (Kd.R_lower (Kd.R_new' (Kd.R_new' (Kd.R_new' ho0 (Kd.R_lt pwc_)) (Kd.R_lt pwd_)) (Kd.R_lt pwe_)) (below_size pwee_))
      have n4_ := Aside0.mk (blk_below (g := gb196) (o := .cells #[.int .i64 a1_0, .slice A1_1 l1_1.length c1_1] 43 (0, 0)) pwr_ hb)
      have n5_ := Aside0.mk (blk_below (g := gb207) (o := .cells #[.int .i64 t202, .slice Ao23 t203.length co23] 47 (0, 0)) pws_ hb)
      have n6_ := Aside0.mk (blk_below (g := gb212) (o := .cells #[.int .i64 t208, .slice Ao30 t209.length co30] 47 (0, 0)) pwt_ hb)
      have n7_ := Aside0.mk (blk_below (g := gb218) (o := .cells #[.int .i64 t213, .slice Ao37 t214.length co37] 47 (0, 0)) pwu_ hb)
      have n8_ := Aside0.mk (below_step pwee_ hb)
      clear HO_208001
      clear HO_213001
      clear HO_219001
      clear BK196
      clear BK207
      clear BK212
      clear BK218
      clear HB
      have HO_208001 := n0_
      have HO_213001 := n1_
      have HO_219001 := n2_
      have HO223 := n3_
      have BK196 := n4_
      have BK207 := n5_
      have BK212 := n6_
      have BK218 := n7_
      have HB := n8_
      clear n0_ n1_ n2_ n3_ n4_ n5_ n6_ n7_ n8_
      (try clear hb)
      (try clear hb2)
      (try clear hk)
      (try clear hi)
      (try clear ho0)
      obtain ⟨Ao64, co64, eo64⟩ := Kd.R_slice HO223.out
      (first | subst eo64 | (injection eo64 with f1_ f2_ f3_; have f4_ := f1_.symm; have f5_ := f3_.symm; clear f1_ f2_ f3_; subst f4_; subst f5_))
      refine hK.out _ _ ⟨(blk_cell BK212.out 0).trans rfl, (blk_cell BK212.out 1).trans rfl, (blk_cell BK196.out 0).trans rfl, (blk_cell BK196.out 1).trans rfl⟩ (fun hHeld => ?_)
      clear hK K
      refine norm_ (a' := ?_) ?_ ?_
      rotate_left
      ·show Act.put _ (some 47) _ = _
       simp only [Act.put, List.setIfInBounds_toArray, List.set_cons_zero, List.set_cons_succ, i64_w, i32_w]
       rfl
      refine one_ (i := 3) (N := some 48) #[true, true, true, true, false] rfl rfl (by kernel_rfl) (by decide) (fun K hK => ?_)
      refine goes_ Try.func35 (by kernel_rfl) rfl #[.agg #[.int .i64 t208, .slice Ao30 t209.length co30], .agg #[.int .i64 t220, .slice Ao64 t221.length co64]] (by rfl) rfl rfl pwy_ ?_
      with_reducible refine (laws_eqClaim.calls kj11 t208 _ _ t209 t220 _ _ t221 true _ ?side1 ?side2 ?side3 ?side4 A58.out).mono ?_
      (case side1 => repeat (first | exact (Kd.R_reads' HO_213001.out).2.2 | (with_reducible refine Kd.C_alloc ?_ _) | (with_reducible refine Kd.C_drewN ?_ _) | (with_reducible refine Kd.C_drew ?_)))
      (case side2 => exact (Kd.R_reads' HO_213001.out).2.1)
      (case side3 => repeat (first | exact (Kd.R_reads' HO223.out).2.2 | (with_reducible refine Kd.C_alloc ?_ _) | (with_reducible refine Kd.C_drewN ?_ _) | (with_reducible refine Kd.C_drew ?_)))
      (case side4 => exact (Kd.R_reads' HO223.out).2.1)
      rintro e w65 ⟨rfl, hb⟩
      refine ⟨_, rfl, ?_⟩
      have n0_ := Aside0.mk (Kd.R_below pwc_ hb)
      have n1_ := Aside0.mk (Kd.R_below pwd_ hb)
      have n2_ := Aside0.mk (Kd.R_below pwe_ hb)
      have n3_ := Aside0.mk (Kd.R_below (by (with_reducible repeat apply Kd.R_alloc); exact HO223.out) hb)
      have n4_ := Aside0.mk (blk_below (g := gb196) (o := .cells #[.int .i64 a1_0, .slice A1_1 l1_1.length c1_1] 43 (0, 0)) pwr_ hb)
      have n5_ := Aside0.mk (blk_below (g := gb207) (o := .cells #[.int .i64 t202, .slice Ao23 t203.length co23] 47 (0, 0)) pws_ hb)
      have n6_ := Aside0.mk (blk_below (g := gb212) (o := .cells #[.int .i64 t208, .slice Ao30 t209.length co30] 47 (0, 0)) pwt_ hb)
      have n7_ := Aside0.mk (blk_below (g := gb218) (o := .cells #[.int .i64 t213, .slice Ao37 t214.length co37] 47 (0, 0)) pwu_ hb)
      have n8_ := Aside0.mk (below_step pwee_ hb)
      clear HO_208001
      clear HO_213001
      clear HO_219001
      clear HO223
      clear BK196
      clear BK207
      clear BK212
      clear BK218
      clear HB
      have HO_208001 := n0_
      have HO_213001 := n1_
      have HO_219001 := n2_
      have HO223 := n3_
      have BK196 := n4_
      have BK207 := n5_
      have BK212 := n6_
      have BK218 := n7_
      have HB := n8_
      clear n0_ n1_ n2_ n3_ n4_ n5_ n6_ n7_ n8_
      (try clear hb)
      (try clear hb2)
      (try clear hk)
      (try clear hi)
      refine hK.out _ _ ⟨(blk_cell BK212.out 0).trans rfl, (blk_cell BK212.out 1).trans rfl, (blk_cell BK196.out 0).trans rfl, (blk_cell BK196.out 1).trans rfl⟩ (fun hHeld => ?_)
      clear hK K
      refine norm_ (a' := ?_) ?_ ?_
      rotate_left
      ·show Act.put _ (some 48) _ = _
       simp only [Act.put, List.setIfInBounds_toArray, List.set_cons_zero, List.set_cons_succ, i64_w, i32_w]
       rfl
      refine pure_ (i := 4) (N := some 49) (v := ?_) (a' := ?_) #[true, true, true, true, true] rfl rfl (by kernel_rfl) (fun _ _ _ h => h) (Or.inl ⟨by rfl, ?_⟩) ?_ ?_
      rotate_left
      ·intro w'
       go_simp
       with_reducible rfl
      rotate_left
      ·simp only [Act.put, List.setIfInBounds_toArray, List.set_cons_zero, List.set_cons_succ, i64_w, i32_w]
       rfl
      refine done_ (by kernel_rfl) ?_
      have hnb66 := NB212_196.out
      have hnc66 := NB196_212.out
      have hnb67 := NB212_207.out
      have hnc67 := NB207_212.out
      have hnb68 := NB212_218.out
      have hnc68 := NB218_212.out
      have hcz69_0 : w65.cell? ⟨gb212, 0, none⟩ = some (.int .i64 t208) := (blk_cell BK212.out 0).trans rfl
      have hcz69_1 : w65.cell? ⟨gb212, 1, none⟩ = some (.slice Ao30 t209.length co30) := (blk_cell BK212.out 1).trans rfl
      have hfz69_0 := blk_frozen BK212.out 0
      have hfz69_1 := blk_frozen BK212.out 1
      go_upto_region 14 with (first | ((with_reducible refine gate_callee (f := 36) rfl ?_); refine goesL_ (some 52) rfl rfl Try.func36 (by kernel_rfl) rfl #[.agg #[.int .i64 t208, .slice Ao30 t209.length co30], .int .i64 1] rfl pwy_ ?_; (with_reducible refine (laws_markClaim.calls kj11 t208 (fun k_ => some k_ = (.slice Ao30 t209.length co30 : Value).ownBlock) (.slice Ao30 t209.length co30) t209 1 t225 t226 w _ ?side1 ?side2 A60.out).mono ?_); (case side1 => repeat (first | (with_reducible first | exact HB.out | apply below_alloc | apply pw_below_drewN | apply below_drew1 | refine below_set ?_ GE196.out | refine below_set ?_ GE207.out | refine below_set ?_ GE212.out | refine below_set ?_ GE218.out) | exact HB.out)); (case side2 => exact Kd.R_tight rfl HO_213001.out); rintro e w70 ⟨rfl, hy0, hb, hkp⟩; refine ⟨_, rfl, ?_⟩; have n0_ := Aside0.mk (Kd.R_mono (ok' := fun k_ => some k_ ≠ (.slice Ao30 t209.length co30 : Value).ownBlock ∧ some k_ ≠ (.slice Ao37 t214.length co37 : Value).ownBlock ∧ some k_ ≠ (.slice Ao64 t221.length co64 : Value).ownBlock) (Kd.R_keptB (HO_208001.out) hkp (fun k_ hk_ hs_ => (hk_.1.1) hs_)) (fun k_ hk_ => ⟨hk_.1.1.1, hk_.1.1.2, hk_.1.2⟩)); have n1_ := Aside0.mk (Kd.R_reok rfl hy0 (fun k_ e_ => HO_213001.out.1 k_ e_)); have n2_ := Aside0.mk (Kd.R_mono (ok' := fun k_ => some k_ ≠ (.slice Ao23 t203.length co23 : Value).ownBlock ∧ some k_ ≠ (.slice Ao30 t209.length co30 : Value).ownBlock ∧ some k_ ≠ (.slice Ao64 t221.length co64 : Value).ownBlock) (Kd.R_keptB (HO_219001.out) hkp (fun k_ hk_ hs_ => (hk_.1.2) hs_)) (fun k_ hk_ => ⟨hk_.1.1.1, hk_.1.1.2, hk_.1.2⟩)); have n3_ := Aside0.mk (blk_kept pwr_ hkp (fun hs_ => (fun e_ => (Kd.R_ne HO_213001.out BK196.out (by decide)) e_) hs_)); have n4_ := Aside0.mk (blk_kept pws_ hkp (fun hs_ => (fun e_ => (Kd.R_ne HO_213001.out BK207.out (by decide)) e_) hs_)); have n5_ := Aside0.mk (blk_kept pwt_ hkp (fun hs_ => (fun e_ => (Kd.R_ne HO_213001.out BK212.out (by decide)) e_) hs_)); have n6_ := Aside0.mk (blk_kept pwu_ hkp (fun hs_ => (fun e_ => (Kd.R_ne HO_213001.out BK218.out (by decide)) e_) hs_)); have n7_ := Aside0.mk (Kd.R_mono (ok' := fun k_ => some k_ ≠ (.slice Ao23 t203.length co23 : Value).ownBlock ∧ some k_ ≠ (.slice Ao30 t209.length co30 : Value).ownBlock ∧ some k_ ≠ (.slice Ao37 t214.length co37 : Value).ownBlock) (Kd.R_keptB (HO223.out) hkp (fun k_ hk_ hs_ => (hk_.1.2) hs_)) (fun k_ hk_ => ⟨hk_.1.1.1.2, hk_.1.1.2, hk_.1.2⟩)); have n8_ := Aside0.mk (hb); clear HO_208001; clear HO_213001; clear HO_219001; clear BK196; clear BK207; clear BK212; clear BK218; clear HO223; clear HB; have HO_208001 := n0_; have HO_213001 := n1_; have HO_219001 := n2_; have BK196 := n3_; have BK207 := n4_; have BK212 := n5_; have BK218 := n6_; have HO223 := n7_; have HB := n8_; clear n0_ n1_ n2_ n3_ n4_ n5_ n6_ n7_ n8_; (try clear hb); (try clear hkp); (try clear hy0)))
      (try simp only [Act.put, List.setIfInBounds_toArray, List.set_cons_zero, List.set_cons_succ])
      go_cut [65] (fun v65 wc => ∃ (kq : Nat) (x65_60 : Bool), v65 = .bool x65_60 ∧ Aside0 (laws_FnExactDenyClaim.j1 kq a0 t206 x65_60 a1_0 l1_1 t202 t203 t213 t214 = some r) ∧ Aside0 (kq ≤ kj11) ∧ Aside0 (Kd.R k62 62 wc w.heap.size (fun k_ => some k_ ≠ ((.slice Ao30 t209.length co30) : Value).ownBlock ∧ some k_ ≠ ((.slice Ao37 t214.length co37) : Value).ownBlock) (.slice Ao23 t203.length co23) t203) ∧ Aside0 (Kd.R k62 62 wc w.heap.size (fun k_ => some k_ ≠ ((.slice Ao23 t203.length co23) : Value).ownBlock ∧ some k_ ≠ ((.slice Ao37 t214.length co37) : Value).ownBlock) (.slice Ao30 t209.length co30) t226) ∧ Aside0 (Kd.R k62 62 wc w.heap.size (fun k_ => some k_ ≠ ((.slice Ao23 t203.length co23) : Value).ownBlock ∧ some k_ ≠ ((.slice Ao30 t209.length co30) : Value).ownBlock) (.slice Ao37 t214.length co37) t214) ∧ Aside0 (wc.heap[gb196]? = some (.cells #[.int .i64 a1_0, (.slice A1_1 l1_1.length c1_1)] 43 (0, 0))) ∧ Aside0 (wc.heap[gb207]? = some (.cells #[.int .i64 t202, (.slice Ao23 t203.length co23)] 47 (0, 0))) ∧ Aside0 (wc.heap[gb212]? = some (.cells #[.int .i64 t208, (.slice Ao30 t209.length co30)] 47 (0, 0))) ∧ Aside0 (wc.heap[gb218]? = some (.cells #[.int .i64 t213, (.slice Ao37 t214.length co37)] 47 (0, 0))) ∧ Aside0 (Below w.heap.size w wc))
      case first =>
       have H := HC61.out
       clear HC61
       by_cases c71 : t225 < 0
       ·rw [if_pos c71] at H
        have c71b0 : decide (t225 < 0) = true := decide_eq_true c71
        clear c71
        (first | rw [c71b0] | (simp only [i64_w, i32_w]; rw [c71b0]) | skip)
        have H' := Aside0.mk H
        clear H
        go_wp2
        go_meet
        case rel => exact ⟨_, (true), pwa_, H', ⟨by have := HJ11.out; first | omega | exact Nat.le_refl _⟩, ⟨by (with_reducible repeat apply Kd.R_alloc); exact Kd.R_mono HO_208001.out (fun _ hk => ⟨hk.1, hk.2.1⟩)⟩, ⟨by (with_reducible repeat apply Kd.R_alloc); exact Kd.R_mono HO_213001.out (fun _ hk => ⟨hk.1.1, hk.1.2⟩)⟩, ⟨by (with_reducible repeat apply Kd.R_alloc); exact Kd.R_mono HO_219001.out (fun _ hk => ⟨hk.1, hk.2.1⟩)⟩, ⟨pwr_⟩, ⟨pws_⟩, ⟨pwt_⟩, ⟨pwu_⟩, ⟨pwee_⟩⟩
       ·rw [if_neg c71] at H
        have c71b0 : decide (t225 < 0) = false := decide_eq_false c71
        clear c71
        (first | rw [c71b0] | (simp only [i64_w, i32_w]; rw [c71b0]) | skip)
        replace H := Option.bind_eq_some_iff.mp H
        obtain ⟨t227, A720, H⟩ := H
        replace H : (if t227 = true then (laws_FnExactDenyClaim.j1 kj11 a0 t206 (t217 != t206) a1_0 l1_1 t202 t203 t213 t214) else (laws_FnExactDenyClaim.j1 kj11 a0 t206 true a1_0 l1_1 t202 t203 t213 t214)) = some r := H
        have A72 := Aside0.mk A720
        clear A720
        by_cases c73 : t227 = true
        ·subst c73
         have H1 : (laws_FnExactDenyClaim.j1 kj11 a0 t206 (t217 != t206) a1_0 l1_1 t202 t203 t213 t214) = some r := by rw [if_pos rfl] at H; exact H
         clear H
         have H := H1
         clear H1
         have H' := Aside0.mk H
         clear H
         have hnb74 := NB218_196.out
         have hnc74 := NB196_218.out
         have hnb75 := NB218_207.out
         have hnc75 := NB207_218.out
         have hnb76 := NB218_212.out
         have hnc76 := NB212_218.out
         have hcz77_0 : w70.cell? ⟨gb218, 0, none⟩ = some (.int .i64 t213) := (blk_cell BK218.out 0).trans rfl
         have hcz77_1 : w70.cell? ⟨gb218, 1, none⟩ = some (.slice Ao37 t214.length co37) := (blk_cell BK218.out 1).trans rfl
         have hfz77_0 := blk_frozen BK218.out 0
         have hfz77_1 := blk_frozen BK218.out 1
         have hnb78 := NB207_196.out
         have hnc78 := NB196_207.out
         have hnb79 := NB207_212.out
         have hnc79 := NB212_207.out
         have hcz80_0 : w70.cell? ⟨gb207, 0, none⟩ = some (.int .i64 t202) := (blk_cell BK207.out 0).trans rfl
         have hcz80_1 : w70.cell? ⟨gb207, 1, none⟩ = some (.slice Ao23 t203.length co23) := (blk_cell BK207.out 1).trans rfl
         have hfz80_0 := blk_frozen BK207.out 0
         have hfz80_1 := blk_frozen BK207.out 1
         go_wp2_with (first | (go_at_call 35; (with_reducible refine (laws_eqClaim.calls kj11 t213 _ _ t214 t202 _ _ t203 true _ ?side1 ?side2 ?side3 ?side4 A72.out).mono ?_); (case side1 => repeat (first | exact (Kd.R_reads' HO_219001.out).2.2 | (with_reducible refine Kd.C_alloc ?_ _) | (with_reducible refine Kd.C_drewN ?_ _) | (with_reducible refine Kd.C_drew ?_))); (case side2 => exact (Kd.R_reads' HO_219001.out).2.1); (case side3 => repeat (first | exact (Kd.R_reads' HO_208001.out).2.2 | (with_reducible refine Kd.C_alloc ?_ _) | (with_reducible refine Kd.C_drewN ?_ _) | (with_reducible refine Kd.C_drew ?_))); (case side4 => exact (Kd.R_reads' HO_208001.out).2.1); rintro e w81 ⟨rfl, hb⟩; have n0_ := Aside0.mk (Kd.R_below pwc_ hb); have n1_ := Aside0.mk (Kd.R_below pwd_ hb); have n2_ := Aside0.mk (Kd.R_below pwe_ hb); have n3_ := Aside0.mk (Kd.R_below (by (with_reducible repeat apply Kd.R_alloc); exact HO223.out) hb); have n4_ := Aside0.mk (blk_below (g := gb196) (o := .cells #[.int .i64 a1_0, .slice A1_1 l1_1.length c1_1] 43 (0, 0)) pwr_ hb); have n5_ := Aside0.mk (blk_below (g := gb207) (o := .cells #[.int .i64 t202, .slice Ao23 t203.length co23] 47 (0, 0)) pws_ hb); have n6_ := Aside0.mk (blk_below (g := gb212) (o := .cells #[.int .i64 t208, .slice Ao30 t209.length co30] 47 (0, 0)) pwt_ hb); have n7_ := Aside0.mk (blk_below (g := gb218) (o := .cells #[.int .i64 t213, .slice Ao37 t214.length co37] 47 (0, 0)) pwu_ hb); have n8_ := Aside0.mk (below_step pwee_ hb); clear HO_208001; clear HO_213001; clear HO_219001; clear HO223; clear BK196; clear BK207; clear BK212; clear BK218; clear HB; have HO_208001 := n0_; have HO_213001 := n1_; have HO_219001 := n2_; have HO223 := n3_; have BK196 := n4_; have BK207 := n5_; have BK212 := n6_; have BK218 := n7_; have HB := n8_; clear n0_ n1_ n2_ n3_ n4_ n5_ n6_ n7_ n8_; (try clear hb); (try clear hb2); (try clear hk); (try clear hi)))
         go_meet
         case rel => exact ⟨_, ((t217 != t206)), pwa_, H', ⟨by have := HJ11.out; first | omega | exact Nat.le_refl _⟩, ⟨by (with_reducible repeat apply Kd.R_alloc); exact Kd.R_mono HO_208001.out (fun _ hk => ⟨hk.1, hk.2.1⟩)⟩, ⟨by (with_reducible repeat apply Kd.R_alloc); exact Kd.R_mono HO_213001.out (fun _ hk => ⟨hk.1.1, hk.1.2⟩)⟩, ⟨by (with_reducible repeat apply Kd.R_alloc); exact Kd.R_mono HO_219001.out (fun _ hk => ⟨hk.1, hk.2.1⟩)⟩, ⟨pwr_⟩, ⟨pws_⟩, ⟨pwt_⟩, ⟨pwu_⟩, ⟨pwee_⟩⟩
        ·replace c73 := Bool.eq_false_iff.mpr c73
         subst c73
         have H1 : (laws_FnExactDenyClaim.j1 kj11 a0 t206 true a1_0 l1_1 t202 t203 t213 t214) = some r := by rw [if_neg (show ¬ (false = true) by decide)] at H; exact H
         clear H
         have H := H1
         clear H1
         have H' := Aside0.mk H
         clear H
         have hnb82 := NB218_196.out
         have hnc82 := NB196_218.out
         have hnb83 := NB218_207.out
         have hnc83 := NB207_218.out
         have hnb84 := NB218_212.out
         have hnc84 := NB212_218.out
         have hcz85_0 : w70.cell? ⟨gb218, 0, none⟩ = some (.int .i64 t213) := (blk_cell BK218.out 0).trans rfl
         have hcz85_1 : w70.cell? ⟨gb218, 1, none⟩ = some (.slice Ao37 t214.length co37) := (blk_cell BK218.out 1).trans rfl
         have hfz85_0 := blk_frozen BK218.out 0
         have hfz85_1 := blk_frozen BK218.out 1
         have hnb86 := NB207_196.out
         have hnc86 := NB196_207.out
         have hnb87 := NB207_212.out
         have hnc87 := NB212_207.out
         have hcz88_0 : w70.cell? ⟨gb207, 0, none⟩ = some (.int .i64 t202) := (blk_cell BK207.out 0).trans rfl
         have hcz88_1 : w70.cell? ⟨gb207, 1, none⟩ = some (.slice Ao23 t203.length co23) := (blk_cell BK207.out 1).trans rfl
         have hfz88_0 := blk_frozen BK207.out 0
         have hfz88_1 := blk_frozen BK207.out 1
         go_wp2_with (first | (go_at_call 35; (with_reducible refine (laws_eqClaim.calls kj11 t213 _ _ t214 t202 _ _ t203 false _ ?side1 ?side2 ?side3 ?side4 A72.out).mono ?_); (case side1 => repeat (first | exact (Kd.R_reads' HO_219001.out).2.2 | (with_reducible refine Kd.C_alloc ?_ _) | (with_reducible refine Kd.C_drewN ?_ _) | (with_reducible refine Kd.C_drew ?_))); (case side2 => exact (Kd.R_reads' HO_219001.out).2.1); (case side3 => repeat (first | exact (Kd.R_reads' HO_208001.out).2.2 | (with_reducible refine Kd.C_alloc ?_ _) | (with_reducible refine Kd.C_drewN ?_ _) | (with_reducible refine Kd.C_drew ?_))); (case side4 => exact (Kd.R_reads' HO_208001.out).2.1); rintro e w89 ⟨rfl, hb⟩; have n0_ := Aside0.mk (Kd.R_below pwc_ hb); have n1_ := Aside0.mk (Kd.R_below pwd_ hb); have n2_ := Aside0.mk (Kd.R_below pwe_ hb); have n3_ := Aside0.mk (Kd.R_below (by (with_reducible repeat apply Kd.R_alloc); exact HO223.out) hb); have n4_ := Aside0.mk (blk_below (g := gb196) (o := .cells #[.int .i64 a1_0, .slice A1_1 l1_1.length c1_1] 43 (0, 0)) pwr_ hb); have n5_ := Aside0.mk (blk_below (g := gb207) (o := .cells #[.int .i64 t202, .slice Ao23 t203.length co23] 47 (0, 0)) pws_ hb); have n6_ := Aside0.mk (blk_below (g := gb212) (o := .cells #[.int .i64 t208, .slice Ao30 t209.length co30] 47 (0, 0)) pwt_ hb); have n7_ := Aside0.mk (blk_below (g := gb218) (o := .cells #[.int .i64 t213, .slice Ao37 t214.length co37] 47 (0, 0)) pwu_ hb); have n8_ := Aside0.mk (below_step pwee_ hb); clear HO_208001; clear HO_213001; clear HO_219001; clear HO223; clear BK196; clear BK207; clear BK212; clear BK218; clear HB; have HO_208001 := n0_; have HO_213001 := n1_; have HO_219001 := n2_; have HO223 := n3_; have BK196 := n4_; have BK207 := n5_; have BK212 := n6_; have BK218 := n7_; have HB := n8_; clear n0_ n1_ n2_ n3_ n4_ n5_ n6_ n7_ n8_; (try clear hb); (try clear hb2); (try clear hk); (try clear hi)))
         go_meet
         case rel => exact ⟨_, (true), pwa_, H', ⟨by have := HJ11.out; first | omega | exact Nat.le_refl _⟩, ⟨by (with_reducible repeat apply Kd.R_alloc); exact Kd.R_mono HO_208001.out (fun _ hk => ⟨hk.1, hk.2.1⟩)⟩, ⟨by (with_reducible repeat apply Kd.R_alloc); exact Kd.R_mono HO_213001.out (fun _ hk => ⟨hk.1.1, hk.1.2⟩)⟩, ⟨by (with_reducible repeat apply Kd.R_alloc); exact Kd.R_mono HO_219001.out (fun _ hk => ⟨hk.1, hk.2.1⟩)⟩, ⟨pwr_⟩, ⟨pws_⟩, ⟨pwt_⟩, ⟨pwu_⟩, ⟨pwee_⟩⟩
      case rest =>
       clear HC61
       try clear c1
       try clear c2
       try clear p2
       try clear c3
       try clear c4
       try clear c4b0
       try clear c5
       try clear c6
       try clear c7
       try clear c8
       try clear c10
       try clear c21
       try clear c27
       try clear c28
       try clear c31
       try clear c33
       try clear c34
       try clear c35
       try clear c36
       try clear c39
       try clear c40
       try clear c41
       try clear c42
       try clear c44
       try clear c45
       try clear c47
       try clear c48
       try clear c49
       try clear c50
       try clear c52
       try clear c53
       try clear c56
       try clear c59
       try clear c66
       try clear c67
       try clear c68
       try clear c71
       try clear c71b0
       try clear c73
       try clear c74
       try clear c75
       try clear c76
       try clear c78
       try clear c79
       try clear c82
       try clear c83
       try clear c84
       try clear c86
       try clear c87
       try clear hcz14_0
       try clear hcz14_1
       try clear hcz16_0
       try clear hcz16_1
       try clear hcz22_0
       try clear hcz22_1
       try clear hcz24_0
       try clear hcz24_1
       try clear hcz29_0
       try clear hcz29_1
       try clear hcz36_0
       try clear hcz36_1
       try clear hcz43_0
       try clear hcz43_1
       try clear hcz46_0
       try clear hcz46_1
       try clear hcz51_0
       try clear hcz51_1
       try clear hcz54_0
       try clear hcz54_1
       try clear hcz69_0
       try clear hcz69_1
       try clear hcz6_0
       try clear hcz6_1
       try clear hcz77_0
       try clear hcz77_1
       try clear hcz80_0
       try clear hcz80_1
       try clear hcz85_0
       try clear hcz85_1
       try clear hcz88_0
       try clear hcz88_1
       try clear hfz14_0
       try clear hfz14_1
       try clear hfz16_0
       try clear hfz16_1
       try clear hfz22_0
       try clear hfz22_1
       try clear hfz24_0
       try clear hfz24_1
       try clear hfz29_0
       try clear hfz29_1
       try clear hfz36_0
       try clear hfz36_1
       try clear hfz43_0
       try clear hfz43_1
       try clear hfz46_0
       try clear hfz46_1
       try clear hfz51_0
       try clear hfz51_1
       try clear hfz54_0
       try clear hfz54_1
       try clear hfz69_0
       try clear hfz69_1
       try clear hfz6_0
       try clear hfz6_1
       try clear hfz77_0
       try clear hfz77_1
       try clear hfz80_0
       try clear hfz80_1
       try clear hfz85_0
       try clear hfz85_1
       try clear hfz88_0
       try clear hfz88_1
       try clear p2
       obtain ⟨kq, x65_60, rfl, HA, HJ60, HO_208001, HO_213001, HO_219001, BK196, BK207, BK212, BK218, HB⟩ := hcut
       have hl213001_60 := (Kd.R_reads' HO_213001.out).1
       rw [hl213001_60] at HO_213001
       (try simp only [hl213001_60])
       (try simp only [hl213001_60] at BK196)
       (try simp only [hl213001_60] at BK207)
       (try simp only [hl213001_60] at BK212)
       (try simp only [hl213001_60] at BK218)
       (try simp only [hl213001_60] at HO_208001)
       (try simp only [hl213001_60] at HO_219001)
       cases kq with
       | zero => exact absurd HA.out (by simp [laws_FnExactDenyClaim.j1])
       | succ kj60 =>
        have H := HA.out
        clear HA
        simp only [laws_FnExactDenyClaim.j1] at H
        by_cases c90 : x65_60 = true
        ·subst c90
         have H1 : (some false) = some r := by rw [if_pos rfl] at H; exact H
         clear H
         have H := H1
         clear H1
         obtain rfl := Option.some.inj H
         go_wp2
         go_ret
         exact ⟨by first | rfl | (simp [errW_none, errW_some] <;> rfl) | (simp [*, errW_none, errW_some] <;> rfl), pwee_⟩
        ·replace c90 := Bool.eq_false_iff.mpr c90
         subst c90
         have H1 : ((laws_markClaim.f kj60 t213 t214 1).bind fun bt228 => ((laws_heldClaim.f kj60 t213 bt228.2 1).bind fun t230 => (if t230 < 0 then (some false) else (if t230 = bt228.1 then ((laws_toClaim.f kj60 a1_0 l1_1).bind fun bt231 => ((impl_DenyClaim.f kj60 a0 bt231.1 bt231.2).bind fun bt235 => ((laws_eqClaim.f kj60 bt235.1 bt235.2.1 t202 t203).bind fun t241 => (if t241 = true then (laws_FnExactDenyClaim.j2 kj60 bt228.1 (bt235.2.2 != t206) t213 bt228.2) else (laws_FnExactDenyClaim.j2 kj60 bt228.1 true t213 bt228.2))))) else (some false))))) = some r := by rw [if_neg (show ¬ (false = true) by decide)] at H; exact H
         clear H
         have H := H1
         clear H1
         replace H := Option.bind_eq_some_iff.mp H
         obtain ⟨⟨t228, t229⟩, A910, H⟩ := H
         replace H : ((laws_heldClaim.f kj60 t213 t229 1).bind fun t230 => (if t230 < 0 then (some false) else (if t230 = t228 then ((laws_toClaim.f kj60 a1_0 l1_1).bind fun bt231 => ((impl_DenyClaim.f kj60 a0 bt231.1 bt231.2).bind fun bt235 => ((laws_eqClaim.f kj60 bt235.1 bt235.2.1 t202 t203).bind fun t241 => (if t241 = true then (laws_FnExactDenyClaim.j2 kj60 t228 (bt235.2.2 != t206) t213 t229) else (laws_FnExactDenyClaim.j2 kj60 t228 true t213 t229))))) else (some false)))) = some r := H
         have A91 := Aside0.mk A910
         clear A910
         replace H := Option.bind_eq_some_iff.mp H
         obtain ⟨t230, A920, H⟩ := H
         replace H : (if t230 < 0 then (some false) else (if t230 = t228 then ((laws_toClaim.f kj60 a1_0 l1_1).bind fun bt231 => ((impl_DenyClaim.f kj60 a0 bt231.1 bt231.2).bind fun bt235 => ((laws_eqClaim.f kj60 bt235.1 bt235.2.1 t202 t203).bind fun t241 => (if t241 = true then (laws_FnExactDenyClaim.j2 kj60 t228 (bt235.2.2 != t206) t213 t229) else (laws_FnExactDenyClaim.j2 kj60 t228 true t213 t229))))) else (some false))) = some r := H
         have A92 := Aside0.mk A920
         clear A920
         by_cases c93 : t230 < 0
         ·rw [if_pos c93] at H
          have c93b0 : decide (t230 < 0) = true := decide_eq_true c93
          clear c93
          obtain rfl := Option.some.inj H
          have hnb94 := NB218_196.out
          have hnc94 := NB196_218.out
          have hnb95 := NB218_207.out
          have hnc95 := NB207_218.out
          have hnb96 := NB218_212.out
          have hnc96 := NB212_218.out
          have hcz97_0 : wc.cell? ⟨gb218, 0, none⟩ = some (.int .i64 t213) := (blk_cell BK218.out 0).trans rfl
          have hcz97_1 : wc.cell? ⟨gb218, 1, none⟩ = some (.slice Ao37 t214.length co37) := (blk_cell BK218.out 1).trans rfl
          have hfz97_0 := blk_frozen BK218.out 0
          have hfz97_1 := blk_frozen BK218.out 1
          go_wp2_with (first | ((with_reducible refine gate_callee (f := 36) rfl ?_); refine goesL_ (some 68) rfl rfl Try.func36 (by kernel_rfl) rfl #[.agg #[.int .i64 t213, .slice Ao37 t214.length co37], .int .i64 1] rfl pwy_ ?_; (with_reducible refine (laws_markClaim.calls kj60 t213 (fun k_ => some k_ = (.slice Ao37 t214.length co37 : Value).ownBlock) (.slice Ao37 t214.length co37) t214 1 t228 t229 w _ ?side1 ?side2 A91.out).mono ?_); (case side1 => repeat (first | (with_reducible first | exact HB.out | apply below_alloc | apply pw_below_drewN | apply below_drew1 | refine below_set ?_ GE196.out | refine below_set ?_ GE207.out | refine below_set ?_ GE212.out | refine below_set ?_ GE218.out) | exact HB.out)); (case side2 => exact Kd.R_tight rfl HO_219001.out); rintro e w98 ⟨rfl, hy0, hb, hkp⟩; refine ⟨_, rfl, ?_⟩; have n0_ := Aside0.mk (Kd.R_mono (ok' := fun k_ => some k_ ≠ (.slice Ao30 t226.length co30 : Value).ownBlock ∧ some k_ ≠ (.slice Ao37 t214.length co37 : Value).ownBlock) (Kd.R_keptB (HO_208001.out) hkp (fun k_ hk_ hs_ => (hk_.2) hs_)) (fun k_ hk_ => ⟨hk_.1.1, hk_.1.2⟩)); have n1_ := Aside0.mk (Kd.R_mono (ok' := fun k_ => some k_ ≠ (.slice Ao23 t203.length co23 : Value).ownBlock ∧ some k_ ≠ (.slice Ao37 t214.length co37 : Value).ownBlock) (Kd.R_keptB (HO_213001.out) hkp (fun k_ hk_ hs_ => (hk_.2) hs_)) (fun k_ hk_ => ⟨hk_.1.1, hk_.1.2⟩)); have n2_ := Aside0.mk (Kd.R_reok rfl hy0 (fun k_ e_ => HO_219001.out.1 k_ e_)); have n3_ := Aside0.mk (blk_kept pwr_ hkp (fun hs_ => (fun e_ => (Kd.R_ne HO_219001.out BK196.out (by decide)) e_) hs_)); have n4_ := Aside0.mk (blk_kept pws_ hkp (fun hs_ => (fun e_ => (Kd.R_ne HO_219001.out BK207.out (by decide)) e_) hs_)); have n5_ := Aside0.mk (blk_kept pwt_ hkp (fun hs_ => (fun e_ => (Kd.R_ne HO_219001.out BK212.out (by decide)) e_) hs_)); have n6_ := Aside0.mk (blk_kept pwu_ hkp (fun hs_ => (fun e_ => (Kd.R_ne HO_219001.out BK218.out (by decide)) e_) hs_)); have n7_ := Aside0.mk (hb); clear HO_208001; clear HO_213001; clear HO_219001; clear BK196; clear BK207; clear BK212; clear BK218; clear HB; have HO_208001 := n0_; have HO_213001 := n1_; have HO_219001 := n2_; have BK196 := n3_; have BK207 := n4_; have BK212 := n5_; have BK218 := n6_; have HB := n7_; clear n0_ n1_ n2_ n3_ n4_ n5_ n6_ n7_; (try clear hb); (try clear hkp); (try clear hy0); have hcz99_0 : w98.cell? ⟨gb218, 0, none⟩ = some (.int .i64 t213) := (blk_cell BK218.out 0).trans rfl; have hcz99_1 : w98.cell? ⟨gb218, 1, none⟩ = some (.slice Ao37 t214.length co37) := (blk_cell BK218.out 1).trans rfl; have hfz99_0 := blk_frozen BK218.out 0; have hfz99_1 := blk_frozen BK218.out 1) | ((with_reducible refine gate_callee (f := 49) rfl ?_); refine goesL_ (some 71) rfl rfl Try.func49 (by kernel_rfl) rfl #[.agg #[.int .i64 t213, .slice Ao37 t229.length co37], .int .i64 1] rfl pwcc_ ?_; (with_reducible refine (laws_heldClaim.calls kj60 t213 _ _ t229 1 t230 _ ?side1 ?side2 A92.out).mono ?_); (case side1 => repeat (first | exact (Kd.R_reads' HO_219001.out).2.2 | (with_reducible refine Kd.C_alloc ?_ _) | (with_reducible refine Kd.C_drewN ?_ _) | (with_reducible refine Kd.C_drew ?_))); (case side2 => rw [show t229.length = t214.length from (Kd.R_reads' HO_219001.out).1.symm]; exact (Kd.R_reads' HO_219001.out).2.1); rintro e w100 ⟨rfl, hb⟩; refine ⟨_, rfl, ?_⟩; have n0_ := Aside0.mk (Kd.R_below pwc_ hb); have n1_ := Aside0.mk (Kd.R_below pwd_ hb); have n2_ := Aside0.mk (Kd.R_below pwe_ hb); have n3_ := Aside0.mk (blk_below (g := gb196) (o := .cells #[.int .i64 a1_0, .slice A1_1 l1_1.length c1_1] 43 (0, 0)) pwr_ hb); have n4_ := Aside0.mk (blk_below (g := gb207) (o := .cells #[.int .i64 t202, .slice Ao23 t203.length co23] 47 (0, 0)) pws_ hb); have n5_ := Aside0.mk (blk_below (g := gb212) (o := .cells #[.int .i64 t208, .slice Ao30 t226.length co30] 47 (0, 0)) pwt_ hb); have n6_ := Aside0.mk (blk_below (g := gb218) (o := .cells #[.int .i64 t213, .slice Ao37 t214.length co37] 47 (0, 0)) pwu_ hb); have n7_ := Aside0.mk (below_step pwee_ hb); clear HO_208001; clear HO_213001; clear HO_219001; clear BK196; clear BK207; clear BK212; clear BK218; clear HB; have HO_208001 := n0_; have HO_213001 := n1_; have HO_219001 := n2_; have BK196 := n3_; have BK207 := n4_; have BK212 := n5_; have BK218 := n6_; have HB := n7_; clear n0_ n1_ n2_ n3_ n4_ n5_ n6_ n7_; (try clear hb); (try clear hb2); (try clear hk); (try clear hi)))
          go_ret
          exact ⟨by first | rfl | (simp [errW_none, errW_some] <;> rfl) | (simp [*, errW_none, errW_some] <;> rfl), pwee_⟩
         ·rw [if_neg c93] at H
          have c93b0 : decide (t230 < 0) = false := decide_eq_false c93
          clear c93
          by_cases c101 : t230 = t228
          ·rw [if_pos c101] at H
           have c101b0 : (t230 == t228) = true := beq_iff_eq.mpr c101
           have c101b1 : (t230 != t228) = false := bne_eq_false_iff_eq.mpr c101
           clear c101
           replace H := Option.bind_eq_some_iff.mp H
           obtain ⟨⟨t231, t232⟩, A1020, H⟩ := H
           replace H : ((impl_DenyClaim.f kj60 a0 t231 t232).bind fun bt235 => ((laws_eqClaim.f kj60 bt235.1 bt235.2.1 t202 t203).bind fun t241 => (if t241 = true then (laws_FnExactDenyClaim.j2 kj60 t228 (bt235.2.2 != t206) t213 t229) else (laws_FnExactDenyClaim.j2 kj60 t228 true t213 t229)))) = some r := H
           have A102 := Aside0.mk A1020
           clear A1020
           replace H := Option.bind_eq_some_iff.mp H
           obtain ⟨⟨t235, t236, t239⟩, A1030, H⟩ := H
           replace H : ((laws_eqClaim.f kj60 t235 t236 t202 t203).bind fun t241 => (if t241 = true then (laws_FnExactDenyClaim.j2 kj60 t228 (t239 != t206) t213 t229) else (laws_FnExactDenyClaim.j2 kj60 t228 true t213 t229))) = some r := H
           have A103 := Aside0.mk A1030
           clear A1030
           have HC104 := Aside0.mk H
           clear H
           have hnb105 := NB218_196.out
           have hnc105 := NB196_218.out
           have hnb106 := NB218_207.out
           have hnc106 := NB207_218.out
           have hnb107 := NB218_212.out
           have hnc107 := NB212_218.out
           have hcz108_0 : wc.cell? ⟨gb218, 0, none⟩ = some (.int .i64 t213) := (blk_cell BK218.out 0).trans rfl
           have hcz108_1 : wc.cell? ⟨gb218, 1, none⟩ = some (.slice Ao37 t214.length co37) := (blk_cell BK218.out 1).trans rfl
           have hfz108_0 := blk_frozen BK218.out 0
           have hfz108_1 := blk_frozen BK218.out 1
           go_upto_region 25 with (first | ((with_reducible refine gate_callee (f := 36) rfl ?_); refine goesL_ (some 68) rfl rfl Try.func36 (by kernel_rfl) rfl #[.agg #[.int .i64 t213, .slice Ao37 t214.length co37], .int .i64 1] rfl pwy_ ?_; (with_reducible refine (laws_markClaim.calls kj60 t213 (fun k_ => some k_ = (.slice Ao37 t214.length co37 : Value).ownBlock) (.slice Ao37 t214.length co37) t214 1 t228 t229 w _ ?side1 ?side2 A91.out).mono ?_); (case side1 => repeat (first | (with_reducible first | exact HB.out | apply below_alloc | apply pw_below_drewN | apply below_drew1 | refine below_set ?_ GE196.out | refine below_set ?_ GE207.out | refine below_set ?_ GE212.out | refine below_set ?_ GE218.out) | exact HB.out)); (case side2 => exact Kd.R_tight rfl HO_219001.out); rintro e w109 ⟨rfl, hy0, hb, hkp⟩; refine ⟨_, rfl, ?_⟩; have n0_ := Aside0.mk (Kd.R_mono (ok' := fun k_ => some k_ ≠ (.slice Ao30 t226.length co30 : Value).ownBlock ∧ some k_ ≠ (.slice Ao37 t214.length co37 : Value).ownBlock) (Kd.R_keptB (HO_208001.out) hkp (fun k_ hk_ hs_ => (hk_.2) hs_)) (fun k_ hk_ => ⟨hk_.1.1, hk_.1.2⟩)); have n1_ := Aside0.mk (Kd.R_mono (ok' := fun k_ => some k_ ≠ (.slice Ao23 t203.length co23 : Value).ownBlock ∧ some k_ ≠ (.slice Ao37 t214.length co37 : Value).ownBlock) (Kd.R_keptB (HO_213001.out) hkp (fun k_ hk_ hs_ => (hk_.2) hs_)) (fun k_ hk_ => ⟨hk_.1.1, hk_.1.2⟩)); have n2_ := Aside0.mk (Kd.R_reok rfl hy0 (fun k_ e_ => HO_219001.out.1 k_ e_)); have n3_ := Aside0.mk (blk_kept pwr_ hkp (fun hs_ => (fun e_ => (Kd.R_ne HO_219001.out BK196.out (by decide)) e_) hs_)); have n4_ := Aside0.mk (blk_kept pws_ hkp (fun hs_ => (fun e_ => (Kd.R_ne HO_219001.out BK207.out (by decide)) e_) hs_)); have n5_ := Aside0.mk (blk_kept pwt_ hkp (fun hs_ => (fun e_ => (Kd.R_ne HO_219001.out BK212.out (by decide)) e_) hs_)); have n6_ := Aside0.mk (blk_kept pwu_ hkp (fun hs_ => (fun e_ => (Kd.R_ne HO_219001.out BK218.out (by decide)) e_) hs_)); have n7_ := Aside0.mk (hb); clear HO_208001; clear HO_213001; clear HO_219001; clear BK196; clear BK207; clear BK212; clear BK218; clear HB; have HO_208001 := n0_; have HO_213001 := n1_; have HO_219001 := n2_; have BK196 := n3_; have BK207 := n4_; have BK212 := n5_; have BK218 := n6_; have HB := n7_; clear n0_ n1_ n2_ n3_ n4_ n5_ n6_ n7_; (try clear hb); (try clear hkp); (try clear hy0); have hcz110_0 : w109.cell? ⟨gb218, 0, none⟩ = some (.int .i64 t213) := (blk_cell BK218.out 0).trans rfl; have hcz110_1 : w109.cell? ⟨gb218, 1, none⟩ = some (.slice Ao37 t214.length co37) := (blk_cell BK218.out 1).trans rfl; have hfz110_0 := blk_frozen BK218.out 0; have hfz110_1 := blk_frozen BK218.out 1) | ((with_reducible refine gate_callee (f := 49) rfl ?_); refine goesL_ (some 71) rfl rfl Try.func49 (by kernel_rfl) rfl #[.agg #[.int .i64 t213, .slice Ao37 t229.length co37], .int .i64 1] rfl pwcc_ ?_; (with_reducible refine (laws_heldClaim.calls kj60 t213 _ _ t229 1 t230 _ ?side1 ?side2 A92.out).mono ?_); (case side1 => repeat (first | exact (Kd.R_reads' HO_219001.out).2.2 | (with_reducible refine Kd.C_alloc ?_ _) | (with_reducible refine Kd.C_drewN ?_ _) | (with_reducible refine Kd.C_drew ?_))); (case side2 => rw [show t229.length = t214.length from (Kd.R_reads' HO_219001.out).1.symm]; exact (Kd.R_reads' HO_219001.out).2.1); rintro e w111 ⟨rfl, hb⟩; refine ⟨_, rfl, ?_⟩; have n0_ := Aside0.mk (Kd.R_below pwc_ hb); have n1_ := Aside0.mk (Kd.R_below pwd_ hb); have n2_ := Aside0.mk (Kd.R_below pwe_ hb); have n3_ := Aside0.mk (blk_below (g := gb196) (o := .cells #[.int .i64 a1_0, .slice A1_1 l1_1.length c1_1] 43 (0, 0)) pwr_ hb); have n4_ := Aside0.mk (blk_below (g := gb207) (o := .cells #[.int .i64 t202, .slice Ao23 t203.length co23] 47 (0, 0)) pws_ hb); have n5_ := Aside0.mk (blk_below (g := gb212) (o := .cells #[.int .i64 t208, .slice Ao30 t226.length co30] 47 (0, 0)) pwt_ hb); have n6_ := Aside0.mk (blk_below (g := gb218) (o := .cells #[.int .i64 t213, .slice Ao37 t214.length co37] 47 (0, 0)) pwu_ hb); have n7_ := Aside0.mk (below_step pwee_ hb); clear HO_208001; clear HO_213001; clear HO_219001; clear BK196; clear BK207; clear BK212; clear BK218; clear HB; have HO_208001 := n0_; have HO_213001 := n1_; have HO_219001 := n2_; have BK196 := n3_; have BK207 := n4_; have BK212 := n5_; have BK218 := n6_; have HB := n7_; clear n0_ n1_ n2_ n3_ n4_ n5_ n6_ n7_; (try clear hb); (try clear hb2); (try clear hk); (try clear hi); have hnb112 := NB196_207.out; have hnc112 := NB207_196.out; have hnb113 := NB196_212.out; have hnc113 := NB212_196.out; have hcz114_0 : w111.cell? ⟨gb196, 0, none⟩ = some (.int .i64 a1_0) := (blk_cell BK196.out 0).trans rfl; have hcz114_1 : w111.cell? ⟨gb196, 1, none⟩ = some (.slice A1_1 l1_1.length c1_1) := (blk_cell BK196.out 1).trans rfl; have hfz114_0 := blk_frozen BK196.out 0; have hfz114_1 := blk_frozen BK196.out 1) | ((with_reducible refine gate_callee (f := 33) rfl ?_); refine goesL_ (some 80) rfl rfl Try.func33 (by kernel_rfl) rfl #[.agg #[.int .i64 a1_0, .slice A1_1 l1_1.length c1_1]] rfl pwy_ ?_; (with_reducible refine (laws_toClaim.calls kj60 a1_0 _ _ l1_1 t231 t232 _ ?side1 ?side2 A102.out).mono ?_); (case side1 => repeat (first | exact (Kd.C_below HR1_1.out HB.out) | (with_reducible refine Kd.C_alloc ?_ _) | (with_reducible refine Kd.C_drewN ?_ _) | (with_reducible refine Kd.C_drew ?_))); (case side2 => exact HC1_1.out); rintro e w115 ⟨v233, rfl, ho0, hb⟩; refine ⟨_, rfl, ?_⟩; have n0_ := Aside0.mk (Kd.R_elder' pwc_ (Kd.R_base ho0) hb); have n1_ := Aside0.mk (Kd.R_elder' pwd_ (Kd.R_base ho0) hb); have n2_ := Aside0.mk (Kd.R_elder' pwe_ (Kd.R_base ho0) hb); have n3_ := Aside0.mk (Kd.R_lower (Kd.R_new' (Kd.R_new' (Kd.R_new' ho0 (Kd.R_lt pwc_)) (Kd.R_lt pwd_)) (Kd.R_lt pwe_)) (below_size pwee_)); have n4_ := Aside0.mk (blk_below (g := gb196) (o := .cells #[.int .i64 a1_0, .slice A1_1 l1_1.length c1_1] 43 (0, 0)) pwr_ hb); have n5_ := Aside0.mk (blk_below (g := gb207) (o := .cells #[.int .i64 t202, .slice Ao23 t203.length co23] 47 (0, 0)) pws_ hb); have n6_ := Aside0.mk (blk_below (g := gb212) (o := .cells #[.int .i64 t208, .slice Ao30 t226.length co30] 47 (0, 0)) pwt_ hb); have n7_ := Aside0.mk (blk_below (g := gb218) (o := .cells #[.int .i64 t213, .slice Ao37 t214.length co37] 47 (0, 0)) pwu_ hb); have n8_ := Aside0.mk (below_step pwee_ hb); clear HO_208001; clear HO_213001; clear HO_219001; clear BK196; clear BK207; clear BK212; clear BK218; clear HB; have HO_208001 := n0_; have HO_213001 := n1_; have HO_219001 := n2_; have HO234 := n3_; have BK196 := n4_; have BK207 := n5_; have BK212 := n6_; have BK218 := n7_; have HB := n8_; clear n0_ n1_ n2_ n3_ n4_ n5_ n6_ n7_ n8_; (try clear hb); (try clear hb2); (try clear hk); (try clear hi); (try clear ho0); obtain ⟨Ao116, co116, eo116⟩ := Kd.R_slice HO234.out; subst eo116) | ((with_reducible refine gate_callee (f := 48) rfl ?_); refine goesL_ (some 81) rfl rfl Try.func48 (by kernel_rfl) rfl #[.int .i64 a0, .agg #[.int .i64 t231, .slice Ao116 t232.length co116]] rfl pwy_ ?_; (with_reducible refine (impl_DenyClaim.calls kj60 a0 t231 _ _ t232 t235 t236 t239 _ ?side1 ?side2 A103.out).mono ?_); (case side1 => repeat (first | exact (Kd.R_reads' HO234.out).2.2 | (with_reducible refine Kd.C_alloc ?_ _) | (with_reducible refine Kd.C_drewN ?_ _) | (with_reducible refine Kd.C_drew ?_))); (case side2 => exact (Kd.R_reads' HO234.out).2.1); rintro e w117 ⟨v237, rfl, ho0, hb⟩; refine ⟨_, rfl, ?_⟩; have n0_ := Aside0.mk (Kd.R_elder' pwc_ (Kd.R_base ho0) hb); have n1_ := Aside0.mk (Kd.R_elder' pwd_ (Kd.R_base ho0) hb); have n2_ := Aside0.mk (Kd.R_elder' pwe_ (Kd.R_base ho0) hb); have n3_ := Aside0.mk (Kd.R_elder' (by (with_reducible repeat apply Kd.R_alloc); exact HO234.out) (Kd.R_base ho0) hb); have n4_ := Aside0.mk (Kd.R_lower (Kd.R_new' (Kd.R_new' (Kd.R_new' (Kd.R_new' ho0 (Kd.R_lt pwc_)) (Kd.R_lt pwd_)) (Kd.R_lt pwe_)) (Kd.R_lt (by (with_reducible repeat apply Kd.R_alloc); exact HO234.out))) (below_size pwee_)); have n5_ := Aside0.mk (blk_below (g := gb196) (o := .cells #[.int .i64 a1_0, .slice A1_1 l1_1.length c1_1] 43 (0, 0)) pwr_ hb); have n6_ := Aside0.mk (blk_below (g := gb207) (o := .cells #[.int .i64 t202, .slice Ao23 t203.length co23] 47 (0, 0)) pws_ hb); have n7_ := Aside0.mk (blk_below (g := gb212) (o := .cells #[.int .i64 t208, .slice Ao30 t226.length co30] 47 (0, 0)) pwt_ hb); have n8_ := Aside0.mk (blk_below (g := gb218) (o := .cells #[.int .i64 t213, .slice Ao37 t214.length co37] 47 (0, 0)) pwu_ hb); have n9_ := Aside0.mk (below_step pwee_ hb); clear HO_208001; clear HO_213001; clear HO_219001; clear HO234; clear BK196; clear BK207; clear BK212; clear BK218; clear HB; have HO_208001 := n0_; have HO_213001 := n1_; have HO_219001 := n2_; have HO234 := n3_; have HO238 := n4_; have BK196 := n5_; have BK207 := n6_; have BK212 := n7_; have BK218 := n8_; have HB := n9_; clear n0_ n1_ n2_ n3_ n4_ n5_ n6_ n7_ n8_ n9_; (try clear hb); (try clear hb2); (try clear hk); (try clear hi); (try clear ho0)) | ((with_reducible refine gate_dst (N := 14) rfl ?_); refine box_event ?hg (N := 14) ?hd (cs := #[.int .i64 0, .slice none 0 0]) (t := 47) ?hr ?_; (case hd => rfl); (case hg => rfl); (case hr => first | (go_simp; done) | (go_simp; rfl)); intro gb240 hg w118 hbox hb; have n0_ := Aside0.mk (Kd.R_below pwc_ hb); have n1_ := Aside0.mk (Kd.R_below pwd_ hb); have n2_ := Aside0.mk (Kd.R_below pwe_ hb); have n3_ := Aside0.mk (Kd.R_below (by (with_reducible repeat apply Kd.R_alloc); exact HO234.out) hb); have n4_ := Aside0.mk (Kd.R_below (by (with_reducible repeat apply Kd.R_alloc); exact HO238.out) hb); have n5_ := Aside0.mk (blk_below (g := gb196) (o := .cells #[.int .i64 a1_0, .slice A1_1 l1_1.length c1_1] 43 (0, 0)) pwr_ hb); have n6_ := Aside0.mk (blk_below (g := gb207) (o := .cells #[.int .i64 t202, .slice Ao23 t203.length co23] 47 (0, 0)) pws_ hb); have n7_ := Aside0.mk (blk_below (g := gb212) (o := .cells #[.int .i64 t208, .slice Ao30 t226.length co30] 47 (0, 0)) pwt_ hb); have n8_ := Aside0.mk (blk_below (g := gb218) (o := .cells #[.int .i64 t213, .slice Ao37 t214.length co37] 47 (0, 0)) pwu_ hb); have n9_ := Aside0.mk (below_step pwee_ hb); have n10_ := Aside0.mk (hbox); have n11_ := Aside0.mk ((by rw [hg]; exact (below_size pwee_) : w.heap.size ≤ gb240)); have n12_ := Aside0.mk ((by rw [hg]; exact (below_size pwee_) : w.heap.size ≤ gb240)); have n13_ := Aside0.mk ((by rw [hg]; exact Nat.ne_of_lt (blk_lt (g := gb196) (o := .cells #[.int .i64 a1_0, .slice A1_1 l1_1.length c1_1] 43 (0, 0)) pwr_) : gb196 ≠ gb240)); have n14_ := Aside0.mk ((by rw [hg]; exact Nat.ne_of_gt (blk_lt (g := gb196) (o := .cells #[.int .i64 a1_0, .slice A1_1 l1_1.length c1_1] 43 (0, 0)) pwr_) : gb240 ≠ gb196)); have n15_ := Aside0.mk ((by rw [hg]; exact Nat.ne_of_lt (blk_lt (g := gb207) (o := .cells #[.int .i64 t202, .slice Ao23 t203.length co23] 47 (0, 0)) pws_) : gb207 ≠ gb240)); have n16_ := Aside0.mk ((by rw [hg]; exact Nat.ne_of_gt (blk_lt (g := gb207) (o := .cells #[.int .i64 t202, .slice Ao23 t203.length co23] 47 (0, 0)) pws_) : gb240 ≠ gb207)); have n17_ := Aside0.mk ((by rw [hg]; exact Nat.ne_of_lt (blk_lt (g := gb212) (o := .cells #[.int .i64 t208, .slice Ao30 t226.length co30] 47 (0, 0)) pwt_) : gb212 ≠ gb240)); have n18_ := Aside0.mk ((by rw [hg]; exact Nat.ne_of_gt (blk_lt (g := gb212) (o := .cells #[.int .i64 t208, .slice Ao30 t226.length co30] 47 (0, 0)) pwt_) : gb240 ≠ gb212)); have n19_ := Aside0.mk ((by rw [hg]; exact Nat.ne_of_lt (blk_lt (g := gb218) (o := .cells #[.int .i64 t213, .slice Ao37 t214.length co37] 47 (0, 0)) pwu_) : gb218 ≠ gb240)); have n20_ := Aside0.mk ((by rw [hg]; exact Nat.ne_of_gt (blk_lt (g := gb218) (o := .cells #[.int .i64 t213, .slice Ao37 t214.length co37] 47 (0, 0)) pwu_) : gb240 ≠ gb218)); clear HO_208001; clear HO_213001; clear HO_219001; clear HO234; clear HO238; clear BK196; clear BK207; clear BK212; clear BK218; clear HB; have HO_208001 := n0_; have HO_213001 := n1_; have HO_219001 := n2_; have HO234 := n3_; have HO238 := n4_; have BK196 := n5_; have BK207 := n6_; have BK212 := n7_; have BK218 := n8_; have HB := n9_; have BK240 := n10_; have GW240 := n11_; have GE240 := n12_; have NB196_240 := n13_; have NB240_196 := n14_; have NB207_240 := n15_; have NB240_207 := n16_; have NB212_240 := n17_; have NB240_212 := n18_; have NB218_240 := n19_; have NB240_218 := n20_; clear n0_ n1_ n2_ n3_ n4_ n5_ n6_ n7_ n8_ n9_ n10_ n11_ n12_ n13_ n14_ n15_ n16_ n17_ n18_ n19_ n20_; clear hb hbox hg; have hnb119 := NB240_196.out; have hnc119 := NB196_240.out; have hnb120 := NB240_207.out; have hnc120 := NB207_240.out; have hnb121 := NB240_212.out; have hnc121 := NB212_240.out; have hnb122 := NB240_218.out; have hnc122 := NB218_240.out; have hcz123_0 : w118.cell? ⟨gb240, 0, none⟩ = some (.int .i64 0) := (blk_cell BK240.out 0).trans rfl; have hcz123_1 : w118.cell? ⟨gb240, 1, none⟩ = some (.slice none 0 0) := (blk_cell BK240.out 1).trans rfl; have hfz123_0 := blk_frozen BK240.out 0; have hfz123_1 := blk_frozen BK240.out 1; obtain ⟨Ao124, co124, eo124⟩ := Kd.R_slice HO238.out; subst eo124))
           (try simp only [Act.put, List.setIfInBounds_toArray, List.set_cons_zero, List.set_cons_succ])
           go_cut [92] (fun v92 wc => ∃ (kq : Nat) (x92_103 : Bool), v92 = .bool x92_103 ∧ Aside0 (laws_FnExactDenyClaim.j2 kq t228 x92_103 t213 t229 = some r) ∧ Aside0 (kq ≤ kj60) ∧ Aside0 (Kd.R k62 62 wc w.heap.size (fun k_ => some k_ ≠ ((.slice Ao30 t226.length co30) : Value).ownBlock ∧ some k_ ≠ ((.slice Ao37 t214.length co37) : Value).ownBlock ∧ some k_ ≠ ((.slice Ao124 t236.length co124) : Value).ownBlock) (.slice Ao23 t203.length co23) t203) ∧ Aside0 (Kd.R k62 62 wc w.heap.size (fun k_ => some k_ ≠ ((.slice Ao23 t203.length co23) : Value).ownBlock ∧ some k_ ≠ ((.slice Ao37 t214.length co37) : Value).ownBlock ∧ some k_ ≠ ((.slice Ao124 t236.length co124) : Value).ownBlock) (.slice Ao30 t226.length co30) t226) ∧ Aside0 (Kd.R k62 62 wc w.heap.size (fun k_ => some k_ ≠ ((.slice Ao23 t203.length co23) : Value).ownBlock ∧ some k_ ≠ ((.slice Ao30 t226.length co30) : Value).ownBlock ∧ some k_ ≠ ((.slice Ao124 t236.length co124) : Value).ownBlock) (.slice Ao37 t214.length co37) t229) ∧ Aside0 (Kd.R k62 62 wc w.heap.size (fun k_ => some k_ ≠ ((.slice Ao23 t203.length co23) : Value).ownBlock ∧ some k_ ≠ ((.slice Ao30 t226.length co30) : Value).ownBlock ∧ some k_ ≠ ((.slice Ao37 t214.length co37) : Value).ownBlock) (.slice Ao124 t236.length co124) t236) ∧ Aside0 (wc.heap[gb196]? = some (.cells #[.int .i64 a1_0, (.slice A1_1 l1_1.length c1_1)] 43 (0, 0))) ∧ Aside0 (wc.heap[gb207]? = some (.cells #[.int .i64 t202, (.slice Ao23 t203.length co23)] 47 (0, 0))) ∧ Aside0 (wc.heap[gb212]? = some (.cells #[.int .i64 t208, (.slice Ao30 t226.length co30)] 47 (0, 0))) ∧ Aside0 (wc.heap[gb218]? = some (.cells #[.int .i64 t213, (.slice Ao37 t214.length co37)] 47 (0, 0))) ∧ Aside0 (wc.heap[gb240]? = some (.cells #[.int .i64 t235, (.slice Ao124 t236.length co124)] 47 (0, 0))) ∧ Aside0 (Below w.heap.size w wc))
           case first =>
            have H := HC104.out
            clear HC104
            replace H := Option.bind_eq_some_iff.mp H
            obtain ⟨t241, A1250, H⟩ := H
            replace H : (if t241 = true then (laws_FnExactDenyClaim.j2 kj60 t228 (t239 != t206) t213 t229) else (laws_FnExactDenyClaim.j2 kj60 t228 true t213 t229)) = some r := H
            have A125 := Aside0.mk A1250
            clear A1250
            by_cases c126 : t241 = true
            ·subst c126
             have H1 : (laws_FnExactDenyClaim.j2 kj60 t228 (t239 != t206) t213 t229) = some r := by rw [if_pos rfl] at H; exact H
             clear H
             have H := H1
             clear H1
             have H' := Aside0.mk H
             clear H
             have hnb127 := NB240_196.out
             have hnc127 := NB196_240.out
             have hnb128 := NB240_207.out
             have hnc128 := NB207_240.out
             have hnb129 := NB240_212.out
             have hnc129 := NB212_240.out
             have hnb130 := NB240_218.out
             have hnc130 := NB218_240.out
             have hcz131_0 : w118.cell? ⟨gb240, 0, none⟩ = some (.int .i64 0) := (blk_cell BK240.out 0).trans rfl
             have hcz131_1 : w118.cell? ⟨gb240, 1, none⟩ = some (.slice none 0 0) := (blk_cell BK240.out 1).trans rfl
             have hfz131_0 := blk_frozen BK240.out 0
             have hfz131_1 := blk_frozen BK240.out 1
             have hnb132 := NB207_196.out
             have hnc132 := NB196_207.out
             have hnb133 := NB207_212.out
             have hnc133 := NB212_207.out
             have hnb134 := NB207_218.out
             have hnc134 := NB218_207.out
             have hcz135_0 : w118.cell? ⟨gb207, 0, none⟩ = some (.int .i64 t202) := (blk_cell BK207.out 0).trans rfl
             have hcz135_1 : w118.cell? ⟨gb207, 1, none⟩ = some (.slice Ao23 t203.length co23) := (blk_cell BK207.out 1).trans rfl
             have hfz135_0 := blk_frozen BK207.out 0
             have hfz135_1 := blk_frozen BK207.out 1
             go_wp2_with (first | ((with_reducible refine gate_callee (f := 35) rfl ?_); refine goesL_ (some 86) rfl rfl Try.func35 (by kernel_rfl) rfl #[.agg #[.int .i64 t235, .slice Ao124 t236.length co124], .agg #[.int .i64 t202, .slice Ao23 t203.length co23]] rfl pwy_ ?_; (with_reducible refine (laws_eqClaim.calls kj60 t235 _ _ t236 t202 _ _ t203 true _ ?side1 ?side2 ?side3 ?side4 A125.out).mono ?_); (case side1 => refine (Kd.R_reads' (e := 62) (base := w.heap.size) (ok := fun k_ => ((((True ∧ some k_ ≠ (.slice Ao23 t203.length co23 : Value).ownBlock) ∧ some k_ ≠ (.slice Ao30 t226.length co30 : Value).ownBlock) ∧ some k_ ≠ (.slice Ao37 t214.length co37 : Value).ownBlock) ∧ some k_ ≠ (.slice Ao116 t232.length co116 : Value).ownBlock)) (n := t236.length) (c := co124) ?_).2.2; exact (by (with_reducible repeat apply Kd.R_alloc); exact (Kd.R_mono (Kd.R_far (p := ⟨gb240, 1, none⟩) (Kd.R_far (p := ⟨gb240, 0, none⟩) (Kd.R_types HO238.out BK240.out (by decide)) (fun _ hk => hk.2) (.int .i64 t235)) (fun _ hk => hk.2) (.slice Ao124 t236.length co124)) (fun _ h_ => h_.1)))); (case side2 => exact (Kd.R_reads' HO238.out).2.1); (case side3 => refine (Kd.R_reads' (e := 62) (base := w.heap.size) (ok := fun k_ => (((some k_ ≠ (.slice Ao30 t226.length co30 : Value).ownBlock ∧ some k_ ≠ (.slice Ao37 t214.length co37 : Value).ownBlock) ∧ some k_ ≠ (.slice Ao116 t232.length co116 : Value).ownBlock) ∧ some k_ ≠ (.slice Ao124 t236.length co124 : Value).ownBlock)) (n := t203.length) (c := co23) ?_).2.2; exact (by (with_reducible repeat apply Kd.R_alloc); exact (Kd.R_mono (Kd.R_far (p := ⟨gb240, 1, none⟩) (Kd.R_far (p := ⟨gb240, 0, none⟩) (Kd.R_types HO_208001.out BK240.out (by decide)) (fun _ hk => hk.2) (.int .i64 t235)) (fun _ hk => hk.2) (.slice Ao124 t236.length co124)) (fun _ h_ => h_.1)))); (case side4 => exact (Kd.R_reads' HO_208001.out).2.1); rintro e w136 ⟨rfl, hb⟩; refine ⟨_, rfl, ?_⟩; have n0_ := Aside0.mk (Kd.R_below (by (with_reducible repeat apply Kd.R_alloc); exact (Kd.R_mono (Kd.R_far (p := ⟨gb240, 1, none⟩) (Kd.R_far (p := ⟨gb240, 0, none⟩) (Kd.R_types HO_208001.out BK240.out (by decide)) (fun _ hk => hk.2) (.int .i64 t235)) (fun _ hk => hk.2) (.slice Ao124 t236.length co124)) (fun _ h_ => h_.1))) hb); have n1_ := Aside0.mk (Kd.R_below (by (with_reducible repeat apply Kd.R_alloc); exact (Kd.R_mono (Kd.R_far (p := ⟨gb240, 1, none⟩) (Kd.R_far (p := ⟨gb240, 0, none⟩) (Kd.R_types HO_213001.out BK240.out (by decide)) (fun _ hk => hk.2) (.int .i64 t235)) (fun _ hk => hk.2) (.slice Ao124 t236.length co124)) (fun _ h_ => h_.1))) hb); have n2_ := Aside0.mk (Kd.R_below (by (with_reducible repeat apply Kd.R_alloc); exact (Kd.R_mono (Kd.R_far (p := ⟨gb240, 1, none⟩) (Kd.R_far (p := ⟨gb240, 0, none⟩) (Kd.R_types HO_219001.out BK240.out (by decide)) (fun _ hk => hk.2) (.int .i64 t235)) (fun _ hk => hk.2) (.slice Ao124 t236.length co124)) (fun _ h_ => h_.1))) hb); have n3_ := Aside0.mk (Kd.R_below (by (with_reducible repeat apply Kd.R_alloc); exact (Kd.R_mono (Kd.R_far (p := ⟨gb240, 1, none⟩) (Kd.R_far (p := ⟨gb240, 0, none⟩) (Kd.R_types HO234.out BK240.out (by decide)) (fun _ hk => hk.2) (.int .i64 t235)) (fun _ hk => hk.2) (.slice Ao124 t236.length co124)) (fun _ h_ => h_.1))) hb); have n4_ := Aside0.mk (Kd.R_below (by (with_reducible repeat apply Kd.R_alloc); exact (Kd.R_mono (Kd.R_far (p := ⟨gb240, 1, none⟩) (Kd.R_far (p := ⟨gb240, 0, none⟩) (Kd.R_types HO238.out BK240.out (by decide)) (fun _ hk => hk.2) (.int .i64 t235)) (fun _ hk => hk.2) (.slice Ao124 t236.length co124)) (fun _ h_ => h_.1))) hb); have n5_ := Aside0.mk (blk_below (g := gb196) (o := .cells #[.int .i64 a1_0, .slice A1_1 l1_1.length c1_1] 43 (0, 0)) (by (with_reducible repeat (first | refine blk_drewN ?_ _ | refine blk_drew ?_ | refine blk_alloc ?_ _)); refine blk_far ?_ NB196_240.out _; (with_reducible repeat (first | refine blk_drewN ?_ _ | refine blk_drew ?_ | refine blk_alloc ?_ _)); refine blk_far ?_ NB196_240.out _; (with_reducible repeat (first | refine blk_drewN ?_ _ | refine blk_drew ?_ | refine blk_alloc ?_ _)); exact BK196.out) hb); have n6_ := Aside0.mk (blk_below (g := gb207) (o := .cells #[.int .i64 t202, .slice Ao23 t203.length co23] 47 (0, 0)) (by (with_reducible repeat (first | refine blk_drewN ?_ _ | refine blk_drew ?_ | refine blk_alloc ?_ _)); refine blk_far ?_ NB207_240.out _; (with_reducible repeat (first | refine blk_drewN ?_ _ | refine blk_drew ?_ | refine blk_alloc ?_ _)); refine blk_far ?_ NB207_240.out _; (with_reducible repeat (first | refine blk_drewN ?_ _ | refine blk_drew ?_ | refine blk_alloc ?_ _)); exact BK207.out) hb); have n7_ := Aside0.mk (blk_below (g := gb212) (o := .cells #[.int .i64 t208, .slice Ao30 t226.length co30] 47 (0, 0)) (by (with_reducible repeat (first | refine blk_drewN ?_ _ | refine blk_drew ?_ | refine blk_alloc ?_ _)); refine blk_far ?_ NB212_240.out _; (with_reducible repeat (first | refine blk_drewN ?_ _ | refine blk_drew ?_ | refine blk_alloc ?_ _)); refine blk_far ?_ NB212_240.out _; (with_reducible repeat (first | refine blk_drewN ?_ _ | refine blk_drew ?_ | refine blk_alloc ?_ _)); exact BK212.out) hb); have n8_ := Aside0.mk (blk_below (g := gb218) (o := .cells #[.int .i64 t213, .slice Ao37 t214.length co37] 47 (0, 0)) (by (with_reducible repeat (first | refine blk_drewN ?_ _ | refine blk_drew ?_ | refine blk_alloc ?_ _)); refine blk_far ?_ NB218_240.out _; (with_reducible repeat (first | refine blk_drewN ?_ _ | refine blk_drew ?_ | refine blk_alloc ?_ _)); refine blk_far ?_ NB218_240.out _; (with_reducible repeat (first | refine blk_drewN ?_ _ | refine blk_drew ?_ | refine blk_alloc ?_ _)); exact BK218.out) hb); have n9_ := Aside0.mk (blk_below (g := gb240) (o := .cells #[.int .i64 t235, .slice Ao124 t236.length co124] 47 (0, 0)) (by (with_reducible repeat (first | refine blk_drewN ?_ _ | refine blk_drew ?_ | refine blk_alloc ?_ _)); refine blk_put (cs := #[.int .i64 t235, .slice none 0 0]) ?_ 1 _ rfl; (with_reducible repeat (first | refine blk_drewN ?_ _ | refine blk_drew ?_ | refine blk_alloc ?_ _)); refine blk_put (cs := #[.int .i64 0, .slice none 0 0]) ?_ 0 _ rfl; (with_reducible repeat (first | refine blk_drewN ?_ _ | refine blk_drew ?_ | refine blk_alloc ?_ _)); exact BK240.out) hb); have n10_ := Aside0.mk (below_step (by repeat (first | (with_reducible first | exact HB.out | apply below_alloc | apply pw_below_drewN | apply below_drew1 | refine below_set ?_ GE196.out | refine below_set ?_ GE207.out | refine below_set ?_ GE212.out | refine below_set ?_ GE218.out | refine below_set ?_ GE240.out) | exact HB.out)) hb); clear HO_208001; clear HO_213001; clear HO_219001; clear HO234; clear HO238; clear BK196; clear BK207; clear BK212; clear BK218; clear BK240; clear HB; have HO_208001 := n0_; have HO_213001 := n1_; have HO_219001 := n2_; have HO234 := n3_; have HO238 := n4_; have BK196 := n5_; have BK207 := n6_; have BK212 := n7_; have BK218 := n8_; have BK240 := n9_; have HB := n10_; clear n0_ n1_ n2_ n3_ n4_ n5_ n6_ n7_ n8_ n9_ n10_; (try clear hb); (try clear hb2); (try clear hk); (try clear hi)))
             go_meet
             case rel => exact ⟨_, ((t239 != t206)), pwa_, H', ⟨by have := HJ11.out; have := HJ60.out; first | omega | exact Nat.le_refl _⟩, ⟨by (try simp only [hl213001_60]); (with_reducible repeat apply Kd.R_alloc); exact Kd.R_mono HO_208001.out (fun _ hk => ⟨hk.1.1.1, ⟨hk.1.1.2, hk.2⟩⟩)⟩, ⟨by (try simp only [hl213001_60]); (with_reducible repeat apply Kd.R_alloc); exact Kd.R_mono HO_213001.out (fun _ hk => ⟨hk.1.1.1, ⟨hk.1.1.2, hk.2⟩⟩)⟩, ⟨by (try simp only [hl213001_60]); (with_reducible repeat apply Kd.R_alloc); exact Kd.R_mono HO_219001.out (fun _ hk => ⟨hk.1.1.1, ⟨hk.1.1.2, hk.2⟩⟩)⟩, ⟨by (try simp only [hl213001_60]); (with_reducible repeat apply Kd.R_alloc); exact Kd.R_mono HO238.out (fun _ hk => ⟨hk.1.1.1.2, ⟨hk.1.1.2, hk.1.2⟩⟩)⟩, ⟨by (try simp only [hl213001_60]); (with_reducible repeat (first | refine blk_drewN ?_ _ | refine blk_drew ?_ | refine blk_alloc ?_ _)); exact BK196.out⟩, ⟨by (try simp only [hl213001_60]); (with_reducible repeat (first | refine blk_drewN ?_ _ | refine blk_drew ?_ | refine blk_alloc ?_ _)); exact BK207.out⟩, ⟨by (try simp only [hl213001_60]); (with_reducible repeat (first | refine blk_drewN ?_ _ | refine blk_drew ?_ | refine blk_alloc ?_ _)); exact BK212.out⟩, ⟨by (try simp only [hl213001_60]); (with_reducible repeat (first | refine blk_drewN ?_ _ | refine blk_drew ?_ | refine blk_alloc ?_ _)); exact BK218.out⟩, ⟨by (try simp only [hl213001_60]); (with_reducible repeat (first | refine blk_drewN ?_ _ | refine blk_drew ?_ | refine blk_alloc ?_ _)); exact BK240.out⟩, ⟨by repeat (first | (with_reducible first | exact HB.out | apply below_alloc | apply pw_below_drewN | apply below_drew1 | refine below_set ?_ GE196.out | refine below_set ?_ GE207.out | refine below_set ?_ GE212.out | refine below_set ?_ GE218.out | refine below_set ?_ GE240.out) | exact HB.out)⟩⟩
            ·replace c126 := Bool.eq_false_iff.mpr c126
             subst c126
             have H1 : (laws_FnExactDenyClaim.j2 kj60 t228 true t213 t229) = some r := by rw [if_neg (show ¬ (false = true) by decide)] at H; exact H
             clear H
             have H := H1
             clear H1
             have H' := Aside0.mk H
             clear H
             have hnb137 := NB240_196.out
             have hnc137 := NB196_240.out
             have hnb138 := NB240_207.out
             have hnc138 := NB207_240.out
             have hnb139 := NB240_212.out
             have hnc139 := NB212_240.out
             have hnb140 := NB240_218.out
             have hnc140 := NB218_240.out
             have hcz141_0 : w118.cell? ⟨gb240, 0, none⟩ = some (.int .i64 0) := (blk_cell BK240.out 0).trans rfl
             have hcz141_1 : w118.cell? ⟨gb240, 1, none⟩ = some (.slice none 0 0) := (blk_cell BK240.out 1).trans rfl
             have hfz141_0 := blk_frozen BK240.out 0
             have hfz141_1 := blk_frozen BK240.out 1
             have hnb142 := NB207_196.out
             have hnc142 := NB196_207.out
             have hnb143 := NB207_212.out
             have hnc143 := NB212_207.out
             have hnb144 := NB207_218.out
             have hnc144 := NB218_207.out
             have hcz145_0 : w118.cell? ⟨gb207, 0, none⟩ = some (.int .i64 t202) := (blk_cell BK207.out 0).trans rfl
             have hcz145_1 : w118.cell? ⟨gb207, 1, none⟩ = some (.slice Ao23 t203.length co23) := (blk_cell BK207.out 1).trans rfl
             have hfz145_0 := blk_frozen BK207.out 0
             have hfz145_1 := blk_frozen BK207.out 1
             go_wp2_with (first | ((with_reducible refine gate_callee (f := 35) rfl ?_); refine goesL_ (some 86) rfl rfl Try.func35 (by kernel_rfl) rfl #[.agg #[.int .i64 t235, .slice Ao124 t236.length co124], .agg #[.int .i64 t202, .slice Ao23 t203.length co23]] rfl pwy_ ?_; (with_reducible refine (laws_eqClaim.calls kj60 t235 _ _ t236 t202 _ _ t203 false _ ?side1 ?side2 ?side3 ?side4 A125.out).mono ?_); (case side1 => refine (Kd.R_reads' (e := 62) (base := w.heap.size) (ok := fun k_ => ((((True ∧ some k_ ≠ (.slice Ao23 t203.length co23 : Value).ownBlock) ∧ some k_ ≠ (.slice Ao30 t226.length co30 : Value).ownBlock) ∧ some k_ ≠ (.slice Ao37 t214.length co37 : Value).ownBlock) ∧ some k_ ≠ (.slice Ao116 t232.length co116 : Value).ownBlock)) (n := t236.length) (c := co124) ?_).2.2; exact (by (with_reducible repeat apply Kd.R_alloc); exact (Kd.R_mono (Kd.R_far (p := ⟨gb240, 1, none⟩) (Kd.R_far (p := ⟨gb240, 0, none⟩) (Kd.R_types HO238.out BK240.out (by decide)) (fun _ hk => hk.2) (.int .i64 t235)) (fun _ hk => hk.2) (.slice Ao124 t236.length co124)) (fun _ h_ => h_.1)))); (case side2 => exact (Kd.R_reads' HO238.out).2.1); (case side3 => refine (Kd.R_reads' (e := 62) (base := w.heap.size) (ok := fun k_ => (((some k_ ≠ (.slice Ao30 t226.length co30 : Value).ownBlock ∧ some k_ ≠ (.slice Ao37 t214.length co37 : Value).ownBlock) ∧ some k_ ≠ (.slice Ao116 t232.length co116 : Value).ownBlock) ∧ some k_ ≠ (.slice Ao124 t236.length co124 : Value).ownBlock)) (n := t203.length) (c := co23) ?_).2.2; exact (by (with_reducible repeat apply Kd.R_alloc); exact (Kd.R_mono (Kd.R_far (p := ⟨gb240, 1, none⟩) (Kd.R_far (p := ⟨gb240, 0, none⟩) (Kd.R_types HO_208001.out BK240.out (by decide)) (fun _ hk => hk.2) (.int .i64 t235)) (fun _ hk => hk.2) (.slice Ao124 t236.length co124)) (fun _ h_ => h_.1)))); (case side4 => exact (Kd.R_reads' HO_208001.out).2.1); rintro e w146 ⟨rfl, hb⟩; refine ⟨_, rfl, ?_⟩; have n0_ := Aside0.mk (Kd.R_below (by (with_reducible repeat apply Kd.R_alloc); exact (Kd.R_mono (Kd.R_far (p := ⟨gb240, 1, none⟩) (Kd.R_far (p := ⟨gb240, 0, none⟩) (Kd.R_types HO_208001.out BK240.out (by decide)) (fun _ hk => hk.2) (.int .i64 t235)) (fun _ hk => hk.2) (.slice Ao124 t236.length co124)) (fun _ h_ => h_.1))) hb); have n1_ := Aside0.mk (Kd.R_below (by (with_reducible repeat apply Kd.R_alloc); exact (Kd.R_mono (Kd.R_far (p := ⟨gb240, 1, none⟩) (Kd.R_far (p := ⟨gb240, 0, none⟩) (Kd.R_types HO_213001.out BK240.out (by decide)) (fun _ hk => hk.2) (.int .i64 t235)) (fun _ hk => hk.2) (.slice Ao124 t236.length co124)) (fun _ h_ => h_.1))) hb); have n2_ := Aside0.mk (Kd.R_below (by (with_reducible repeat apply Kd.R_alloc); exact (Kd.R_mono (Kd.R_far (p := ⟨gb240, 1, none⟩) (Kd.R_far (p := ⟨gb240, 0, none⟩) (Kd.R_types HO_219001.out BK240.out (by decide)) (fun _ hk => hk.2) (.int .i64 t235)) (fun _ hk => hk.2) (.slice Ao124 t236.length co124)) (fun _ h_ => h_.1))) hb); have n3_ := Aside0.mk (Kd.R_below (by (with_reducible repeat apply Kd.R_alloc); exact (Kd.R_mono (Kd.R_far (p := ⟨gb240, 1, none⟩) (Kd.R_far (p := ⟨gb240, 0, none⟩) (Kd.R_types HO234.out BK240.out (by decide)) (fun _ hk => hk.2) (.int .i64 t235)) (fun _ hk => hk.2) (.slice Ao124 t236.length co124)) (fun _ h_ => h_.1))) hb); have n4_ := Aside0.mk (Kd.R_below (by (with_reducible repeat apply Kd.R_alloc); exact (Kd.R_mono (Kd.R_far (p := ⟨gb240, 1, none⟩) (Kd.R_far (p := ⟨gb240, 0, none⟩) (Kd.R_types HO238.out BK240.out (by decide)) (fun _ hk => hk.2) (.int .i64 t235)) (fun _ hk => hk.2) (.slice Ao124 t236.length co124)) (fun _ h_ => h_.1))) hb); have n5_ := Aside0.mk (blk_below (g := gb196) (o := .cells #[.int .i64 a1_0, .slice A1_1 l1_1.length c1_1] 43 (0, 0)) (by (with_reducible repeat (first | refine blk_drewN ?_ _ | refine blk_drew ?_ | refine blk_alloc ?_ _)); refine blk_far ?_ NB196_240.out _; (with_reducible repeat (first | refine blk_drewN ?_ _ | refine blk_drew ?_ | refine blk_alloc ?_ _)); refine blk_far ?_ NB196_240.out _; (with_reducible repeat (first | refine blk_drewN ?_ _ | refine blk_drew ?_ | refine blk_alloc ?_ _)); exact BK196.out) hb); have n6_ := Aside0.mk (blk_below (g := gb207) (o := .cells #[.int .i64 t202, .slice Ao23 t203.length co23] 47 (0, 0)) (by (with_reducible repeat (first | refine blk_drewN ?_ _ | refine blk_drew ?_ | refine blk_alloc ?_ _)); refine blk_far ?_ NB207_240.out _; (with_reducible repeat (first | refine blk_drewN ?_ _ | refine blk_drew ?_ | refine blk_alloc ?_ _)); refine blk_far ?_ NB207_240.out _; (with_reducible repeat (first | refine blk_drewN ?_ _ | refine blk_drew ?_ | refine blk_alloc ?_ _)); exact BK207.out) hb); have n7_ := Aside0.mk (blk_below (g := gb212) (o := .cells #[.int .i64 t208, .slice Ao30 t226.length co30] 47 (0, 0)) (by (with_reducible repeat (first | refine blk_drewN ?_ _ | refine blk_drew ?_ | refine blk_alloc ?_ _)); refine blk_far ?_ NB212_240.out _; (with_reducible repeat (first | refine blk_drewN ?_ _ | refine blk_drew ?_ | refine blk_alloc ?_ _)); refine blk_far ?_ NB212_240.out _; (with_reducible repeat (first | refine blk_drewN ?_ _ | refine blk_drew ?_ | refine blk_alloc ?_ _)); exact BK212.out) hb); have n8_ := Aside0.mk (blk_below (g := gb218) (o := .cells #[.int .i64 t213, .slice Ao37 t214.length co37] 47 (0, 0)) (by (with_reducible repeat (first | refine blk_drewN ?_ _ | refine blk_drew ?_ | refine blk_alloc ?_ _)); refine blk_far ?_ NB218_240.out _; (with_reducible repeat (first | refine blk_drewN ?_ _ | refine blk_drew ?_ | refine blk_alloc ?_ _)); refine blk_far ?_ NB218_240.out _; (with_reducible repeat (first | refine blk_drewN ?_ _ | refine blk_drew ?_ | refine blk_alloc ?_ _)); exact BK218.out) hb); have n9_ := Aside0.mk (blk_below (g := gb240) (o := .cells #[.int .i64 t235, .slice Ao124 t236.length co124] 47 (0, 0)) (by (with_reducible repeat (first | refine blk_drewN ?_ _ | refine blk_drew ?_ | refine blk_alloc ?_ _)); refine blk_put (cs := #[.int .i64 t235, .slice none 0 0]) ?_ 1 _ rfl; (with_reducible repeat (first | refine blk_drewN ?_ _ | refine blk_drew ?_ | refine blk_alloc ?_ _)); refine blk_put (cs := #[.int .i64 0, .slice none 0 0]) ?_ 0 _ rfl; (with_reducible repeat (first | refine blk_drewN ?_ _ | refine blk_drew ?_ | refine blk_alloc ?_ _)); exact BK240.out) hb); have n10_ := Aside0.mk (below_step (by repeat (first | (with_reducible first | exact HB.out | apply below_alloc | apply pw_below_drewN | apply below_drew1 | refine below_set ?_ GE196.out | refine below_set ?_ GE207.out | refine below_set ?_ GE212.out | refine below_set ?_ GE218.out | refine below_set ?_ GE240.out) | exact HB.out)) hb); clear HO_208001; clear HO_213001; clear HO_219001; clear HO234; clear HO238; clear BK196; clear BK207; clear BK212; clear BK218; clear BK240; clear HB; have HO_208001 := n0_; have HO_213001 := n1_; have HO_219001 := n2_; have HO234 := n3_; have HO238 := n4_; have BK196 := n5_; have BK207 := n6_; have BK212 := n7_; have BK218 := n8_; have BK240 := n9_; have HB := n10_; clear n0_ n1_ n2_ n3_ n4_ n5_ n6_ n7_ n8_ n9_ n10_; (try clear hb); (try clear hb2); (try clear hk); (try clear hi)))
             go_meet
             case rel => exact ⟨_, (true), pwa_, H', ⟨by have := HJ11.out; have := HJ60.out; first | omega | exact Nat.le_refl _⟩, ⟨by (try simp only [hl213001_60]); (with_reducible repeat apply Kd.R_alloc); exact Kd.R_mono HO_208001.out (fun _ hk => ⟨hk.1.1.1, ⟨hk.1.1.2, hk.2⟩⟩)⟩, ⟨by (try simp only [hl213001_60]); (with_reducible repeat apply Kd.R_alloc); exact Kd.R_mono HO_213001.out (fun _ hk => ⟨hk.1.1.1, ⟨hk.1.1.2, hk.2⟩⟩)⟩, ⟨by (try simp only [hl213001_60]); (with_reducible repeat apply Kd.R_alloc); exact Kd.R_mono HO_219001.out (fun _ hk => ⟨hk.1.1.1, ⟨hk.1.1.2, hk.2⟩⟩)⟩, ⟨by (try simp only [hl213001_60]); (with_reducible repeat apply Kd.R_alloc); exact Kd.R_mono HO238.out (fun _ hk => ⟨hk.1.1.1.2, ⟨hk.1.1.2, hk.1.2⟩⟩)⟩, ⟨by (try simp only [hl213001_60]); (with_reducible repeat (first | refine blk_drewN ?_ _ | refine blk_drew ?_ | refine blk_alloc ?_ _)); exact BK196.out⟩, ⟨by (try simp only [hl213001_60]); (with_reducible repeat (first | refine blk_drewN ?_ _ | refine blk_drew ?_ | refine blk_alloc ?_ _)); exact BK207.out⟩, ⟨by (try simp only [hl213001_60]); (with_reducible repeat (first | refine blk_drewN ?_ _ | refine blk_drew ?_ | refine blk_alloc ?_ _)); exact BK212.out⟩, ⟨by (try simp only [hl213001_60]); (with_reducible repeat (first | refine blk_drewN ?_ _ | refine blk_drew ?_ | refine blk_alloc ?_ _)); exact BK218.out⟩, ⟨by (try simp only [hl213001_60]); (with_reducible repeat (first | refine blk_drewN ?_ _ | refine blk_drew ?_ | refine blk_alloc ?_ _)); exact BK240.out⟩, ⟨by repeat (first | (with_reducible first | exact HB.out | apply below_alloc | apply pw_below_drewN | apply below_drew1 | refine below_set ?_ GE196.out | refine below_set ?_ GE207.out | refine below_set ?_ GE212.out | refine below_set ?_ GE218.out | refine below_set ?_ GE240.out) | exact HB.out)⟩⟩
           case rest =>
            clear HC104
            try clear c1
            try clear c2
            try clear p2
            try clear c3
            try clear c4
            try clear c4b0
            try clear c5
            try clear c6
            try clear c7
            try clear c8
            try clear c9
            try clear c10
            try clear c11
            try clear c12
            try clear c13
            try clear c14
            try clear c21
            try clear c27
            try clear c28
            try clear c31
            try clear c33
            try clear c34
            try clear c35
            try clear c36
            try clear c39
            try clear c40
            try clear c41
            try clear c42
            try clear c44
            try clear c45
            try clear c47
            try clear c48
            try clear c49
            try clear c50
            try clear c52
            try clear c53
            try clear c56
            try clear c59
            try clear c66
            try clear c67
            try clear c68
            try clear c71
            try clear c71b0
            try clear c73
            try clear c74
            try clear c75
            try clear c76
            try clear c78
            try clear c79
            try clear c82
            try clear c83
            try clear c84
            try clear c86
            try clear c87
            try clear c90
            try clear c93
            try clear c93b0
            try clear c94
            try clear c95
            try clear c96
            try clear c101
            try clear c101b0
            try clear c101b1
            try clear c105
            try clear c106
            try clear c107
            try clear c112
            try clear c113
            try clear c119
            try clear c120
            try clear c121
            try clear c122
            try clear c126
            try clear c127
            try clear c128
            try clear c129
            try clear c130
            try clear c132
            try clear c133
            try clear c134
            try clear c137
            try clear c138
            try clear c139
            try clear c140
            try clear c142
            try clear c143
            try clear c144
            try clear hcz108_0
            try clear hcz108_1
            try clear hcz110_0
            try clear hcz110_1
            try clear hcz114_0
            try clear hcz114_1
            try clear hcz123_0
            try clear hcz123_1
            try clear hcz131_0
            try clear hcz131_1
            try clear hcz135_0
            try clear hcz135_1
            try clear hcz141_0
            try clear hcz141_1
            try clear hcz145_0
            try clear hcz145_1
            try clear hcz14_0
            try clear hcz14_1
            try clear hcz16_0
            try clear hcz16_1
            try clear hcz22_0
            try clear hcz22_1
            try clear hcz24_0
            try clear hcz24_1
            try clear hcz29_0
            try clear hcz29_1
            try clear hcz36_0
            try clear hcz36_1
            try clear hcz43_0
            try clear hcz43_1
            try clear hcz46_0
            try clear hcz46_1
            try clear hcz51_0
            try clear hcz51_1
            try clear hcz54_0
            try clear hcz54_1
            try clear hcz69_0
            try clear hcz69_1
            try clear hcz6_0
            try clear hcz6_1
            try clear hcz77_0
            try clear hcz77_1
            try clear hcz80_0
            try clear hcz80_1
            try clear hcz85_0
            try clear hcz85_1
            try clear hcz88_0
            try clear hcz88_1
            try clear hcz97_0
            try clear hcz97_1
            try clear hcz99_0
            try clear hcz99_1
            try clear hfz108_0
            try clear hfz108_1
            try clear hfz110_0
            try clear hfz110_1
            try clear hfz114_0
            try clear hfz114_1
            try clear hfz123_0
            try clear hfz123_1
            try clear hfz131_0
            try clear hfz131_1
            try clear hfz135_0
            try clear hfz135_1
            try clear hfz141_0
            try clear hfz141_1
            try clear hfz145_0
            try clear hfz145_1
            try clear hfz14_0
            try clear hfz14_1
            try clear hfz16_0
            try clear hfz16_1
            try clear hfz22_0
            try clear hfz22_1
            try clear hfz24_0
            try clear hfz24_1
            try clear hfz29_0
            try clear hfz29_1
            try clear hfz36_0
            try clear hfz36_1
            try clear hfz43_0
            try clear hfz43_1
            try clear hfz46_0
            try clear hfz46_1
            try clear hfz51_0
            try clear hfz51_1
            try clear hfz54_0
            try clear hfz54_1
            try clear hfz69_0
            try clear hfz69_1
            try clear hfz6_0
            try clear hfz6_1
            try clear hfz77_0
            try clear hfz77_1
            try clear hfz80_0
            try clear hfz80_1
            try clear hfz85_0
            try clear hfz85_1
            try clear hfz88_0
            try clear hfz88_1
            try clear hfz97_0
            try clear hfz97_1
            try clear hfz99_0
            try clear hfz99_1
            try clear p2
            obtain ⟨kq, x92_103, rfl, HA, HJ103, HO_208001, HO_213001, HO_219001, HO_241001, BK196, BK207, BK212, BK218, BK240, HB⟩ := hcut
            have hl219001_103 := (Kd.R_reads' HO_219001.out).1
            rw [hl219001_103] at HO_219001
            (try simp only [hl219001_103])
            (try simp only [hl219001_103] at BK196)
            (try simp only [hl219001_103] at BK207)
            (try simp only [hl219001_103] at BK212)
            (try simp only [hl219001_103] at BK218)
            (try simp only [hl219001_103] at BK240)
            (try simp only [hl219001_103] at HO_208001)
            (try simp only [hl219001_103] at HO_213001)
            (try simp only [hl219001_103] at HO_241001)
            cases kq with
            | zero => exact absurd HA.out (by simp [laws_FnExactDenyClaim.j2])
            | succ kj103 =>
             have H := HA.out
             clear HA
             simp only [laws_FnExactDenyClaim.j2] at H
             by_cases c147 : x92_103 = true
             ·subst c147
              have H1 : (some false) = some r := by rw [if_pos rfl] at H; exact H
              clear H
              have H := H1
              clear H1
              obtain rfl := Option.some.inj H
              go_wp2
              go_ret
              exact ⟨by first | rfl | (simp [errW_none, errW_some] <;> rfl) | (simp [*, errW_none, errW_some] <;> rfl), by repeat (first | (with_reducible first | exact HB.out | apply below_alloc | apply pw_below_drewN | apply below_drew1 | refine below_set ?_ GE196.out | refine below_set ?_ GE207.out | refine below_set ?_ GE212.out | refine below_set ?_ GE218.out | refine below_set ?_ GE240.out) | exact HB.out)⟩
             ·replace c147 := Bool.eq_false_iff.mpr c147
              subst c147
              have H1 : ((laws_heldClaim.f kj103 t213 t229 1).bind fun t242 => (if t242 < 0 then (some false) else (if t242 = t228 then (some true) else (some false)))) = some r := by rw [if_neg (show ¬ (false = true) by decide)] at H; exact H
              clear H
              have H := H1
              clear H1
              replace H := Option.bind_eq_some_iff.mp H
              obtain ⟨t242, A1480, H⟩ := H
              replace H : (if t242 < 0 then (some false) else (if t242 = t228 then (some true) else (some false))) = some r := H
              have A148 := Aside0.mk A1480
              clear A1480
              by_cases c149 : t242 < 0
              ·rw [if_pos c149] at H
               have c149b0 : decide (t242 < 0) = true := decide_eq_true c149
               clear c149
               obtain rfl := Option.some.inj H
               have hnb150 := NB218_196.out
               have hnc150 := NB196_218.out
               have hnb151 := NB218_207.out
               have hnc151 := NB207_218.out
               have hnb152 := NB218_212.out
               have hnc152 := NB212_218.out
               have hnb153 := NB218_240.out
               have hnc153 := NB240_218.out
               have hcz154_0 : wc.cell? ⟨gb218, 0, none⟩ = some (.int .i64 t213) := (blk_cell BK218.out 0).trans rfl
               have hcz154_1 : wc.cell? ⟨gb218, 1, none⟩ = some (.slice Ao37 t229.length co37) := (blk_cell BK218.out 1).trans rfl
               have hfz154_0 := blk_frozen BK218.out 0
               have hfz154_1 := blk_frozen BK218.out 1
               go_wp2_with (first | ((with_reducible refine gate_callee (f := 49) rfl ?_); refine goesL_ (some 95) rfl rfl Try.func49 (by kernel_rfl) rfl #[.agg #[.int .i64 t213, .slice Ao37 t229.length co37], .int .i64 1] rfl pwy_ ?_; (with_reducible refine (laws_heldClaim.calls kj103 t213 _ _ t229 1 t242 _ ?side1 ?side2 A148.out).mono ?_); (case side1 => repeat (first | exact (Kd.R_reads' HO_219001.out).2.2 | (with_reducible refine Kd.C_alloc ?_ _) | (with_reducible refine Kd.C_drewN ?_ _) | (with_reducible refine Kd.C_drew ?_))); (case side2 => exact (Kd.R_reads' HO_219001.out).2.1); rintro e w155 ⟨rfl, hb⟩; refine ⟨_, rfl, ?_⟩; have n0_ := Aside0.mk (Kd.R_below pwc_ hb); have n1_ := Aside0.mk (Kd.R_below pwd_ hb); have n2_ := Aside0.mk (Kd.R_below pwe_ hb); have n3_ := Aside0.mk (Kd.R_below (by (with_reducible repeat apply Kd.R_alloc); exact HO_241001.out) hb); have n4_ := Aside0.mk (blk_below (g := gb196) (o := .cells #[.int .i64 a1_0, .slice A1_1 l1_1.length c1_1] 43 (0, 0)) pwr_ hb); have n5_ := Aside0.mk (blk_below (g := gb207) (o := .cells #[.int .i64 t202, .slice Ao23 t203.length co23] 47 (0, 0)) pws_ hb); have n6_ := Aside0.mk (blk_below (g := gb212) (o := .cells #[.int .i64 t208, .slice Ao30 t226.length co30] 47 (0, 0)) pwt_ hb); have n7_ := Aside0.mk (blk_below (g := gb218) (o := .cells #[.int .i64 t213, .slice Ao37 t229.length co37] 47 (0, 0)) pwu_ hb); have n8_ := Aside0.mk (blk_below (g := gb240) (o := .cells #[.int .i64 t235, .slice Ao124 t236.length co124] 47 (0, 0)) pwv_ hb); have n9_ := Aside0.mk (below_step (by repeat (first | (with_reducible first | exact HB.out | apply below_alloc | apply pw_below_drewN | apply below_drew1 | refine below_set ?_ GE196.out | refine below_set ?_ GE207.out | refine below_set ?_ GE212.out | refine below_set ?_ GE218.out | refine below_set ?_ GE240.out) | exact HB.out)) hb); clear HO_208001; clear HO_213001; clear HO_219001; clear HO_241001; clear BK196; clear BK207; clear BK212; clear BK218; clear BK240; clear HB; have HO_208001 := n0_; have HO_213001 := n1_; have HO_219001 := n2_; have HO_241001 := n3_; have BK196 := n4_; have BK207 := n5_; have BK212 := n6_; have BK218 := n7_; have BK240 := n8_; have HB := n9_; clear n0_ n1_ n2_ n3_ n4_ n5_ n6_ n7_ n8_ n9_; (try clear hb); (try clear hb2); (try clear hk); (try clear hi)))
               go_ret
               exact ⟨by first | rfl | (simp [errW_none, errW_some] <;> rfl) | (simp [*, errW_none, errW_some] <;> rfl), by repeat (first | (with_reducible first | exact HB.out | apply below_alloc | apply pw_below_drewN | apply below_drew1 | refine below_set ?_ GE196.out | refine below_set ?_ GE207.out | refine below_set ?_ GE212.out | refine below_set ?_ GE218.out | refine below_set ?_ GE240.out) | exact HB.out)⟩
              ·rw [if_neg c149] at H
               have c149b0 : decide (t242 < 0) = false := decide_eq_false c149
               clear c149
               by_cases c156 : t242 = t228
               ·rw [if_pos c156] at H
                have c156b0 : (t242 == t228) = true := beq_iff_eq.mpr c156
                have c156b1 : (t242 != t228) = false := bne_eq_false_iff_eq.mpr c156
                clear c156
                obtain rfl := Option.some.inj H
                have hnb157 := NB218_196.out
                have hnc157 := NB196_218.out
                have hnb158 := NB218_207.out
                have hnc158 := NB207_218.out
                have hnb159 := NB218_212.out
                have hnc159 := NB212_218.out
                have hnb160 := NB218_240.out
                have hnc160 := NB240_218.out
                have hcz161_0 : wc.cell? ⟨gb218, 0, none⟩ = some (.int .i64 t213) := (blk_cell BK218.out 0).trans rfl
                have hcz161_1 : wc.cell? ⟨gb218, 1, none⟩ = some (.slice Ao37 t229.length co37) := (blk_cell BK218.out 1).trans rfl
                have hfz161_0 := blk_frozen BK218.out 0
                have hfz161_1 := blk_frozen BK218.out 1
                go_wp2_with (first | ((with_reducible refine gate_callee (f := 49) rfl ?_); refine goesL_ (some 95) rfl rfl Try.func49 (by kernel_rfl) rfl #[.agg #[.int .i64 t213, .slice Ao37 t229.length co37], .int .i64 1] rfl pwy_ ?_; (with_reducible refine (laws_heldClaim.calls kj103 t213 _ _ t229 1 t242 _ ?side1 ?side2 A148.out).mono ?_); (case side1 => repeat (first | exact (Kd.R_reads' HO_219001.out).2.2 | (with_reducible refine Kd.C_alloc ?_ _) | (with_reducible refine Kd.C_drewN ?_ _) | (with_reducible refine Kd.C_drew ?_))); (case side2 => exact (Kd.R_reads' HO_219001.out).2.1); rintro e w162 ⟨rfl, hb⟩; refine ⟨_, rfl, ?_⟩; have n0_ := Aside0.mk (Kd.R_below pwc_ hb); have n1_ := Aside0.mk (Kd.R_below pwd_ hb); have n2_ := Aside0.mk (Kd.R_below pwe_ hb); have n3_ := Aside0.mk (Kd.R_below (by (with_reducible repeat apply Kd.R_alloc); exact HO_241001.out) hb); have n4_ := Aside0.mk (blk_below (g := gb196) (o := .cells #[.int .i64 a1_0, .slice A1_1 l1_1.length c1_1] 43 (0, 0)) pwr_ hb); have n5_ := Aside0.mk (blk_below (g := gb207) (o := .cells #[.int .i64 t202, .slice Ao23 t203.length co23] 47 (0, 0)) pws_ hb); have n6_ := Aside0.mk (blk_below (g := gb212) (o := .cells #[.int .i64 t208, .slice Ao30 t226.length co30] 47 (0, 0)) pwt_ hb); have n7_ := Aside0.mk (blk_below (g := gb218) (o := .cells #[.int .i64 t213, .slice Ao37 t229.length co37] 47 (0, 0)) pwu_ hb); have n8_ := Aside0.mk (blk_below (g := gb240) (o := .cells #[.int .i64 t235, .slice Ao124 t236.length co124] 47 (0, 0)) pwv_ hb); have n9_ := Aside0.mk (below_step (by repeat (first | (with_reducible first | exact HB.out | apply below_alloc | apply pw_below_drewN | apply below_drew1 | refine below_set ?_ GE196.out | refine below_set ?_ GE207.out | refine below_set ?_ GE212.out | refine below_set ?_ GE218.out | refine below_set ?_ GE240.out) | exact HB.out)) hb); clear HO_208001; clear HO_213001; clear HO_219001; clear HO_241001; clear BK196; clear BK207; clear BK212; clear BK218; clear BK240; clear HB; have HO_208001 := n0_; have HO_213001 := n1_; have HO_219001 := n2_; have HO_241001 := n3_; have BK196 := n4_; have BK207 := n5_; have BK212 := n6_; have BK218 := n7_; have BK240 := n8_; have HB := n9_; clear n0_ n1_ n2_ n3_ n4_ n5_ n6_ n7_ n8_ n9_; (try clear hb); (try clear hb2); (try clear hk); (try clear hi)))
                go_ret
                exact ⟨by first | rfl | (simp [errW_none, errW_some] <;> rfl) | (simp [*, errW_none, errW_some] <;> rfl), by repeat (first | (with_reducible first | exact HB.out | apply below_alloc | apply pw_below_drewN | apply below_drew1 | refine below_set ?_ GE196.out | refine below_set ?_ GE207.out | refine below_set ?_ GE212.out | refine below_set ?_ GE218.out | refine below_set ?_ GE240.out) | exact HB.out)⟩
               ·rw [if_neg c156] at H
                have c156b0 : (t242 == t228) = false := beq_eq_false_iff_ne.mpr c156
                have c156b1 : (t242 != t228) = true := bne_iff_ne.mpr c156
                obtain rfl := Option.some.inj H
                have hnb163 := NB218_196.out
                have hnc163 := NB196_218.out
                have hnb164 := NB218_207.out
                have hnc164 := NB207_218.out
                have hnb165 := NB218_212.out
                have hnc165 := NB212_218.out
                have hnb166 := NB218_240.out
                have hnc166 := NB240_218.out
                have hcz167_0 : wc.cell? ⟨gb218, 0, none⟩ = some (.int .i64 t213) := (blk_cell BK218.out 0).trans rfl
                have hcz167_1 : wc.cell? ⟨gb218, 1, none⟩ = some (.slice Ao37 t229.length co37) := (blk_cell BK218.out 1).trans rfl
                have hfz167_0 := blk_frozen BK218.out 0
                have hfz167_1 := blk_frozen BK218.out 1
                go_wp2_with (first | ((with_reducible refine gate_callee (f := 49) rfl ?_); refine goesL_ (some 95) rfl rfl Try.func49 (by kernel_rfl) rfl #[.agg #[.int .i64 t213, .slice Ao37 t229.length co37], .int .i64 1] rfl pwy_ ?_; (with_reducible refine (laws_heldClaim.calls kj103 t213 _ _ t229 1 t242 _ ?side1 ?side2 A148.out).mono ?_); (case side1 => repeat (first | exact (Kd.R_reads' HO_219001.out).2.2 | (with_reducible refine Kd.C_alloc ?_ _) | (with_reducible refine Kd.C_drewN ?_ _) | (with_reducible refine Kd.C_drew ?_))); (case side2 => exact (Kd.R_reads' HO_219001.out).2.1); rintro e w168 ⟨rfl, hb⟩; refine ⟨_, rfl, ?_⟩; have n0_ := Aside0.mk (Kd.R_below pwc_ hb); have n1_ := Aside0.mk (Kd.R_below pwd_ hb); have n2_ := Aside0.mk (Kd.R_below pwe_ hb); have n3_ := Aside0.mk (Kd.R_below (by (with_reducible repeat apply Kd.R_alloc); exact HO_241001.out) hb); have n4_ := Aside0.mk (blk_below (g := gb196) (o := .cells #[.int .i64 a1_0, .slice A1_1 l1_1.length c1_1] 43 (0, 0)) pwr_ hb); have n5_ := Aside0.mk (blk_below (g := gb207) (o := .cells #[.int .i64 t202, .slice Ao23 t203.length co23] 47 (0, 0)) pws_ hb); have n6_ := Aside0.mk (blk_below (g := gb212) (o := .cells #[.int .i64 t208, .slice Ao30 t226.length co30] 47 (0, 0)) pwt_ hb); have n7_ := Aside0.mk (blk_below (g := gb218) (o := .cells #[.int .i64 t213, .slice Ao37 t229.length co37] 47 (0, 0)) pwu_ hb); have n8_ := Aside0.mk (blk_below (g := gb240) (o := .cells #[.int .i64 t235, .slice Ao124 t236.length co124] 47 (0, 0)) pwv_ hb); have n9_ := Aside0.mk (below_step (by repeat (first | (with_reducible first | exact HB.out | apply below_alloc | apply pw_below_drewN | apply below_drew1 | refine below_set ?_ GE196.out | refine below_set ?_ GE207.out | refine below_set ?_ GE212.out | refine below_set ?_ GE218.out | refine below_set ?_ GE240.out) | exact HB.out)) hb); clear HO_208001; clear HO_213001; clear HO_219001; clear HO_241001; clear BK196; clear BK207; clear BK212; clear BK218; clear BK240; clear HB; have HO_208001 := n0_; have HO_213001 := n1_; have HO_219001 := n2_; have HO_241001 := n3_; have BK196 := n4_; have BK207 := n5_; have BK212 := n6_; have BK218 := n7_; have BK240 := n8_; have HB := n9_; clear n0_ n1_ n2_ n3_ n4_ n5_ n6_ n7_ n8_ n9_; (try clear hb); (try clear hb2); (try clear hk); (try clear hi)))
                go_ret
                exact ⟨by first | rfl | (simp [errW_none, errW_some] <;> rfl) | (simp [*, errW_none, errW_some] <;> rfl), by repeat (first | (with_reducible first | exact HB.out | apply below_alloc | apply pw_below_drewN | apply below_drew1 | refine below_set ?_ GE196.out | refine below_set ?_ GE207.out | refine below_set ?_ GE212.out | refine below_set ?_ GE218.out | refine below_set ?_ GE240.out) | exact HB.out)⟩
          ·rw [if_neg c101] at H
           have c101b0 : (t230 == t228) = false := beq_eq_false_iff_ne.mpr c101
           have c101b1 : (t230 != t228) = true := bne_iff_ne.mpr c101
           obtain rfl := Option.some.inj H
           have hnb169 := NB218_196.out
           have hnc169 := NB196_218.out
           have hnb170 := NB218_207.out
           have hnc170 := NB207_218.out
           have hnb171 := NB218_212.out
           have hnc171 := NB212_218.out
           have hcz172_0 : wc.cell? ⟨gb218, 0, none⟩ = some (.int .i64 t213) := (blk_cell BK218.out 0).trans rfl
           have hcz172_1 : wc.cell? ⟨gb218, 1, none⟩ = some (.slice Ao37 t214.length co37) := (blk_cell BK218.out 1).trans rfl
           have hfz172_0 := blk_frozen BK218.out 0
           have hfz172_1 := blk_frozen BK218.out 1
           go_wp2_with (first | ((with_reducible refine gate_callee (f := 36) rfl ?_); refine goesL_ (some 68) rfl rfl Try.func36 (by kernel_rfl) rfl #[.agg #[.int .i64 t213, .slice Ao37 t214.length co37], .int .i64 1] rfl pwy_ ?_; (with_reducible refine (laws_markClaim.calls kj60 t213 (fun k_ => some k_ = (.slice Ao37 t214.length co37 : Value).ownBlock) (.slice Ao37 t214.length co37) t214 1 t228 t229 w _ ?side1 ?side2 A91.out).mono ?_); (case side1 => repeat (first | (with_reducible first | exact HB.out | apply below_alloc | apply pw_below_drewN | apply below_drew1 | refine below_set ?_ GE196.out | refine below_set ?_ GE207.out | refine below_set ?_ GE212.out | refine below_set ?_ GE218.out) | exact HB.out)); (case side2 => exact Kd.R_tight rfl HO_219001.out); rintro e w173 ⟨rfl, hy0, hb, hkp⟩; refine ⟨_, rfl, ?_⟩; have n0_ := Aside0.mk (Kd.R_mono (ok' := fun k_ => some k_ ≠ (.slice Ao30 t226.length co30 : Value).ownBlock ∧ some k_ ≠ (.slice Ao37 t214.length co37 : Value).ownBlock) (Kd.R_keptB (HO_208001.out) hkp (fun k_ hk_ hs_ => (hk_.2) hs_)) (fun k_ hk_ => ⟨hk_.1.1, hk_.1.2⟩)); have n1_ := Aside0.mk (Kd.R_mono (ok' := fun k_ => some k_ ≠ (.slice Ao23 t203.length co23 : Value).ownBlock ∧ some k_ ≠ (.slice Ao37 t214.length co37 : Value).ownBlock) (Kd.R_keptB (HO_213001.out) hkp (fun k_ hk_ hs_ => (hk_.2) hs_)) (fun k_ hk_ => ⟨hk_.1.1, hk_.1.2⟩)); have n2_ := Aside0.mk (Kd.R_reok rfl hy0 (fun k_ e_ => HO_219001.out.1 k_ e_)); have n3_ := Aside0.mk (blk_kept pwr_ hkp (fun hs_ => (fun e_ => (Kd.R_ne HO_219001.out BK196.out (by decide)) e_) hs_)); have n4_ := Aside0.mk (blk_kept pws_ hkp (fun hs_ => (fun e_ => (Kd.R_ne HO_219001.out BK207.out (by decide)) e_) hs_)); have n5_ := Aside0.mk (blk_kept pwt_ hkp (fun hs_ => (fun e_ => (Kd.R_ne HO_219001.out BK212.out (by decide)) e_) hs_)); have n6_ := Aside0.mk (blk_kept pwu_ hkp (fun hs_ => (fun e_ => (Kd.R_ne HO_219001.out BK218.out (by decide)) e_) hs_)); have n7_ := Aside0.mk (hb); clear HO_208001; clear HO_213001; clear HO_219001; clear BK196; clear BK207; clear BK212; clear BK218; clear HB; have HO_208001 := n0_; have HO_213001 := n1_; have HO_219001 := n2_; have BK196 := n3_; have BK207 := n4_; have BK212 := n5_; have BK218 := n6_; have HB := n7_; clear n0_ n1_ n2_ n3_ n4_ n5_ n6_ n7_; (try clear hb); (try clear hkp); (try clear hy0); have hcz174_0 : w173.cell? ⟨gb218, 0, none⟩ = some (.int .i64 t213) := (blk_cell BK218.out 0).trans rfl; have hcz174_1 : w173.cell? ⟨gb218, 1, none⟩ = some (.slice Ao37 t214.length co37) := (blk_cell BK218.out 1).trans rfl; have hfz174_0 := blk_frozen BK218.out 0; have hfz174_1 := blk_frozen BK218.out 1) | ((with_reducible refine gate_callee (f := 49) rfl ?_); refine goesL_ (some 71) rfl rfl Try.func49 (by kernel_rfl) rfl #[.agg #[.int .i64 t213, .slice Ao37 t229.length co37], .int .i64 1] rfl pwcc_ ?_; (with_reducible refine (laws_heldClaim.calls kj60 t213 _ _ t229 1 t230 _ ?side1 ?side2 A92.out).mono ?_); (case side1 => repeat (first | exact (Kd.R_reads' HO_219001.out).2.2 | (with_reducible refine Kd.C_alloc ?_ _) | (with_reducible refine Kd.C_drewN ?_ _) | (with_reducible refine Kd.C_drew ?_))); (case side2 => rw [show t229.length = t214.length from (Kd.R_reads' HO_219001.out).1.symm]; exact (Kd.R_reads' HO_219001.out).2.1); rintro e w175 ⟨rfl, hb⟩; refine ⟨_, rfl, ?_⟩; have n0_ := Aside0.mk (Kd.R_below pwc_ hb); have n1_ := Aside0.mk (Kd.R_below pwd_ hb); have n2_ := Aside0.mk (Kd.R_below pwe_ hb); have n3_ := Aside0.mk (blk_below (g := gb196) (o := .cells #[.int .i64 a1_0, .slice A1_1 l1_1.length c1_1] 43 (0, 0)) pwr_ hb); have n4_ := Aside0.mk (blk_below (g := gb207) (o := .cells #[.int .i64 t202, .slice Ao23 t203.length co23] 47 (0, 0)) pws_ hb); have n5_ := Aside0.mk (blk_below (g := gb212) (o := .cells #[.int .i64 t208, .slice Ao30 t226.length co30] 47 (0, 0)) pwt_ hb); have n6_ := Aside0.mk (blk_below (g := gb218) (o := .cells #[.int .i64 t213, .slice Ao37 t214.length co37] 47 (0, 0)) pwu_ hb); have n7_ := Aside0.mk (below_step pwee_ hb); clear HO_208001; clear HO_213001; clear HO_219001; clear BK196; clear BK207; clear BK212; clear BK218; clear HB; have HO_208001 := n0_; have HO_213001 := n1_; have HO_219001 := n2_; have BK196 := n3_; have BK207 := n4_; have BK212 := n5_; have BK218 := n6_; have HB := n7_; clear n0_ n1_ n2_ n3_ n4_ n5_ n6_ n7_; (try clear hb); (try clear hb2); (try clear hk); (try clear hi)))
           go_ret
           exact ⟨by first | rfl | (simp [errW_none, errW_some] <;> rfl) | (simp [*, errW_none, errW_some] <;> rfl), pwee_⟩
     ·replace c59 := Bool.eq_false_iff.mpr c59
      subst c59
      have H1 : (some false) = some r := by rw [if_neg (show ¬ (false = true) by decide)] at H; exact H
      clear H
      have H := H1
      clear H1
      obtain rfl := Option.some.inj H
      try go_wp2
      have n0_ := Aside0.mk (Kd.R_drew HO_208001.out)
      have n1_ := Aside0.mk (Kd.R_drew HO_213001.out)
      have n2_ := Aside0.mk (Kd.R_drew HO_219001.out)
      have n3_ := Aside0.mk (blk_drew BK196.out)
      have n4_ := Aside0.mk (blk_drew BK207.out)
      have n5_ := Aside0.mk (blk_drew BK212.out)
      have n6_ := Aside0.mk (blk_drew BK218.out)
      have n7_ := Aside0.mk (below_drew1 HB.out)
      clear HO_208001
      clear HO_213001
      clear HO_219001
      clear BK196
      clear BK207
      clear BK212
      clear BK218
      clear HB
      have HO_208001 := n0_
      have HO_213001 := n1_
      have HO_219001 := n2_
      have BK196 := n3_
      have BK207 := n4_
      have BK212 := n5_
      have BK218 := n6_
      have HB := n7_
      clear n0_ n1_ n2_ n3_ n4_ n5_ n6_ n7_
      refine start_ (n := 5) (S := fun w' => w'.cell? ⟨gb212, 0, none⟩ = some (.int .i64 t208) ∧ w'.cell? ⟨gb212, 1, none⟩ = some (.slice Ao30 t209.length co30) ∧ w'.cell? ⟨gb196, 0, none⟩ = some (.int .i64 a1_0) ∧ w'.cell? ⟨gb196, 1, none⟩ = some (.slice A1_1 l1_1.length c1_1)) (ds := []) #[false, false, false, false, false] (by kernel_rfl) rfl rfl ⟨(blk_cell BK212.out 0).trans rfl, (blk_cell BK212.out 1).trans rfl, (blk_cell BK196.out 0).trans rfl, (blk_cell BK196.out 1).trans rfl⟩ (fun hHeld => ?_)
      generalize wc.drew = w176 at HO_208001 HO_213001 HO_219001 BK196 BK207 BK212 BK218 HB hHeld ⊢
      refine take_ (i := 0) (N := some 45) (v := ?_) (a' := ?_) #[true, false, false, false, false] rfl rfl (by kernel_rfl) (fun _ _ _ h => h) (Or.inl ⟨by rfl, ?_⟩) hHeld ?_ ?_
      rotate_left
      ·rintro w' ⟨s0, s1, s2, s3⟩
       go_simp
       with_reducible rfl
      rotate_left
      ·simp only [Act.put, List.setIfInBounds_toArray, List.set_cons_zero, List.set_cons_succ, i64_w, i32_w]
       rfl
      refine take_ (i := 1) (N := some 46) (v := ?_) (a' := ?_) #[true, true, false, false, false] rfl rfl (by kernel_rfl) (fun _ _ _ h => h) (Or.inl ⟨by rfl, ?_⟩) hHeld ?_ ?_
      rotate_left
      ·rintro w' ⟨s0, s1, s2, s3⟩
       go_simp
       with_reducible rfl
      rotate_left
      ·simp only [Act.put, List.setIfInBounds_toArray, List.set_cons_zero, List.set_cons_succ, i64_w, i32_w]
       rfl
      refine one_ (i := 2) (N := some 47) #[true, true, true, false, false] rfl rfl (by kernel_rfl) (by decide) (fun K hK => ?_)
      refine goes_ Try.func33 (by kernel_rfl) rfl #[.agg #[.int .i64 a1_0, .slice A1_1 l1_1.length c1_1]] (by rfl) rfl rfl pwy_ ?_
      with_reducible refine (laws_toClaim.calls kj11 a1_0 _ _ l1_1 t220 t221 _ ?side1 ?side2 A57.out).mono ?_
      (case side1 => repeat (first | exact (Kd.C_below HR1_1.out HB.out) | (with_reducible refine Kd.C_alloc ?_ _) | (with_reducible refine Kd.C_drewN ?_ _) | (with_reducible refine Kd.C_drew ?_)))
      (case side2 => exact HC1_1.out)
      rintro e w177 ⟨v222, rfl, ho0, hb⟩
      refine ⟨_, rfl, ?_⟩
      have n0_ := Aside0.mk (Kd.R_elder' pwc_ (Kd.R_base ho0) hb)
      have n1_ := Aside0.mk (Kd.R_elder' pwd_ (Kd.R_base ho0) hb)
      have n2_ := Aside0.mk (Kd.R_elder' pwe_ (Kd.R_base ho0) hb)
      have n3_ := Aside0.mk (Kd.R_lower (Kd.R_new' (Kd.R_new' (Kd.R_new' ho0 (Kd.R_lt pwc_)) (Kd.R_lt pwd_)) (Kd.R_lt pwe_)) (below_size pwee_))
      have n4_ := Aside0.mk (blk_below (g := gb196) (o := .cells #[.int .i64 a1_0, .slice A1_1 l1_1.length c1_1] 43 (0, 0)) pwr_ hb)
      have n5_ := Aside0.mk (blk_below (g := gb207) (o := .cells #[.int .i64 t202, .slice Ao23 t203.length co23] 47 (0, 0)) pws_ hb)
      have n6_ := Aside0.mk (blk_below (g := gb212) (o := .cells #[.int .i64 t208, .slice Ao30 t209.length co30] 47 (0, 0)) pwt_ hb)
      have n7_ := Aside0.mk (blk_below (g := gb218) (o := .cells #[.int .i64 t213, .slice Ao37 t214.length co37] 47 (0, 0)) pwu_ hb)
      have n8_ := Aside0.mk (below_step pwee_ hb)
      clear HO_208001
      clear HO_213001
      clear HO_219001
      clear BK196
      clear BK207
      clear BK212
      clear BK218
      clear HB
      have HO_208001 := n0_
      have HO_213001 := n1_
      have HO_219001 := n2_
      have HO223 := n3_
      have BK196 := n4_
      have BK207 := n5_
      have BK212 := n6_
      have BK218 := n7_
      have HB := n8_
      clear n0_ n1_ n2_ n3_ n4_ n5_ n6_ n7_ n8_
      (try clear hb)
      (try clear hb2)
      (try clear hk)
      (try clear hi)
      (try clear ho0)
      obtain ⟨Ao178, co178, eo178⟩ := Kd.R_slice HO223.out
      (first | subst eo178 | (injection eo178 with f1_ f2_ f3_; have f4_ := f1_.symm; have f5_ := f3_.symm; clear f1_ f2_ f3_; subst f4_; subst f5_))
      refine hK.out _ _ ⟨(blk_cell BK212.out 0).trans rfl, (blk_cell BK212.out 1).trans rfl, (blk_cell BK196.out 0).trans rfl, (blk_cell BK196.out 1).trans rfl⟩ (fun hHeld => ?_)
      clear hK K
      refine norm_ (a' := ?_) ?_ ?_
      rotate_left
      ·show Act.put _ (some 47) _ = _
       simp only [Act.put, List.setIfInBounds_toArray, List.set_cons_zero, List.set_cons_succ, i64_w, i32_w]
       rfl
      refine one_ (i := 3) (N := some 48) #[true, true, true, true, false] rfl rfl (by kernel_rfl) (by decide) (fun K hK => ?_)
      refine goes_ Try.func35 (by kernel_rfl) rfl #[.agg #[.int .i64 t208, .slice Ao30 t209.length co30], .agg #[.int .i64 t220, .slice Ao178 t221.length co178]] (by rfl) rfl rfl pwy_ ?_
      with_reducible refine (laws_eqClaim.calls kj11 t208 _ _ t209 t220 _ _ t221 false _ ?side1 ?side2 ?side3 ?side4 A58.out).mono ?_
      (case side1 => repeat (first | exact (Kd.R_reads' HO_213001.out).2.2 | (with_reducible refine Kd.C_alloc ?_ _) | (with_reducible refine Kd.C_drewN ?_ _) | (with_reducible refine Kd.C_drew ?_)))
      (case side2 => exact (Kd.R_reads' HO_213001.out).2.1)
      (case side3 => repeat (first | exact (Kd.R_reads' HO223.out).2.2 | (with_reducible refine Kd.C_alloc ?_ _) | (with_reducible refine Kd.C_drewN ?_ _) | (with_reducible refine Kd.C_drew ?_)))
      (case side4 => exact (Kd.R_reads' HO223.out).2.1)
      rintro e w179 ⟨rfl, hb⟩
      refine ⟨_, rfl, ?_⟩
      have n0_ := Aside0.mk (Kd.R_below pwc_ hb)
      have n1_ := Aside0.mk (Kd.R_below pwd_ hb)
      have n2_ := Aside0.mk (Kd.R_below pwe_ hb)
      have n3_ := Aside0.mk (Kd.R_below (by (with_reducible repeat apply Kd.R_alloc); exact HO223.out) hb)
      have n4_ := Aside0.mk (blk_below (g := gb196) (o := .cells #[.int .i64 a1_0, .slice A1_1 l1_1.length c1_1] 43 (0, 0)) pwr_ hb)
      have n5_ := Aside0.mk (blk_below (g := gb207) (o := .cells #[.int .i64 t202, .slice Ao23 t203.length co23] 47 (0, 0)) pws_ hb)
      have n6_ := Aside0.mk (blk_below (g := gb212) (o := .cells #[.int .i64 t208, .slice Ao30 t209.length co30] 47 (0, 0)) pwt_ hb)
      have n7_ := Aside0.mk (blk_below (g := gb218) (o := .cells #[.int .i64 t213, .slice Ao37 t214.length co37] 47 (0, 0)) pwu_ hb)
      have n8_ := Aside0.mk (below_step pwee_ hb)
      clear HO_208001
      clear HO_213001
      clear HO_219001
      clear HO223
      clear BK196
      clear BK207
      clear BK212
      clear BK218
      clear HB
      have HO_208001 := n0_
      have HO_213001 := n1_
      have HO_219001 := n2_
      have HO223 := n3_
      have BK196 := n4_
      have BK207 := n5_
      have BK212 := n6_
      have BK218 := n7_
      have HB := n8_
      clear n0_ n1_ n2_ n3_ n4_ n5_ n6_ n7_ n8_
      (try clear hb)
      (try clear hb2)
      (try clear hk)
      (try clear hi)
      refine hK.out _ _ ⟨(blk_cell BK212.out 0).trans rfl, (blk_cell BK212.out 1).trans rfl, (blk_cell BK196.out 0).trans rfl, (blk_cell BK196.out 1).trans rfl⟩ (fun hHeld => ?_)
      clear hK K
      refine norm_ (a' := ?_) ?_ ?_
      rotate_left
      ·show Act.put _ (some 48) _ = _
       simp only [Act.put, List.setIfInBounds_toArray, List.set_cons_zero, List.set_cons_succ, i64_w, i32_w]
       rfl
      refine pure_ (i := 4) (N := some 49) (v := ?_) (a' := ?_) #[true, true, true, true, true] rfl rfl (by kernel_rfl) (fun _ _ _ h => h) (Or.inl ⟨by rfl, ?_⟩) ?_ ?_
      rotate_left
      ·intro w'
       go_simp
       with_reducible rfl
      rotate_left
      ·simp only [Act.put, List.setIfInBounds_toArray, List.set_cons_zero, List.set_cons_succ, i64_w, i32_w]
       rfl
      refine done_ (by kernel_rfl) ?_
      try go_wp2
      go_ret
      exact ⟨by first | rfl | (simp [errW_none, errW_some] <;> rfl) | (simp [*, errW_none, errW_some] <;> rfl), pwee_⟩

end Go.Proofs.Ytfhmafmfaoknlaa.PFnExactDenyClaim
