-- Made by a program of this session (wip/tools/patchprint.py), not by the kit itself.
import Derived.Test.YtfhmafmfaoknlaaPFnMirrorStoryx0
import Derived.Test.YtfhmafmfaoknlaaPFnMirrorStoryx2
import Derived.Test.YtfhmafmfaoknlaaPFnMirrorStoryx3
import Derived.Test.YtfhmafmfaoknlaaPFnMirrorStoryx4
import Derived.Test.YtfhmafmfaoknlaaPFnMirrorStoryx6
import Derived.Test.YtfhmafmfaoknlaaPFnMirrorStoryx8
namespace Go.Proofs.Ytfhmafmfaoknlaa.PFnMirrorStory
open Go.RowKit Go.Proofs.YtfhmafmfaoknlaaW.PrintWords Go.Proofs.YtfhmafmfaoknlaaW.PrintLast Go.Proofs.YtfhmafmfaoknlaaW.PrintMore
attribute [local go_sem] max2_int min2_int max_two min_two max_three min_three max_four min_four   -- for this text's walks alone
set_option linter.unusedVariables false
set_option linter.unusedSimpArgs false

attribute [local go_sem] setCell_isSome
/-! ### laws_FnMirrorStory: function 14 -/
def laws_FnMirrorStory.j0 : Nat → Int → Bool → Int → List (S62) → Int → List (S62) → Option (Bool)
 | 0, _, _, _, _, _, _ => none
 | k + 1, x3, x47, x351000, x351001, x359000, x359001 => if x47 = true then ((laws_alive.f).bind fun t360 => (some t360)) else ((impl_ClaimTable.f k x3 x351000 x351001).bind fun t361 => ((impl_ClaimTable.f k x3 x359000 x359001).bind fun t362 => ((impl_OppositeTable.f x3 t362).bind fun t363 => ((laws_alive.f).bind fun t364 => (if t364 = true then (if (Go.bits .and .i64 t361 t363) = 0 then (if 0 ≤ x3 then (some ((Go.bits .or .i64 t361 t363) == (wrap64 ((shl .i64 1 (shl .u64 1 x3)) - 1)))) else (none)) else (some false)) else (some false))))))
def laws_FnMirrorStory.f (k : Nat) (l0 : List Int) : Option (Bool) := if (l0.length : Int) > 1048576 then (some true) else ((spec_DrawClaimTable.f k l0).bind fun bt345 => ((spec_ClaimOk.f k bt345.1 bt345.2.1 bt345.2.2).bind fun t351 => (if t351 = true then ((impl_MirrorTerm.f k bt345.1 bt345.2.2).bind fun bt354 => (if bt354.2 = true then ((spec_ClaimOk.f k bt345.1 bt345.2.1 bt354.1).bind fun t359 => (laws_FnMirrorStory.j0 k bt345.1 (!t359) bt345.2.1 bt345.2.2 bt345.2.1 bt354.1)) else (laws_FnMirrorStory.j0 k bt345.1 true bt345.2.1 bt345.2.2 bt345.2.1 bt354.1))) else ((impl_ClaimOk.f k bt345.1 bt345.2.1 bt345.2.2).bind fun t352 => (if t352 = true then (some false) else ((laws_alive.f).bind fun t353 => (some t353)))))))
theorem laws_FnMirrorStory.mono_l : ∀ k, (∀ y0 y1 y2 y3 y4 y5, LeO (laws_FnMirrorStory.j0 k y0 y1 y2 y3 y4 y5) (laws_FnMirrorStory.j0 (k + 1) y0 y1 y2 y3 y4 y5))
 | 0 => fun _ _ _ _ _ _ r h => by simp [laws_FnMirrorStory.j0] at h
 | k + 1 => by
  have ih0 := laws_FnMirrorStory.mono_l k
  ·intro y0 y1 y2 y3 y4 y5
   unfold laws_FnMirrorStory.j0
   repeat' first
   | (with_reducible exact ih0 _ _ _ _ _ _)
   | (with_reducible exact impl_ClaimOk.mono _ _ _ _)
   | (with_reducible exact impl_ClaimTable.mono _ _ _ _)
   | (with_reducible exact impl_MirrorTerm.mono _ _ _)
   | (with_reducible exact spec_ClaimOk.mono _ _ _ _)
   | (with_reducible exact spec_DrawClaimTable.mono _ _)
   | (with_reducible exact LeO.refl _)
   | (with_reducible exact LeO.none _)
   | (with_reducible refine LeO.ite ?_ ?_)
   | (with_reducible refine LeO.bind ?_ (fun _ => ?_))
   | exact ih0 _ _ _ _ _ _
   | exact impl_ClaimOk.mono _ _ _ _
   | exact impl_ClaimTable.mono _ _ _ _
   | exact impl_MirrorTerm.mono _ _ _
   | exact spec_ClaimOk.mono _ _ _ _
   | exact spec_DrawClaimTable.mono _ _
   | exact LeO.none _
   | refine LeO.ite ?_ ?_
   | refine LeO.bind ?_ (fun _ => ?_)
theorem laws_FnMirrorStory.mono : ∀ a0 k, LeO (laws_FnMirrorStory.f k a0) (laws_FnMirrorStory.f (k + 1) a0) := by
 intro a0 k
 have ih0 := laws_FnMirrorStory.mono_l k
 unfold laws_FnMirrorStory.f
 repeat' first
   | (with_reducible exact ih0 _ _ _ _ _ _)
   | (with_reducible exact impl_ClaimOk.mono _ _ _ _)
   | (with_reducible exact impl_ClaimTable.mono _ _ _ _)
   | (with_reducible exact impl_MirrorTerm.mono _ _ _)
   | (with_reducible exact spec_ClaimOk.mono _ _ _ _)
   | (with_reducible exact spec_DrawClaimTable.mono _ _)
   | (with_reducible exact LeO.refl _)
   | (with_reducible exact LeO.none _)
   | (with_reducible refine LeO.ite ?_ ?_)
   | (with_reducible refine LeO.bind ?_ (fun _ => ?_))
   | exact ih0 _ _ _ _ _ _
   | exact impl_ClaimOk.mono _ _ _ _
   | exact impl_ClaimTable.mono _ _ _ _
   | exact impl_MirrorTerm.mono _ _ _
   | exact spec_ClaimOk.mono _ _ _ _
   | exact spec_DrawClaimTable.mono _ _
   | exact LeO.none _
   | refine LeO.ite ?_ ?_
   | refine LeO.bind ?_ (fun _ => ?_)
set_option maxHeartbeats 8000000 in
set_option maxRecDepth 100000 in
theorem laws_FnMirrorStory.calls (k : Nat) (A0 : Option Addr) (c0 : Nat) (l0 : List Int) (r : Bool) (w : World) (hr0 : Kd.C (Kd.int .u8) w A0 l0.length l0) (hc0 : l0.length ≤ c0) (h : laws_FnMirrorStory.f k l0 = some r) :
  Calls Try.prog 14 #[.slice A0 l0.length c0] w fun e w' => e = .returned (.bool r) ∧ Below w.heap.size w w' := by
 have hu47 := Try.underlying47
 have HR0 := Aside0.mk hr0
 have HC0 := Aside0.mk hc0
 clear hr0 hc0
 have HB := Aside0.mk (Below.refl w.heap.size w)
 have H : (if (l0.length : Int) > 1048576 then (some true) else ((spec_DrawClaimTable.f k l0).bind fun bt345 => ((spec_ClaimOk.f k bt345.1 bt345.2.1 bt345.2.2).bind fun t351 => (if t351 = true then ((impl_MirrorTerm.f k bt345.1 bt345.2.2).bind fun bt354 => (if bt354.2 = true then ((spec_ClaimOk.f k bt345.1 bt345.2.1 bt354.1).bind fun t359 => (laws_FnMirrorStory.j0 k bt345.1 (!t359) bt345.2.1 bt345.2.2 bt345.2.1 bt354.1)) else (laws_FnMirrorStory.j0 k bt345.1 true bt345.2.1 bt345.2.2 bt345.2.1 bt354.1))) else ((impl_ClaimOk.f k bt345.1 bt345.2.1 bt345.2.2).bind fun t352 => (if t352 = true then (some false) else ((laws_alive.f).bind fun t353 => (some t353)))))))) = some r := h
 clear h
 by_cases c2 : (l0.length : Int) > 1048576
 ·rw [if_pos c2] at H
  have c2b0 : decide (1048576 < (l0.length : Int)) = true := decide_eq_true c2
  have c2b1 : decide (1048576 < l0.length) = true := decide_eq_true (by omega)
  clear c2
  obtain rfl := Option.some.inj H
  go_enter Try.func14, Try.ntmps14
  go_wp2
  go_ret
  exact ⟨by first | rfl | (simp [errW_none, errW_some] <;> rfl) | (simp [*, errW_none, errW_some] <;> rfl), pwh_⟩
 ·rw [if_neg c2] at H
  have c2b0 : decide (1048576 < (l0.length : Int)) = false := decide_eq_false c2
  have c2b1 : decide (1048576 < l0.length) = false := decide_eq_false (by omega)
  clear c2
  replace H := Option.bind_eq_some_iff.mp H
  obtain ⟨⟨t345, t346, t347⟩, A30, H⟩ := H
  replace H : ((spec_ClaimOk.f k t345 t346 t347).bind fun t351 => (if t351 = true then ((impl_MirrorTerm.f k t345 t347).bind fun bt354 => (if bt354.2 = true then ((spec_ClaimOk.f k t345 t346 bt354.1).bind fun t359 => (laws_FnMirrorStory.j0 k t345 (!t359) t346 t347 t346 bt354.1)) else (laws_FnMirrorStory.j0 k t345 true t346 t347 t346 bt354.1))) else ((impl_ClaimOk.f k t345 t346 t347).bind fun t352 => (if t352 = true then (some false) else ((laws_alive.f).bind fun t353 => (some t353)))))) = some r := H
  have A3 := Aside0.mk A30
  clear A30
  replace H := Option.bind_eq_some_iff.mp H
  obtain ⟨t351, A40, H⟩ := H
  replace H : (if t351 = true then ((impl_MirrorTerm.f k t345 t347).bind fun bt354 => (if bt354.2 = true then ((spec_ClaimOk.f k t345 t346 bt354.1).bind fun t359 => (laws_FnMirrorStory.j0 k t345 (!t359) t346 t347 t346 bt354.1)) else (laws_FnMirrorStory.j0 k t345 true t346 t347 t346 bt354.1))) else ((impl_ClaimOk.f k t345 t346 t347).bind fun t352 => (if t352 = true then (some false) else ((laws_alive.f).bind fun t353 => (some t353))))) = some r := H
  have A4 := Aside0.mk A40
  clear A40
  by_cases c5 : t351 = true
  ·subst c5
   have H1 : ((impl_MirrorTerm.f k t345 t347).bind fun bt354 => (if bt354.2 = true then ((spec_ClaimOk.f k t345 t346 bt354.1).bind fun t359 => (laws_FnMirrorStory.j0 k t345 (!t359) t346 t347 t346 bt354.1)) else (laws_FnMirrorStory.j0 k t345 true t346 t347 t346 bt354.1))) = some r := by rw [if_pos rfl] at H; exact H
   clear H
   have H := H1
   clear H1
   replace H := Option.bind_eq_some_iff.mp H
   obtain ⟨⟨t354, t355⟩, A60, H⟩ := H
   replace H : (if t355 = true then ((spec_ClaimOk.f k t345 t346 t354).bind fun t359 => (laws_FnMirrorStory.j0 k t345 (!t359) t346 t347 t346 t354)) else (laws_FnMirrorStory.j0 k t345 true t346 t347 t346 t354)) = some r := H
   have A6 := Aside0.mk A60
   clear A60
   have HC7 := Aside0.mk H
   clear H
   go_enter Try.func14, Try.ntmps14
   go_upto_region 8 with (first | ((with_reducible refine gate_callee (f := 56) rfl ?_); refine goesL_ (some 15) rfl rfl Try.func56 (by kernel_rfl) rfl #[.slice A0 l0.length c0] rfl pwj_ ?_; (with_reducible refine (spec_DrawClaimTable.calls k _ _ l0 t345 t346 t347 _ ?side1 ?side2 A3.out).mono ?_); (case side1 => repeat (first | exact HR0.out | (with_reducible refine Kd.C_alloc ?_ _) | (with_reducible refine Kd.C_drewN ?_ _) | (with_reducible refine Kd.C_drew ?_))); (case side2 => exact HC0.out); rintro e w8 ⟨v348, rfl, ho0, hb⟩; refine ⟨_, rfl, ?_⟩; have n0_ := Aside0.mk (Kd.R_lower ho0 (below_size pwh_)); have n1_ := Aside0.mk (below_step pwh_ hb); clear HB; have HO349 := n0_; have HB := n1_; clear n0_ n1_; (try clear hb); (try clear hb2); (try clear hk); (try clear hi); (try clear ho0)) | ((with_reducible refine gate_dst (N := 4) rfl ?_); refine box_event ?hg (N := 4) ?hd (cs := #[.int .i64 0, .slice none 0 0]) (t := 47) ?hr ?_; (case hd => rfl); (case hg => rfl); (case hr => first | (go_simp; done) | (go_simp; rfl)); intro gb350 hg w9 hbox hb; have n0_ := Aside0.mk (Kd.R_below (by (with_reducible repeat apply Kd.R_alloc); exact HO349.out) hb); have n1_ := Aside0.mk (below_step pwh_ hb); have n2_ := Aside0.mk (hbox); have n3_ := Aside0.mk ((by rw [hg]; exact (below_size pwh_) : w.heap.size ≤ gb350)); have n4_ := Aside0.mk ((by rw [hg]; exact (below_size pwh_) : w.heap.size ≤ gb350)); clear HO349; clear HB; have HO349 := n0_; have HB := n1_; have BK350 := n2_; have GW350 := n3_; have GE350 := n4_; clear n0_ n1_ n2_ n3_ n4_; clear hb hbox hg; have hcz10_0 : w9.cell? ⟨gb350, 0, none⟩ = some (.int .i64 0) := (blk_cell BK350.out 0).trans rfl; have hcz10_1 : w9.cell? ⟨gb350, 1, none⟩ = some (.slice none 0 0) := (blk_cell BK350.out 1).trans rfl; have hfz10_0 := blk_frozen BK350.out 0; have hfz10_1 := blk_frozen BK350.out 1; obtain ⟨Ao11, co11, eo11⟩ := Kd.R_slice HO349.out; subst eo11) | ((with_reducible refine gate_callee (f := 43) rfl ?_); refine goesL_ (some 20) rfl rfl Try.func43 (by kernel_rfl) rfl #[.int .i64 t345, .agg #[.int .i64 t346, .slice Ao11 t347.length co11]] rfl pwj_ ?_; (with_reducible refine (spec_ClaimOk.calls k t345 t346 _ _ t347 true _ ?side1 ?side2 A4.out).mono ?_); (case side1 => refine (Kd.R_reads' (e := 62) (base := w.heap.size) (ok := fun k_ => True) (n := t347.length) (c := co11) ?_).2.2; exact (by (with_reducible repeat apply Kd.R_alloc); exact (Kd.R_mono (Kd.R_far (p := ⟨gb350, 1, none⟩) (Kd.R_far (p := ⟨gb350, 0, none⟩) (Kd.R_types HO349.out BK350.out (by decide)) (fun _ hk => hk.2) (.int .i64 t346)) (fun _ hk => hk.2) (.slice Ao11 t347.length co11)) (fun _ h_ => h_.1)))); (case side2 => exact (Kd.R_reads' HO349.out).2.1); rintro e w12 ⟨rfl, hb⟩; refine ⟨_, rfl, ?_⟩; have n0_ := Aside0.mk (Kd.R_below (by (with_reducible repeat apply Kd.R_alloc); exact (Kd.R_mono (Kd.R_far (p := ⟨gb350, 1, none⟩) (Kd.R_far (p := ⟨gb350, 0, none⟩) (Kd.R_types HO349.out BK350.out (by decide)) (fun _ hk => hk.2) (.int .i64 t346)) (fun _ hk => hk.2) (.slice Ao11 t347.length co11)) (fun _ h_ => h_.1))) hb); have n1_ := Aside0.mk (blk_below (g := gb350) (o := .cells #[.int .i64 t346, .slice Ao11 t347.length co11] 47 (0, 0)) (by (with_reducible repeat (first | refine blk_drewN ?_ _ | refine blk_drew ?_ | refine blk_alloc ?_ _)); refine blk_put (cs := #[.int .i64 t346, .slice none 0 0]) ?_ 1 _ rfl; (with_reducible repeat (first | refine blk_drewN ?_ _ | refine blk_drew ?_ | refine blk_alloc ?_ _)); refine blk_put (cs := #[.int .i64 0, .slice none 0 0]) ?_ 0 _ rfl; (with_reducible repeat (first | refine blk_drewN ?_ _ | refine blk_drew ?_ | refine blk_alloc ?_ _)); exact BK350.out) hb); have n2_ := Aside0.mk (below_step (by repeat (first | (with_reducible first | exact HB.out | apply below_alloc | apply pw_below_drewN | apply below_drew1 | refine below_set ?_ GE350.out) | exact HB.out)) hb); clear HO349; clear BK350; clear HB; have HO349 := n0_; have BK350 := n1_; have HB := n2_; clear n0_ n1_ n2_; (try clear hb); (try clear hb2); (try clear hk); (try clear hi); have hcz13_0 : w12.cell? ⟨gb350, 0, none⟩ = some (.int .i64 t346) := (blk_cell BK350.out 0).trans rfl; have hcz13_1 : w12.cell? ⟨gb350, 1, none⟩ = some (.slice Ao11 t347.length co11) := (blk_cell BK350.out 1).trans rfl; have hfz13_0 := blk_frozen BK350.out 0; have hfz13_1 := blk_frozen BK350.out 1) | ((with_reducible refine gate_callee (f := 57) rfl ?_); refine goesL_ (some 33) rfl rfl Try.func57 (by kernel_rfl) rfl #[.int .i64 t345, .slice Ao11 t347.length co11] rfl pwj_ ?_; (with_reducible refine (impl_MirrorTerm.calls k t345 _ _ t347 t354 t355 _ ?side1 ?side2 A6.out).mono ?_); (case side1 => repeat (first | exact (Kd.R_reads' HO349.out).2.2 | (with_reducible refine Kd.C_alloc ?_ _) | (with_reducible refine Kd.C_drewN ?_ _) | (with_reducible refine Kd.C_drew ?_))); (case side2 => exact (Kd.R_reads' HO349.out).2.1); rintro e w14 ⟨v356, rfl, ho0, hb⟩; refine ⟨_, rfl, ?_⟩; have n0_ := Aside0.mk (Kd.R_elder' (by (with_reducible repeat apply Kd.R_alloc); exact HO349.out) (Kd.R_base ho0) hb); have n1_ := Aside0.mk (Kd.R_lower (Kd.R_new' ho0 (Kd.R_lt (by (with_reducible repeat apply Kd.R_alloc); exact HO349.out))) (below_size (by repeat (first | (with_reducible first | exact HB.out | apply below_alloc | apply pw_below_drewN | apply below_drew1 | refine below_set ?_ GE350.out) | exact HB.out)))); have n2_ := Aside0.mk (blk_below (g := gb350) (o := .cells #[.int .i64 t346, .slice Ao11 t347.length co11] 47 (0, 0)) (by (with_reducible repeat (first | refine blk_drewN ?_ _ | refine blk_drew ?_ | refine blk_alloc ?_ _)); exact BK350.out) hb); have n3_ := Aside0.mk (below_step (by repeat (first | (with_reducible first | exact HB.out | apply below_alloc | apply pw_below_drewN | apply below_drew1 | refine below_set ?_ GE350.out) | exact HB.out)) hb); clear HO349; clear BK350; clear HB; have HO349 := n0_; have HO357 := n1_; have BK350 := n2_; have HB := n3_; clear n0_ n1_ n2_ n3_; (try clear hb); (try clear hb2); (try clear hk); (try clear hi); (try clear ho0); have hcz15_0 : w14.cell? ⟨gb350, 0, none⟩ = some (.int .i64 t346) := (blk_cell BK350.out 0).trans rfl; have hcz15_1 : w14.cell? ⟨gb350, 1, none⟩ = some (.slice Ao11 t347.length co11) := (blk_cell BK350.out 1).trans rfl; have hfz15_0 := blk_frozen BK350.out 0; have hfz15_1 := blk_frozen BK350.out 1; obtain ⟨Ao16, co16, eo16⟩ := Kd.R_slice HO357.out; subst eo16) | ((with_reducible refine gate_dst (N := 7) rfl ?_); refine box_event ?hg (N := 7) ?hd (cs := #[.int .i64 0, .slice none 0 0]) (t := 47) ?hr ?_; (case hd => rfl); (case hg => rfl); (case hr => first | (go_simp; done) | (go_simp; rfl)); intro gb358 hg w17 hbox hb; have n0_ := Aside0.mk (Kd.R_below (by (with_reducible repeat apply Kd.R_alloc); exact HO349.out) hb); have n1_ := Aside0.mk (Kd.R_below (by (with_reducible repeat apply Kd.R_alloc); exact HO357.out) hb); have n2_ := Aside0.mk (blk_below (g := gb350) (o := .cells #[.int .i64 t346, .slice Ao11 t347.length co11] 47 (0, 0)) (by (with_reducible repeat (first | refine blk_drewN ?_ _ | refine blk_drew ?_ | refine blk_alloc ?_ _)); exact BK350.out) hb); have n3_ := Aside0.mk (below_step (by repeat (first | (with_reducible first | exact HB.out | apply below_alloc | apply pw_below_drewN | apply below_drew1 | refine below_set ?_ GE350.out) | exact HB.out)) hb); have n4_ := Aside0.mk (hbox); have n5_ := Aside0.mk ((by rw [hg]; exact (below_size (by repeat (first | (with_reducible first | exact HB.out | apply below_alloc | apply pw_below_drewN | apply below_drew1 | refine below_set ?_ GE350.out) | exact HB.out))) : w.heap.size ≤ gb358)); have n6_ := Aside0.mk ((by rw [hg]; exact (below_size (by repeat (first | (with_reducible first | exact HB.out | apply below_alloc | apply pw_below_drewN | apply below_drew1 | refine below_set ?_ GE350.out) | exact HB.out))) : w.heap.size ≤ gb358)); have n7_ := Aside0.mk ((by rw [hg]; exact Nat.ne_of_lt (blk_lt (g := gb350) (o := .cells #[.int .i64 t346, .slice Ao11 t347.length co11] 47 (0, 0)) (by (with_reducible repeat (first | refine blk_drewN ?_ _ | refine blk_drew ?_ | refine blk_alloc ?_ _)); exact BK350.out)) : gb350 ≠ gb358)); have n8_ := Aside0.mk ((by rw [hg]; exact Nat.ne_of_gt (blk_lt (g := gb350) (o := .cells #[.int .i64 t346, .slice Ao11 t347.length co11] 47 (0, 0)) (by (with_reducible repeat (first | refine blk_drewN ?_ _ | refine blk_drew ?_ | refine blk_alloc ?_ _)); exact BK350.out)) : gb358 ≠ gb350)); clear HO349; clear HO357; clear BK350; clear HB; have HO349 := n0_; have HO357 := n1_; have BK350 := n2_; have HB := n3_; have BK358 := n4_; have GW358 := n5_; have GE358 := n6_; have NB350_358 := n7_; have NB358_350 := n8_; clear n0_ n1_ n2_ n3_ n4_ n5_ n6_ n7_ n8_; clear hb hbox hg; have hnb18 := NB358_350.out; have hnc18 := NB350_358.out; have hcz19_0 : w17.cell? ⟨gb358, 0, none⟩ = some (.int .i64 0) := (blk_cell BK358.out 0).trans rfl; have hcz19_1 : w17.cell? ⟨gb358, 1, none⟩ = some (.slice none 0 0) := (blk_cell BK358.out 1).trans rfl; have hfz19_0 := blk_frozen BK358.out 0; have hfz19_1 := blk_frozen BK358.out 1))
   (try simp only [Act.put, List.setIfInBounds_toArray, List.set_cons_zero, List.set_cons_succ])
   go_cut [47] (fun v47 wc => ∃ (kq : Nat) (x47_6 : Bool), v47 = .bool x47_6 ∧ Aside0 (laws_FnMirrorStory.j0 kq t345 x47_6 t346 t347 t346 t354 = some r) ∧ Aside0 (kq ≤ k) ∧ Aside0 (Kd.R k62 62 wc w.heap.size (fun k_ => some k_ ≠ ((.slice Ao16 t354.length co16) : Value).ownBlock) (.slice Ao11 t347.length co11) t347) ∧ Aside0 (Kd.R k62 62 wc w.heap.size (fun k_ => some k_ ≠ ((.slice Ao11 t347.length co11) : Value).ownBlock) (.slice Ao16 t354.length co16) t354) ∧ Aside0 (wc.heap[gb350]? = some (.cells #[.int .i64 t346, (.slice Ao11 t347.length co11)] 47 (0, 0))) ∧ Aside0 (wc.heap[gb358]? = some (.cells #[.int .i64 t346, (.slice Ao16 t354.length co16)] 47 (0, 0))) ∧ Aside0 (Below w.heap.size w wc))
   case first =>
    have H := HC7.out
    clear HC7
    by_cases c20 : t355 = true
    ·subst c20
     have H1 : ((spec_ClaimOk.f k t345 t346 t354).bind fun t359 => (laws_FnMirrorStory.j0 k t345 (!t359) t346 t347 t346 t354)) = some r := by rw [if_pos rfl] at H; exact H
     clear H
     have H := H1
     clear H1
     replace H := Option.bind_eq_some_iff.mp H
     obtain ⟨t359, A210, H⟩ := H
     replace H : (laws_FnMirrorStory.j0 k t345 (!t359) t346 t347 t346 t354) = some r := H
     have A21 := Aside0.mk A210
     clear A210
     have H' := Aside0.mk H
     clear H
     have hnb22 := NB358_350.out
     have hnc22 := NB350_358.out
     have hcz23_0 : w17.cell? ⟨gb358, 0, none⟩ = some (.int .i64 0) := (blk_cell BK358.out 0).trans rfl
     have hcz23_1 : w17.cell? ⟨gb358, 1, none⟩ = some (.slice none 0 0) := (blk_cell BK358.out 1).trans rfl
     have hfz23_0 := blk_frozen BK358.out 0
     have hfz23_1 := blk_frozen BK358.out 1
     go_wp2_with (first | (go_at_call 43; (with_reducible refine (spec_ClaimOk.calls k t345 t346 _ _ t354 t359 _ ?side1 ?side2 A21.out).mono ?_); (case side1 => refine (Kd.R_reads' (e := 62) (base := w.heap.size) (ok := fun k_ => (True ∧ some k_ ≠ (.slice Ao11 t347.length co11 : Value).ownBlock)) (n := t354.length) (c := co16) ?_).2.2; exact (by (with_reducible repeat apply Kd.R_alloc); exact (Kd.R_mono (Kd.R_far (p := ⟨gb358, 1, none⟩) (Kd.R_far (p := ⟨gb358, 0, none⟩) (Kd.R_types HO357.out BK358.out (by decide)) (fun _ hk => hk.2) (.int .i64 t346)) (fun _ hk => hk.2) (.slice Ao16 t354.length co16)) (fun _ h_ => h_.1)))); (case side2 => exact (Kd.R_reads' HO357.out).2.1); rintro e w24 ⟨rfl, hb⟩; have n0_ := Aside0.mk (Kd.R_below (by (with_reducible repeat apply Kd.R_alloc); exact (Kd.R_mono (Kd.R_far (p := ⟨gb358, 1, none⟩) (Kd.R_far (p := ⟨gb358, 0, none⟩) (Kd.R_types HO349.out BK358.out (by decide)) (fun _ hk => hk.2) (.int .i64 t346)) (fun _ hk => hk.2) (.slice Ao16 t354.length co16)) (fun _ h_ => h_.1))) hb); have n1_ := Aside0.mk (Kd.R_below (by (with_reducible repeat apply Kd.R_alloc); exact (Kd.R_mono (Kd.R_far (p := ⟨gb358, 1, none⟩) (Kd.R_far (p := ⟨gb358, 0, none⟩) (Kd.R_types HO357.out BK358.out (by decide)) (fun _ hk => hk.2) (.int .i64 t346)) (fun _ hk => hk.2) (.slice Ao16 t354.length co16)) (fun _ h_ => h_.1))) hb); have n2_ := Aside0.mk (blk_below (g := gb350) (o := .cells #[.int .i64 t346, .slice Ao11 t347.length co11] 47 (0, 0)) (by (with_reducible repeat (first | refine blk_drewN ?_ _ | refine blk_drew ?_ | refine blk_alloc ?_ _)); refine blk_far ?_ NB350_358.out _; (with_reducible repeat (first | refine blk_drewN ?_ _ | refine blk_drew ?_ | refine blk_alloc ?_ _)); refine blk_far ?_ NB350_358.out _; (with_reducible repeat (first | refine blk_drewN ?_ _ | refine blk_drew ?_ | refine blk_alloc ?_ _)); exact BK350.out) hb); have n3_ := Aside0.mk (blk_below (g := gb358) (o := .cells #[.int .i64 t346, .slice Ao16 t354.length co16] 47 (0, 0)) (by (with_reducible repeat (first | refine blk_drewN ?_ _ | refine blk_drew ?_ | refine blk_alloc ?_ _)); refine blk_put (cs := #[.int .i64 t346, .slice none 0 0]) ?_ 1 _ rfl; (with_reducible repeat (first | refine blk_drewN ?_ _ | refine blk_drew ?_ | refine blk_alloc ?_ _)); refine blk_put (cs := #[.int .i64 0, .slice none 0 0]) ?_ 0 _ rfl; (with_reducible repeat (first | refine blk_drewN ?_ _ | refine blk_drew ?_ | refine blk_alloc ?_ _)); exact BK358.out) hb); have n4_ := Aside0.mk (below_step (by repeat (first | (with_reducible first | exact HB.out | apply below_alloc | apply pw_below_drewN | apply below_drew1 | refine below_set ?_ GE350.out | refine below_set ?_ GE358.out) | exact HB.out)) hb); clear HO349; clear HO357; clear BK350; clear BK358; clear HB; have HO349 := n0_; have HO357 := n1_; have BK350 := n2_; have BK358 := n3_; have HB := n4_; clear n0_ n1_ n2_ n3_ n4_; (try clear hb); (try clear hb2); (try clear hk); (try clear hi)))
     go_meet
     case rel => exact ⟨_, (!t359), pwa_, H', ⟨by first | omega | exact Nat.le_refl _⟩, ⟨by (with_reducible repeat apply Kd.R_alloc); exact Kd.R_mono HO349.out (fun _ hk => hk.2)⟩, ⟨by (with_reducible repeat apply Kd.R_alloc); exact Kd.R_mono HO357.out (fun _ hk => hk.2)⟩, ⟨by (with_reducible repeat (first | refine blk_drewN ?_ _ | refine blk_drew ?_ | refine blk_alloc ?_ _)); exact BK350.out⟩, ⟨by (with_reducible repeat (first | refine blk_drewN ?_ _ | refine blk_drew ?_ | refine blk_alloc ?_ _)); exact BK358.out⟩, ⟨by repeat (first | (with_reducible first | exact HB.out | apply below_alloc | apply pw_below_drewN | apply below_drew1 | refine below_set ?_ GE350.out | refine below_set ?_ GE358.out) | exact HB.out)⟩⟩
    ·replace c20 := Bool.eq_false_iff.mpr c20
     subst c20
     have H1 : (laws_FnMirrorStory.j0 k t345 true t346 t347 t346 t354) = some r := by rw [if_neg (show ¬ (false = true) by decide)] at H; exact H
     clear H
     have H := H1
     clear H1
     have H' := Aside0.mk H
     clear H
     go_wp2
     go_meet
     case rel => exact ⟨_, (true), pwa_, H', ⟨by first | omega | exact Nat.le_refl _⟩, ⟨by (with_reducible repeat apply Kd.R_alloc); exact Kd.R_mono (Kd.R_far (p := ⟨gb358, 1, none⟩) (Kd.R_far (p := ⟨gb358, 0, none⟩) (Kd.R_types HO349.out BK358.out (by decide)) (fun _ hk => hk.2) (.int .i64 t346)) (fun _ hk => hk.2) (.slice Ao16 t354.length co16)) (fun _ hk => hk.1.2)⟩, ⟨by (with_reducible repeat apply Kd.R_alloc); exact Kd.R_mono (Kd.R_far (p := ⟨gb358, 1, none⟩) (Kd.R_far (p := ⟨gb358, 0, none⟩) (Kd.R_types HO357.out BK358.out (by decide)) (fun _ hk => hk.2) (.int .i64 t346)) (fun _ hk => hk.2) (.slice Ao16 t354.length co16)) (fun _ hk => hk.1.2)⟩, ⟨by (with_reducible repeat (first | refine blk_drewN ?_ _ | refine blk_drew ?_ | refine blk_alloc ?_ _)); refine blk_far ?_ NB350_358.out _; (with_reducible repeat (first | refine blk_drewN ?_ _ | refine blk_drew ?_ | refine blk_alloc ?_ _)); refine blk_far ?_ NB350_358.out _; (with_reducible repeat (first | refine blk_drewN ?_ _ | refine blk_drew ?_ | refine blk_alloc ?_ _)); exact BK350.out⟩, ⟨by (with_reducible repeat (first | refine blk_drewN ?_ _ | refine blk_drew ?_ | refine blk_alloc ?_ _)); refine blk_put (cs := #[.int .i64 t346, .slice none 0 0]) ?_ 1 _ rfl; (with_reducible repeat (first | refine blk_drewN ?_ _ | refine blk_drew ?_ | refine blk_alloc ?_ _)); refine blk_put (cs := #[.int .i64 0, .slice none 0 0]) ?_ 0 _ rfl; (with_reducible repeat (first | refine blk_drewN ?_ _ | refine blk_drew ?_ | refine blk_alloc ?_ _)); exact BK358.out⟩, ⟨by repeat (first | (with_reducible first | exact HB.out | apply below_alloc | apply pw_below_drewN | apply below_drew1 | refine below_set ?_ GE350.out | refine below_set ?_ GE358.out) | exact HB.out)⟩⟩
   case rest =>
    clear HC7
    try clear c1
    try clear c2
    try clear c2b0
    try clear c2b1
    try clear p2
    try clear c4
    try clear c5
    try clear c14
    try clear c18
    try clear c20
    try clear c22
    try clear hcz10_0
    try clear hcz10_1
    try clear hcz13_0
    try clear hcz13_1
    try clear hcz15_0
    try clear hcz15_1
    try clear hcz19_0
    try clear hcz19_1
    try clear hcz23_0
    try clear hcz23_1
    try clear hfz10_0
    try clear hfz10_1
    try clear hfz13_0
    try clear hfz13_1
    try clear hfz15_0
    try clear hfz15_1
    try clear hfz19_0
    try clear hfz19_1
    try clear hfz23_0
    try clear hfz23_1
    obtain ⟨kq, x47_6, rfl, HA, HJ6, HO_351001, HO_359001, BK350, BK358, HB⟩ := hcut
    cases kq with
    | zero => exact absurd HA.out (by simp [laws_FnMirrorStory.j0])
    | succ kj6 =>
     have H := HA.out
     clear HA
     simp only [laws_FnMirrorStory.j0] at H
     by_cases c25 : x47_6 = true
     ·subst c25
      have H1 : ((laws_alive.f).bind fun t360 => (some t360)) = some r := by rw [if_pos rfl] at H; exact H
      clear H
      have H := H1
      clear H1
      replace H := Option.bind_eq_some_iff.mp H
      obtain ⟨t360, A260, H⟩ := H
      replace H : (some t360) = some r := H
      have A26 := Aside0.mk A260
      clear A260
      obtain rfl := Option.some.inj H
      go_wp2_with (first | ((with_reducible refine gate_callee (f := 19) rfl ?_); refine goesL_ (some 48) rfl rfl Try.func19 (by kernel_rfl) rfl #[] rfl pwj_ ?_; (with_reducible refine (laws_alive.calls  t360 _ A26.out).mono ?_); rintro e w' ⟨rfl, ⟨nd, rfl⟩⟩; refine ⟨_, rfl, ?_⟩))
      go_ret
      exact ⟨by first | rfl | (simp [errW_none, errW_some] <;> rfl) | (simp [*, errW_none, errW_some] <;> rfl), by repeat (first | (with_reducible first | exact HB.out | apply below_alloc | apply pw_below_drewN | apply below_drew1 | refine below_set ?_ GE350.out | refine below_set ?_ GE358.out) | exact HB.out)⟩
     ·replace c25 := Bool.eq_false_iff.mpr c25
      subst c25
      have H1 : ((impl_ClaimTable.f kj6 t345 t346 t347).bind fun t361 => ((impl_ClaimTable.f kj6 t345 t346 t354).bind fun t362 => ((impl_OppositeTable.f t345 t362).bind fun t363 => ((laws_alive.f).bind fun t364 => (if t364 = true then (if (Go.bits .and .i64 t361 t363) = 0 then (if 0 ≤ t345 then (some ((Go.bits .or .i64 t361 t363) == (wrap64 ((shl .i64 1 (shl .u64 1 t345)) - 1)))) else (none)) else (some false)) else (some false)))))) = some r := by rw [if_neg (show ¬ (false = true) by decide)] at H; exact H
      clear H
      have H := H1
      clear H1
      replace H := Option.bind_eq_some_iff.mp H
      obtain ⟨t361, A270, H⟩ := H
      replace H : ((impl_ClaimTable.f kj6 t345 t346 t354).bind fun t362 => ((impl_OppositeTable.f t345 t362).bind fun t363 => ((laws_alive.f).bind fun t364 => (if t364 = true then (if (Go.bits .and .i64 t361 t363) = 0 then (if 0 ≤ t345 then (some ((Go.bits .or .i64 t361 t363) == (wrap64 ((shl .i64 1 (shl .u64 1 t345)) - 1)))) else (none)) else (some false)) else (some false))))) = some r := H
      have A27 := Aside0.mk A270
      clear A270
      replace H := Option.bind_eq_some_iff.mp H
      obtain ⟨t362, A280, H⟩ := H
      replace H : ((impl_OppositeTable.f t345 t362).bind fun t363 => ((laws_alive.f).bind fun t364 => (if t364 = true then (if (Go.bits .and .i64 t361 t363) = 0 then (if 0 ≤ t345 then (some ((Go.bits .or .i64 t361 t363) == (wrap64 ((shl .i64 1 (shl .u64 1 t345)) - 1)))) else (none)) else (some false)) else (some false)))) = some r := H
      have A28 := Aside0.mk A280
      clear A280
      replace H := Option.bind_eq_some_iff.mp H
      obtain ⟨t363, A290, H⟩ := H
      replace H : ((laws_alive.f).bind fun t364 => (if t364 = true then (if (Go.bits .and .i64 t361 t363) = 0 then (if 0 ≤ t345 then (some ((Go.bits .or .i64 t361 t363) == (wrap64 ((shl .i64 1 (shl .u64 1 t345)) - 1)))) else (none)) else (some false)) else (some false))) = some r := H
      have A29 := Aside0.mk A290
      clear A290
      replace H := Option.bind_eq_some_iff.mp H
      obtain ⟨t364, A300, H⟩ := H
      replace H : (if t364 = true then (if (Go.bits .and .i64 t361 t363) = 0 then (if 0 ≤ t345 then (some ((Go.bits .or .i64 t361 t363) == (wrap64 ((shl .i64 1 (shl .u64 1 t345)) - 1)))) else (none)) else (some false)) else (some false)) = some r := H
      have A30 := Aside0.mk A300
      clear A300
      by_cases c31 : t364 = true
      ·subst c31
       have H1 : (if (Go.bits .and .i64 t361 t363) = 0 then (if 0 ≤ t345 then (some ((Go.bits .or .i64 t361 t363) == (wrap64 ((shl .i64 1 (shl .u64 1 t345)) - 1)))) else (none)) else (some false)) = some r := by rw [if_pos rfl] at H; exact H
       clear H
       have H := H1
       clear H1
       by_cases c32 : (Go.bits .and .i64 t361 t363) = 0
       ·rw [if_pos c32] at H
        have c32b0 : ((Go.bits .and .i64 t361 t363) == 0) = true := beq_iff_eq.mpr c32
        have c32b1 : ((Go.bits .and .i64 t361 t363) != 0) = false := bne_eq_false_iff_eq.mpr c32
        clear c32
        by_cases c33 : 0 ≤ t345
        ·rw [if_pos c33] at H
         have c33b0 := eq_true c33
         have c33b1 : decide (0 ≤ t345) = true := decide_eq_true c33
         clear c33
         obtain ⟨ji34, hji34⟩ : ∃ j_ : Int, (shl .u64 1 t345) = j_ := ⟨_, rfl⟩
         replace H : (some ((Go.bits .or .i64 t361 t363) == (wrap64 ((shl .i64 1 (ji34)) - 1)))) = some r := by first | (rw [hji34] at H; exact H) | (simp only [hji34] at H ⊢; exact H)
         (try rw [hji34] at A27)
         (try rw [hji34] at A28)
         (try rw [hji34] at A29)
         (try rw [hji34] at A30)
         have hji34_ : (IntKind.u64.wrap (1 * 2 ^ min t345.toNat 64)) = ji34 := hji34
         have hji34z : t345 ≤ 64 → (IntKind.u64.wrap (1 * 2 ^ t345.toNat)) = ji34 := shl_small hji34
         have hji34n0 : 0 ≤ ji34 := by rw [← hji34]; unfold shl; rw [IntKind.wrap_u64]; omega
         have hji34n1 := eq_true hji34n0
         have hji34n2 : decide (0 ≤ ji34) = true := decide_eq_true hji34n0
         clear hji34n0
         have hji34u : (IntKind.u64.wrap (2 ^ min t345.toNat 64)) = ji34 := by have h_ := hji34_; rw [Int.one_mul] at h_; exact h_
         have hji34v : t345 ≤ 64 → (IntKind.u64.wrap (2 ^ t345.toNat)) = ji34 := fun hle_ => by have h_ := hji34z hle_; rw [Int.one_mul] at h_; exact h_
         obtain ⟨ji35, hji35⟩ : ∃ j_ : Int, (shl .i64 1 (ji34)) = j_ := ⟨_, rfl⟩
         replace H : (some ((Go.bits .or .i64 t361 t363) == (wrap64 ((ji35) - 1)))) = some r := by first | (rw [hji35] at H; exact H) | (simp only [hji35] at H ⊢; exact H)
         (try rw [hji35] at A27)
         (try rw [hji35] at A28)
         (try rw [hji35] at A29)
         (try rw [hji35] at A30)
         have hji35_ : (IntKind.i64.wrap (1 * 2 ^ min (ji34).toNat 64)) = ji35 := hji35
         have hji35z : (ji34) ≤ 64 → (IntKind.i64.wrap (1 * 2 ^ (ji34).toNat)) = ji35 := shl_small hji35
         have hji35u : (IntKind.i64.wrap (2 ^ min (ji34).toNat 64)) = ji35 := by have h_ := hji35_; rw [Int.one_mul] at h_; exact h_
         have hji35v : (ji34) ≤ 64 → (IntKind.i64.wrap (2 ^ (ji34).toNat)) = ji35 := fun hle_ => by have h_ := hji35z hle_; rw [Int.one_mul] at h_; exact h_
         have hji35y : (wrap64 (1 * 2 ^ min (ji34).toNat 64)) = ji35 := (i64_w _).symm.trans hji35_
         have hji35x : (ji34) ≤ 64 → (wrap64 (1 * 2 ^ (ji34).toNat)) = ji35 := fun h_ => (i64_w _).symm.trans (hji35z h_)
         obtain rfl := Option.some.inj H
         have hnb36 := NB350_358.out
         have hnc36 := NB358_350.out
         have hcz37_0 : wc.cell? ⟨gb350, 0, none⟩ = some (.int .i64 t346) := (blk_cell BK350.out 0).trans rfl
         have hcz37_1 : wc.cell? ⟨gb350, 1, none⟩ = some (.slice Ao11 t347.length co11) := (blk_cell BK350.out 1).trans rfl
         have hfz37_0 := blk_frozen BK350.out 0
         have hfz37_1 := blk_frozen BK350.out 1
         go_wp2_with (first | ((with_reducible refine gate_callee (f := 45) rfl ?_); refine goesL_ (some 51) rfl rfl Try.func45 (by kernel_rfl) rfl #[.int .i64 t345, .agg #[.int .i64 t346, .slice Ao11 t347.length co11]] rfl pwj_ ?_; (with_reducible refine (impl_ClaimTable.calls kj6 t345 t346 _ _ t347 t361 _ ?side1 ?side2 A27.out).mono ?_); (case side1 => repeat (first | exact (Kd.R_reads' HO_351001.out).2.2 | (with_reducible refine Kd.C_alloc ?_ _) | (with_reducible refine Kd.C_drewN ?_ _) | (with_reducible refine Kd.C_drew ?_))); (case side2 => exact (Kd.R_reads' HO_351001.out).2.1); rintro e w38 ⟨rfl, hb⟩; refine ⟨_, rfl, ?_⟩; have n0_ := Aside0.mk (Kd.R_below pwf_ hb); have n1_ := Aside0.mk (Kd.R_below pwg_ hb); have n2_ := Aside0.mk (blk_below (g := gb350) (o := .cells #[.int .i64 t346, .slice Ao11 t347.length co11] 47 (0, 0)) (by (with_reducible repeat (first | refine blk_drewN ?_ _ | refine blk_drew ?_ | refine blk_alloc ?_ _)); exact BK350.out) hb); have n3_ := Aside0.mk (blk_below (g := gb358) (o := .cells #[.int .i64 t346, .slice Ao16 t354.length co16] 47 (0, 0)) (by (with_reducible repeat (first | refine blk_drewN ?_ _ | refine blk_drew ?_ | refine blk_alloc ?_ _)); exact BK358.out) hb); have n4_ := Aside0.mk (below_step (by repeat (first | (with_reducible first | exact HB.out | apply below_alloc | apply pw_below_drewN | apply below_drew1 | refine below_set ?_ GE350.out | refine below_set ?_ GE358.out) | exact HB.out)) hb); clear HO_351001; clear HO_359001; clear BK350; clear BK358; clear HB; have HO_351001 := n0_; have HO_359001 := n1_; have BK350 := n2_; have BK358 := n3_; have HB := n4_; clear n0_ n1_ n2_ n3_ n4_; (try clear hb); (try clear hb2); (try clear hk); (try clear hi); have hcz39_0 : w38.cell? ⟨gb358, 0, none⟩ = some (.int .i64 t346) := (blk_cell BK358.out 0).trans rfl; have hcz39_1 : w38.cell? ⟨gb358, 1, none⟩ = some (.slice Ao16 t354.length co16) := (blk_cell BK358.out 1).trans rfl; have hfz39_0 := blk_frozen BK358.out 0; have hfz39_1 := blk_frozen BK358.out 1) | ((with_reducible refine gate_callee (f := 45) rfl ?_); refine goesL_ (some 55) rfl rfl Try.func45 (by kernel_rfl) rfl #[.int .i64 t345, .agg #[.int .i64 t346, .slice Ao16 t354.length co16]] rfl pwj_ ?_; (with_reducible refine (impl_ClaimTable.calls kj6 t345 t346 _ _ t354 t362 _ ?side1 ?side2 A28.out).mono ?_); (case side1 => repeat (first | exact (Kd.R_reads' HO_359001.out).2.2 | (with_reducible refine Kd.C_alloc ?_ _) | (with_reducible refine Kd.C_drewN ?_ _) | (with_reducible refine Kd.C_drew ?_))); (case side2 => exact (Kd.R_reads' HO_359001.out).2.1); rintro e w40 ⟨rfl, hb⟩; refine ⟨_, rfl, ?_⟩; have n0_ := Aside0.mk (Kd.R_below pwf_ hb); have n1_ := Aside0.mk (Kd.R_below pwg_ hb); have n2_ := Aside0.mk (blk_below (g := gb350) (o := .cells #[.int .i64 t346, .slice Ao11 t347.length co11] 47 (0, 0)) (by (with_reducible repeat (first | refine blk_drewN ?_ _ | refine blk_drew ?_ | refine blk_alloc ?_ _)); exact BK350.out) hb); have n3_ := Aside0.mk (blk_below (g := gb358) (o := .cells #[.int .i64 t346, .slice Ao16 t354.length co16] 47 (0, 0)) (by (with_reducible repeat (first | refine blk_drewN ?_ _ | refine blk_drew ?_ | refine blk_alloc ?_ _)); exact BK358.out) hb); have n4_ := Aside0.mk (below_step (by repeat (first | (with_reducible first | exact HB.out | apply below_alloc | apply pw_below_drewN | apply below_drew1 | refine below_set ?_ GE350.out | refine below_set ?_ GE358.out) | exact HB.out)) hb); clear HO_351001; clear HO_359001; clear BK350; clear BK358; clear HB; have HO_351001 := n0_; have HO_359001 := n1_; have BK350 := n2_; have BK358 := n3_; have HB := n4_; clear n0_ n1_ n2_ n3_ n4_; (try clear hb); (try clear hb2); (try clear hk); (try clear hi)) | ((with_reducible refine gate_callee (f := 58) rfl ?_); refine goesL_ (some 56) rfl rfl Try.func58 (by kernel_rfl) rfl #[.int .i64 t345, .int .i64 t362] rfl pwj_ ?_; (with_reducible refine (impl_OppositeTable.calls t345 t362 t363 _ A29.out).mono ?_); rintro e w41 ⟨rfl, hb⟩; refine ⟨_, rfl, ?_⟩; have n0_ := Aside0.mk (Kd.R_below pwf_ hb); have n1_ := Aside0.mk (Kd.R_below pwg_ hb); have n2_ := Aside0.mk (blk_below (g := gb350) (o := .cells #[.int .i64 t346, .slice Ao11 t347.length co11] 47 (0, 0)) (by (with_reducible repeat (first | refine blk_drewN ?_ _ | refine blk_drew ?_ | refine blk_alloc ?_ _)); exact BK350.out) hb); have n3_ := Aside0.mk (blk_below (g := gb358) (o := .cells #[.int .i64 t346, .slice Ao16 t354.length co16] 47 (0, 0)) (by (with_reducible repeat (first | refine blk_drewN ?_ _ | refine blk_drew ?_ | refine blk_alloc ?_ _)); exact BK358.out) hb); have n4_ := Aside0.mk (below_step (by repeat (first | (with_reducible first | exact HB.out | apply below_alloc | apply pw_below_drewN | apply below_drew1 | refine below_set ?_ GE350.out | refine below_set ?_ GE358.out) | exact HB.out)) hb); clear HO_351001; clear HO_359001; clear BK350; clear BK358; clear HB; have HO_351001 := n0_; have HO_359001 := n1_; have BK350 := n2_; have BK358 := n3_; have HB := n4_; clear n0_ n1_ n2_ n3_ n4_; (try clear hb); (try clear hb2); (try clear hk); (try clear hi)) | ((with_reducible refine gate_callee (f := 19) rfl ?_); refine goesL_ (some 57) rfl rfl Try.func19 (by kernel_rfl) rfl #[] rfl pwj_ ?_; (with_reducible refine (laws_alive.calls  true _ A30.out).mono ?_); rintro e w' ⟨rfl, ⟨nd, rfl⟩⟩; refine ⟨_, rfl, ?_⟩))
         go_ret
         exact ⟨by first | rfl | (simp [errW_none, errW_some] <;> rfl) | (simp only [← hji34, ← hji35]; first | rfl | (simp [errW_none, errW_some] <;> rfl)) | (simp [*, errW_none, errW_some] <;> rfl), by repeat (first | (with_reducible first | exact HB.out | apply below_alloc | apply pw_below_drewN | apply below_drew1 | refine below_set ?_ GE350.out | refine below_set ?_ GE358.out) | exact HB.out)⟩
        ·rw [if_neg c33] at H
         exact absurd H (by simp)
       ·rw [if_neg c32] at H
        have c32b0 : ((Go.bits .and .i64 t361 t363) == 0) = false := beq_eq_false_iff_ne.mpr c32
        have c32b1 : ((Go.bits .and .i64 t361 t363) != 0) = true := bne_iff_ne.mpr c32
        obtain rfl := Option.some.inj H
        have hnb42 := NB350_358.out
        have hnc42 := NB358_350.out
        have hcz43_0 : wc.cell? ⟨gb350, 0, none⟩ = some (.int .i64 t346) := (blk_cell BK350.out 0).trans rfl
        have hcz43_1 : wc.cell? ⟨gb350, 1, none⟩ = some (.slice Ao11 t347.length co11) := (blk_cell BK350.out 1).trans rfl
        have hfz43_0 := blk_frozen BK350.out 0
        have hfz43_1 := blk_frozen BK350.out 1
        go_wp2_with (first | ((with_reducible refine gate_callee (f := 45) rfl ?_); refine goesL_ (some 51) rfl rfl Try.func45 (by kernel_rfl) rfl #[.int .i64 t345, .agg #[.int .i64 t346, .slice Ao11 t347.length co11]] rfl pwj_ ?_; (with_reducible refine (impl_ClaimTable.calls kj6 t345 t346 _ _ t347 t361 _ ?side1 ?side2 A27.out).mono ?_); (case side1 => repeat (first | exact (Kd.R_reads' HO_351001.out).2.2 | (with_reducible refine Kd.C_alloc ?_ _) | (with_reducible refine Kd.C_drewN ?_ _) | (with_reducible refine Kd.C_drew ?_))); (case side2 => exact (Kd.R_reads' HO_351001.out).2.1); rintro e w44 ⟨rfl, hb⟩; refine ⟨_, rfl, ?_⟩; have n0_ := Aside0.mk (Kd.R_below pwf_ hb); have n1_ := Aside0.mk (Kd.R_below pwg_ hb); have n2_ := Aside0.mk (blk_below (g := gb350) (o := .cells #[.int .i64 t346, .slice Ao11 t347.length co11] 47 (0, 0)) (by (with_reducible repeat (first | refine blk_drewN ?_ _ | refine blk_drew ?_ | refine blk_alloc ?_ _)); exact BK350.out) hb); have n3_ := Aside0.mk (blk_below (g := gb358) (o := .cells #[.int .i64 t346, .slice Ao16 t354.length co16] 47 (0, 0)) (by (with_reducible repeat (first | refine blk_drewN ?_ _ | refine blk_drew ?_ | refine blk_alloc ?_ _)); exact BK358.out) hb); have n4_ := Aside0.mk (below_step (by repeat (first | (with_reducible first | exact HB.out | apply below_alloc | apply pw_below_drewN | apply below_drew1 | refine below_set ?_ GE350.out | refine below_set ?_ GE358.out) | exact HB.out)) hb); clear HO_351001; clear HO_359001; clear BK350; clear BK358; clear HB; have HO_351001 := n0_; have HO_359001 := n1_; have BK350 := n2_; have BK358 := n3_; have HB := n4_; clear n0_ n1_ n2_ n3_ n4_; (try clear hb); (try clear hb2); (try clear hk); (try clear hi); have hcz45_0 : w44.cell? ⟨gb358, 0, none⟩ = some (.int .i64 t346) := (blk_cell BK358.out 0).trans rfl; have hcz45_1 : w44.cell? ⟨gb358, 1, none⟩ = some (.slice Ao16 t354.length co16) := (blk_cell BK358.out 1).trans rfl; have hfz45_0 := blk_frozen BK358.out 0; have hfz45_1 := blk_frozen BK358.out 1) | ((with_reducible refine gate_callee (f := 45) rfl ?_); refine goesL_ (some 55) rfl rfl Try.func45 (by kernel_rfl) rfl #[.int .i64 t345, .agg #[.int .i64 t346, .slice Ao16 t354.length co16]] rfl pwj_ ?_; (with_reducible refine (impl_ClaimTable.calls kj6 t345 t346 _ _ t354 t362 _ ?side1 ?side2 A28.out).mono ?_); (case side1 => repeat (first | exact (Kd.R_reads' HO_359001.out).2.2 | (with_reducible refine Kd.C_alloc ?_ _) | (with_reducible refine Kd.C_drewN ?_ _) | (with_reducible refine Kd.C_drew ?_))); (case side2 => exact (Kd.R_reads' HO_359001.out).2.1); rintro e w46 ⟨rfl, hb⟩; refine ⟨_, rfl, ?_⟩; have n0_ := Aside0.mk (Kd.R_below pwf_ hb); have n1_ := Aside0.mk (Kd.R_below pwg_ hb); have n2_ := Aside0.mk (blk_below (g := gb350) (o := .cells #[.int .i64 t346, .slice Ao11 t347.length co11] 47 (0, 0)) (by (with_reducible repeat (first | refine blk_drewN ?_ _ | refine blk_drew ?_ | refine blk_alloc ?_ _)); exact BK350.out) hb); have n3_ := Aside0.mk (blk_below (g := gb358) (o := .cells #[.int .i64 t346, .slice Ao16 t354.length co16] 47 (0, 0)) (by (with_reducible repeat (first | refine blk_drewN ?_ _ | refine blk_drew ?_ | refine blk_alloc ?_ _)); exact BK358.out) hb); have n4_ := Aside0.mk (below_step (by repeat (first | (with_reducible first | exact HB.out | apply below_alloc | apply pw_below_drewN | apply below_drew1 | refine below_set ?_ GE350.out | refine below_set ?_ GE358.out) | exact HB.out)) hb); clear HO_351001; clear HO_359001; clear BK350; clear BK358; clear HB; have HO_351001 := n0_; have HO_359001 := n1_; have BK350 := n2_; have BK358 := n3_; have HB := n4_; clear n0_ n1_ n2_ n3_ n4_; (try clear hb); (try clear hb2); (try clear hk); (try clear hi)) | ((with_reducible refine gate_callee (f := 58) rfl ?_); refine goesL_ (some 56) rfl rfl Try.func58 (by kernel_rfl) rfl #[.int .i64 t345, .int .i64 t362] rfl pwj_ ?_; (with_reducible refine (impl_OppositeTable.calls t345 t362 t363 _ A29.out).mono ?_); rintro e w47 ⟨rfl, hb⟩; refine ⟨_, rfl, ?_⟩; have n0_ := Aside0.mk (Kd.R_below pwf_ hb); have n1_ := Aside0.mk (Kd.R_below pwg_ hb); have n2_ := Aside0.mk (blk_below (g := gb350) (o := .cells #[.int .i64 t346, .slice Ao11 t347.length co11] 47 (0, 0)) (by (with_reducible repeat (first | refine blk_drewN ?_ _ | refine blk_drew ?_ | refine blk_alloc ?_ _)); exact BK350.out) hb); have n3_ := Aside0.mk (blk_below (g := gb358) (o := .cells #[.int .i64 t346, .slice Ao16 t354.length co16] 47 (0, 0)) (by (with_reducible repeat (first | refine blk_drewN ?_ _ | refine blk_drew ?_ | refine blk_alloc ?_ _)); exact BK358.out) hb); have n4_ := Aside0.mk (below_step (by repeat (first | (with_reducible first | exact HB.out | apply below_alloc | apply pw_below_drewN | apply below_drew1 | refine below_set ?_ GE350.out | refine below_set ?_ GE358.out) | exact HB.out)) hb); clear HO_351001; clear HO_359001; clear BK350; clear BK358; clear HB; have HO_351001 := n0_; have HO_359001 := n1_; have BK350 := n2_; have BK358 := n3_; have HB := n4_; clear n0_ n1_ n2_ n3_ n4_; (try clear hb); (try clear hb2); (try clear hk); (try clear hi)) | ((with_reducible refine gate_callee (f := 19) rfl ?_); refine goesL_ (some 57) rfl rfl Try.func19 (by kernel_rfl) rfl #[] rfl pwj_ ?_; (with_reducible refine (laws_alive.calls  true _ A30.out).mono ?_); rintro e w' ⟨rfl, ⟨nd, rfl⟩⟩; refine ⟨_, rfl, ?_⟩))
        go_ret
        exact ⟨by first | rfl | (simp [errW_none, errW_some] <;> rfl) | (simp [*, errW_none, errW_some] <;> rfl), by repeat (first | (with_reducible first | exact HB.out | apply below_alloc | apply pw_below_drewN | apply below_drew1 | refine below_set ?_ GE350.out | refine below_set ?_ GE358.out) | exact HB.out)⟩
      ·replace c31 := Bool.eq_false_iff.mpr c31
       subst c31
       have H1 : (some false) = some r := by rw [if_neg (show ¬ (false = true) by decide)] at H; exact H
       clear H
       have H := H1
       clear H1
       obtain rfl := Option.some.inj H
       have hnb48 := NB350_358.out
       have hnc48 := NB358_350.out
       have hcz49_0 : wc.cell? ⟨gb350, 0, none⟩ = some (.int .i64 t346) := (blk_cell BK350.out 0).trans rfl
       have hcz49_1 : wc.cell? ⟨gb350, 1, none⟩ = some (.slice Ao11 t347.length co11) := (blk_cell BK350.out 1).trans rfl
       have hfz49_0 := blk_frozen BK350.out 0
       have hfz49_1 := blk_frozen BK350.out 1
       go_wp2_with (first | ((with_reducible refine gate_callee (f := 45) rfl ?_); refine goesL_ (some 51) rfl rfl Try.func45 (by kernel_rfl) rfl #[.int .i64 t345, .agg #[.int .i64 t346, .slice Ao11 t347.length co11]] rfl pwj_ ?_; (with_reducible refine (impl_ClaimTable.calls kj6 t345 t346 _ _ t347 t361 _ ?side1 ?side2 A27.out).mono ?_); (case side1 => repeat (first | exact (Kd.R_reads' HO_351001.out).2.2 | (with_reducible refine Kd.C_alloc ?_ _) | (with_reducible refine Kd.C_drewN ?_ _) | (with_reducible refine Kd.C_drew ?_))); (case side2 => exact (Kd.R_reads' HO_351001.out).2.1); rintro e w50 ⟨rfl, hb⟩; refine ⟨_, rfl, ?_⟩; have n0_ := Aside0.mk (Kd.R_below pwf_ hb); have n1_ := Aside0.mk (Kd.R_below pwg_ hb); have n2_ := Aside0.mk (blk_below (g := gb350) (o := .cells #[.int .i64 t346, .slice Ao11 t347.length co11] 47 (0, 0)) (by (with_reducible repeat (first | refine blk_drewN ?_ _ | refine blk_drew ?_ | refine blk_alloc ?_ _)); exact BK350.out) hb); have n3_ := Aside0.mk (blk_below (g := gb358) (o := .cells #[.int .i64 t346, .slice Ao16 t354.length co16] 47 (0, 0)) (by (with_reducible repeat (first | refine blk_drewN ?_ _ | refine blk_drew ?_ | refine blk_alloc ?_ _)); exact BK358.out) hb); have n4_ := Aside0.mk (below_step (by repeat (first | (with_reducible first | exact HB.out | apply below_alloc | apply pw_below_drewN | apply below_drew1 | refine below_set ?_ GE350.out | refine below_set ?_ GE358.out) | exact HB.out)) hb); clear HO_351001; clear HO_359001; clear BK350; clear BK358; clear HB; have HO_351001 := n0_; have HO_359001 := n1_; have BK350 := n2_; have BK358 := n3_; have HB := n4_; clear n0_ n1_ n2_ n3_ n4_; (try clear hb); (try clear hb2); (try clear hk); (try clear hi); have hcz51_0 : w50.cell? ⟨gb358, 0, none⟩ = some (.int .i64 t346) := (blk_cell BK358.out 0).trans rfl; have hcz51_1 : w50.cell? ⟨gb358, 1, none⟩ = some (.slice Ao16 t354.length co16) := (blk_cell BK358.out 1).trans rfl; have hfz51_0 := blk_frozen BK358.out 0; have hfz51_1 := blk_frozen BK358.out 1) | ((with_reducible refine gate_callee (f := 45) rfl ?_); refine goesL_ (some 55) rfl rfl Try.func45 (by kernel_rfl) rfl #[.int .i64 t345, .agg #[.int .i64 t346, .slice Ao16 t354.length co16]] rfl pwj_ ?_; (with_reducible refine (impl_ClaimTable.calls kj6 t345 t346 _ _ t354 t362 _ ?side1 ?side2 A28.out).mono ?_); (case side1 => repeat (first | exact (Kd.R_reads' HO_359001.out).2.2 | (with_reducible refine Kd.C_alloc ?_ _) | (with_reducible refine Kd.C_drewN ?_ _) | (with_reducible refine Kd.C_drew ?_))); (case side2 => exact (Kd.R_reads' HO_359001.out).2.1); rintro e w52 ⟨rfl, hb⟩; refine ⟨_, rfl, ?_⟩; have n0_ := Aside0.mk (Kd.R_below pwf_ hb); have n1_ := Aside0.mk (Kd.R_below pwg_ hb); have n2_ := Aside0.mk (blk_below (g := gb350) (o := .cells #[.int .i64 t346, .slice Ao11 t347.length co11] 47 (0, 0)) (by (with_reducible repeat (first | refine blk_drewN ?_ _ | refine blk_drew ?_ | refine blk_alloc ?_ _)); exact BK350.out) hb); have n3_ := Aside0.mk (blk_below (g := gb358) (o := .cells #[.int .i64 t346, .slice Ao16 t354.length co16] 47 (0, 0)) (by (with_reducible repeat (first | refine blk_drewN ?_ _ | refine blk_drew ?_ | refine blk_alloc ?_ _)); exact BK358.out) hb); have n4_ := Aside0.mk (below_step (by repeat (first | (with_reducible first | exact HB.out | apply below_alloc | apply pw_below_drewN | apply below_drew1 | refine below_set ?_ GE350.out | refine below_set ?_ GE358.out) | exact HB.out)) hb); clear HO_351001; clear HO_359001; clear BK350; clear BK358; clear HB; have HO_351001 := n0_; have HO_359001 := n1_; have BK350 := n2_; have BK358 := n3_; have HB := n4_; clear n0_ n1_ n2_ n3_ n4_; (try clear hb); (try clear hb2); (try clear hk); (try clear hi)) | ((with_reducible refine gate_callee (f := 58) rfl ?_); refine goesL_ (some 56) rfl rfl Try.func58 (by kernel_rfl) rfl #[.int .i64 t345, .int .i64 t362] rfl pwj_ ?_; (with_reducible refine (impl_OppositeTable.calls t345 t362 t363 _ A29.out).mono ?_); rintro e w53 ⟨rfl, hb⟩; refine ⟨_, rfl, ?_⟩; have n0_ := Aside0.mk (Kd.R_below pwf_ hb); have n1_ := Aside0.mk (Kd.R_below pwg_ hb); have n2_ := Aside0.mk (blk_below (g := gb350) (o := .cells #[.int .i64 t346, .slice Ao11 t347.length co11] 47 (0, 0)) (by (with_reducible repeat (first | refine blk_drewN ?_ _ | refine blk_drew ?_ | refine blk_alloc ?_ _)); exact BK350.out) hb); have n3_ := Aside0.mk (blk_below (g := gb358) (o := .cells #[.int .i64 t346, .slice Ao16 t354.length co16] 47 (0, 0)) (by (with_reducible repeat (first | refine blk_drewN ?_ _ | refine blk_drew ?_ | refine blk_alloc ?_ _)); exact BK358.out) hb); have n4_ := Aside0.mk (below_step (by repeat (first | (with_reducible first | exact HB.out | apply below_alloc | apply pw_below_drewN | apply below_drew1 | refine below_set ?_ GE350.out | refine below_set ?_ GE358.out) | exact HB.out)) hb); clear HO_351001; clear HO_359001; clear BK350; clear BK358; clear HB; have HO_351001 := n0_; have HO_359001 := n1_; have BK350 := n2_; have BK358 := n3_; have HB := n4_; clear n0_ n1_ n2_ n3_ n4_; (try clear hb); (try clear hb2); (try clear hk); (try clear hi)) | ((with_reducible refine gate_callee (f := 19) rfl ?_); refine goesL_ (some 57) rfl rfl Try.func19 (by kernel_rfl) rfl #[] rfl pwj_ ?_; (with_reducible refine (laws_alive.calls  false _ A30.out).mono ?_); rintro e w' ⟨rfl, ⟨nd, rfl⟩⟩; refine ⟨_, rfl, ?_⟩))
       go_ret
       exact ⟨by first | rfl | (simp [errW_none, errW_some] <;> rfl) | (simp [*, errW_none, errW_some] <;> rfl), by repeat (first | (with_reducible first | exact HB.out | apply below_alloc | apply pw_below_drewN | apply below_drew1 | refine below_set ?_ GE350.out | refine below_set ?_ GE358.out) | exact HB.out)⟩
  ·replace c5 := Bool.eq_false_iff.mpr c5
   subst c5
   have H1 : ((impl_ClaimOk.f k t345 t346 t347).bind fun t352 => (if t352 = true then (some false) else ((laws_alive.f).bind fun t353 => (some t353)))) = some r := by rw [if_neg (show ¬ (false = true) by decide)] at H; exact H
   clear H
   have H := H1
   clear H1
   replace H := Option.bind_eq_some_iff.mp H
   obtain ⟨t352, A540, H⟩ := H
   replace H : (if t352 = true then (some false) else ((laws_alive.f).bind fun t353 => (some t353))) = some r := H
   have A54 := Aside0.mk A540
   clear A540
   by_cases c55 : t352 = true
   ·subst c55
    have H1 : (some false) = some r := by rw [if_pos rfl] at H; exact H
    clear H
    have H := H1
    clear H1
    obtain rfl := Option.some.inj H
    go_enter Try.func14, Try.ntmps14
    go_wp2_with (first | ((with_reducible refine gate_callee (f := 56) rfl ?_); refine goesL_ (some 15) rfl rfl Try.func56 (by kernel_rfl) rfl #[.slice A0 l0.length c0] rfl pwj_ ?_; (with_reducible refine (spec_DrawClaimTable.calls k _ _ l0 t345 t346 t347 _ ?side1 ?side2 A3.out).mono ?_); (case side1 => repeat (first | exact HR0.out | (with_reducible refine Kd.C_alloc ?_ _) | (with_reducible refine Kd.C_drewN ?_ _) | (with_reducible refine Kd.C_drew ?_))); (case side2 => exact HC0.out); rintro e w56 ⟨v348, rfl, ho0, hb⟩; refine ⟨_, rfl, ?_⟩; have n0_ := Aside0.mk (Kd.R_lower ho0 (below_size pwh_)); have n1_ := Aside0.mk (below_step pwh_ hb); clear HB; have HO349 := n0_; have HB := n1_; clear n0_ n1_; (try clear hb); (try clear hb2); (try clear hk); (try clear hi); (try clear ho0)) | ((with_reducible refine gate_dst (N := 4) rfl ?_); refine box_event ?hg (N := 4) ?hd (cs := #[.int .i64 0, .slice none 0 0]) (t := 47) ?hr ?_; (case hd => rfl); (case hg => rfl); (case hr => first | (go_simp; done) | (go_simp; rfl)); intro gb350 hg w57 hbox hb; have n0_ := Aside0.mk (Kd.R_below (by (with_reducible repeat apply Kd.R_alloc); exact HO349.out) hb); have n1_ := Aside0.mk (below_step pwh_ hb); have n2_ := Aside0.mk (hbox); have n3_ := Aside0.mk ((by rw [hg]; exact (below_size pwh_) : w.heap.size ≤ gb350)); have n4_ := Aside0.mk ((by rw [hg]; exact (below_size pwh_) : w.heap.size ≤ gb350)); clear HO349; clear HB; have HO349 := n0_; have HB := n1_; have BK350 := n2_; have GW350 := n3_; have GE350 := n4_; clear n0_ n1_ n2_ n3_ n4_; clear hb hbox hg; have hcz58_0 : w57.cell? ⟨gb350, 0, none⟩ = some (.int .i64 0) := (blk_cell BK350.out 0).trans rfl; have hcz58_1 : w57.cell? ⟨gb350, 1, none⟩ = some (.slice none 0 0) := (blk_cell BK350.out 1).trans rfl; have hfz58_0 := blk_frozen BK350.out 0; have hfz58_1 := blk_frozen BK350.out 1; obtain ⟨Ao59, co59, eo59⟩ := Kd.R_slice HO349.out; subst eo59) | ((with_reducible refine gate_callee (f := 43) rfl ?_); refine goesL_ (some 20) rfl rfl Try.func43 (by kernel_rfl) rfl #[.int .i64 t345, .agg #[.int .i64 t346, .slice Ao59 t347.length co59]] rfl pwj_ ?_; (with_reducible refine (spec_ClaimOk.calls k t345 t346 _ _ t347 false _ ?side1 ?side2 A4.out).mono ?_); (case side1 => refine (Kd.R_reads' (e := 62) (base := w.heap.size) (ok := fun k_ => True) (n := t347.length) (c := co59) ?_).2.2; exact (by (with_reducible repeat apply Kd.R_alloc); exact (Kd.R_mono (Kd.R_far (p := ⟨gb350, 1, none⟩) (Kd.R_far (p := ⟨gb350, 0, none⟩) (Kd.R_types HO349.out BK350.out (by decide)) (fun _ hk => hk.2) (.int .i64 t346)) (fun _ hk => hk.2) (.slice Ao59 t347.length co59)) (fun _ h_ => h_.1)))); (case side2 => exact (Kd.R_reads' HO349.out).2.1); rintro e w60 ⟨rfl, hb⟩; refine ⟨_, rfl, ?_⟩; have n0_ := Aside0.mk (Kd.R_below (by (with_reducible repeat apply Kd.R_alloc); exact (Kd.R_mono (Kd.R_far (p := ⟨gb350, 1, none⟩) (Kd.R_far (p := ⟨gb350, 0, none⟩) (Kd.R_types HO349.out BK350.out (by decide)) (fun _ hk => hk.2) (.int .i64 t346)) (fun _ hk => hk.2) (.slice Ao59 t347.length co59)) (fun _ h_ => h_.1))) hb); have n1_ := Aside0.mk (blk_below (g := gb350) (o := .cells #[.int .i64 t346, .slice Ao59 t347.length co59] 47 (0, 0)) (by (with_reducible repeat (first | refine blk_drewN ?_ _ | refine blk_drew ?_ | refine blk_alloc ?_ _)); refine blk_put (cs := #[.int .i64 t346, .slice none 0 0]) ?_ 1 _ rfl; (with_reducible repeat (first | refine blk_drewN ?_ _ | refine blk_drew ?_ | refine blk_alloc ?_ _)); refine blk_put (cs := #[.int .i64 0, .slice none 0 0]) ?_ 0 _ rfl; (with_reducible repeat (first | refine blk_drewN ?_ _ | refine blk_drew ?_ | refine blk_alloc ?_ _)); exact BK350.out) hb); have n2_ := Aside0.mk (below_step (by repeat (first | (with_reducible first | exact HB.out | apply below_alloc | apply pw_below_drewN | apply below_drew1 | refine below_set ?_ GE350.out) | exact HB.out)) hb); clear HO349; clear BK350; clear HB; have HO349 := n0_; have BK350 := n1_; have HB := n2_; clear n0_ n1_ n2_; (try clear hb); (try clear hb2); (try clear hk); (try clear hi); have hcz61_0 : w60.cell? ⟨gb350, 0, none⟩ = some (.int .i64 t346) := (blk_cell BK350.out 0).trans rfl; have hcz61_1 : w60.cell? ⟨gb350, 1, none⟩ = some (.slice Ao59 t347.length co59) := (blk_cell BK350.out 1).trans rfl; have hfz61_0 := blk_frozen BK350.out 0; have hfz61_1 := blk_frozen BK350.out 1) | ((with_reducible refine gate_callee (f := 44) rfl ?_); refine goesL_ (some 24) rfl rfl Try.func44 (by kernel_rfl) rfl #[.int .i64 t345, .agg #[.int .i64 t346, .slice Ao59 t347.length co59]] rfl pwj_ ?_; (with_reducible refine (impl_ClaimOk.calls k t345 t346 _ _ t347 true _ ?side1 ?side2 A54.out).mono ?_); (case side1 => repeat (first | exact (Kd.R_reads' HO349.out).2.2 | (with_reducible refine Kd.C_alloc ?_ _) | (with_reducible refine Kd.C_drewN ?_ _) | (with_reducible refine Kd.C_drew ?_))); (case side2 => exact (Kd.R_reads' HO349.out).2.1); rintro e w62 ⟨rfl, hb⟩; refine ⟨_, rfl, ?_⟩; have n0_ := Aside0.mk (Kd.R_below (by (with_reducible repeat apply Kd.R_alloc); exact HO349.out) hb); have n1_ := Aside0.mk (blk_below (g := gb350) (o := .cells #[.int .i64 t346, .slice Ao59 t347.length co59] 47 (0, 0)) (by (with_reducible repeat (first | refine blk_drewN ?_ _ | refine blk_drew ?_ | refine blk_alloc ?_ _)); exact BK350.out) hb); have n2_ := Aside0.mk (below_step (by repeat (first | (with_reducible first | exact HB.out | apply below_alloc | apply pw_below_drewN | apply below_drew1 | refine below_set ?_ GE350.out) | exact HB.out)) hb); clear HO349; clear BK350; clear HB; have HO349 := n0_; have BK350 := n1_; have HB := n2_; clear n0_ n1_ n2_; (try clear hb); (try clear hb2); (try clear hk); (try clear hi)))
    go_ret
    exact ⟨by first | rfl | (simp [errW_none, errW_some] <;> rfl) | (simp [*, errW_none, errW_some] <;> rfl), by repeat (first | (with_reducible first | exact HB.out | apply below_alloc | apply pw_below_drewN | apply below_drew1 | refine below_set ?_ GE350.out) | exact HB.out)⟩
   ·replace c55 := Bool.eq_false_iff.mpr c55
    subst c55
    have H1 : ((laws_alive.f).bind fun t353 => (some t353)) = some r := by rw [if_neg (show ¬ (false = true) by decide)] at H; exact H
    clear H
    have H := H1
    clear H1
    replace H := Option.bind_eq_some_iff.mp H
    obtain ⟨t353, A630, H⟩ := H
    replace H : (some t353) = some r := H
    have A63 := Aside0.mk A630
    clear A630
    obtain rfl := Option.some.inj H
    go_enter Try.func14, Try.ntmps14
    go_wp2_with (first | ((with_reducible refine gate_callee (f := 56) rfl ?_); refine goesL_ (some 15) rfl rfl Try.func56 (by kernel_rfl) rfl #[.slice A0 l0.length c0] rfl pwj_ ?_; (with_reducible refine (spec_DrawClaimTable.calls k _ _ l0 t345 t346 t347 _ ?side1 ?side2 A3.out).mono ?_); (case side1 => repeat (first | exact HR0.out | (with_reducible refine Kd.C_alloc ?_ _) | (with_reducible refine Kd.C_drewN ?_ _) | (with_reducible refine Kd.C_drew ?_))); (case side2 => exact HC0.out); rintro e w64 ⟨v348, rfl, ho0, hb⟩; refine ⟨_, rfl, ?_⟩; have n0_ := Aside0.mk (Kd.R_lower ho0 (below_size pwh_)); have n1_ := Aside0.mk (below_step pwh_ hb); clear HB; have HO349 := n0_; have HB := n1_; clear n0_ n1_; (try clear hb); (try clear hb2); (try clear hk); (try clear hi); (try clear ho0)) | ((with_reducible refine gate_dst (N := 4) rfl ?_); refine box_event ?hg (N := 4) ?hd (cs := #[.int .i64 0, .slice none 0 0]) (t := 47) ?hr ?_; (case hd => rfl); (case hg => rfl); (case hr => first | (go_simp; done) | (go_simp; rfl)); intro gb350 hg w65 hbox hb; have n0_ := Aside0.mk (Kd.R_below (by (with_reducible repeat apply Kd.R_alloc); exact HO349.out) hb); have n1_ := Aside0.mk (below_step pwh_ hb); have n2_ := Aside0.mk (hbox); have n3_ := Aside0.mk ((by rw [hg]; exact (below_size pwh_) : w.heap.size ≤ gb350)); have n4_ := Aside0.mk ((by rw [hg]; exact (below_size pwh_) : w.heap.size ≤ gb350)); clear HO349; clear HB; have HO349 := n0_; have HB := n1_; have BK350 := n2_; have GW350 := n3_; have GE350 := n4_; clear n0_ n1_ n2_ n3_ n4_; clear hb hbox hg; have hcz66_0 : w65.cell? ⟨gb350, 0, none⟩ = some (.int .i64 0) := (blk_cell BK350.out 0).trans rfl; have hcz66_1 : w65.cell? ⟨gb350, 1, none⟩ = some (.slice none 0 0) := (blk_cell BK350.out 1).trans rfl; have hfz66_0 := blk_frozen BK350.out 0; have hfz66_1 := blk_frozen BK350.out 1; obtain ⟨Ao67, co67, eo67⟩ := Kd.R_slice HO349.out; subst eo67) | ((with_reducible refine gate_callee (f := 43) rfl ?_); refine goesL_ (some 20) rfl rfl Try.func43 (by kernel_rfl) rfl #[.int .i64 t345, .agg #[.int .i64 t346, .slice Ao67 t347.length co67]] rfl pwj_ ?_; (with_reducible refine (spec_ClaimOk.calls k t345 t346 _ _ t347 false _ ?side1 ?side2 A4.out).mono ?_); (case side1 => refine (Kd.R_reads' (e := 62) (base := w.heap.size) (ok := fun k_ => True) (n := t347.length) (c := co67) ?_).2.2; exact (by (with_reducible repeat apply Kd.R_alloc); exact (Kd.R_mono (Kd.R_far (p := ⟨gb350, 1, none⟩) (Kd.R_far (p := ⟨gb350, 0, none⟩) (Kd.R_types HO349.out BK350.out (by decide)) (fun _ hk => hk.2) (.int .i64 t346)) (fun _ hk => hk.2) (.slice Ao67 t347.length co67)) (fun _ h_ => h_.1)))); (case side2 => exact (Kd.R_reads' HO349.out).2.1); rintro e w68 ⟨rfl, hb⟩; refine ⟨_, rfl, ?_⟩; have n0_ := Aside0.mk (Kd.R_below (by (with_reducible repeat apply Kd.R_alloc); exact (Kd.R_mono (Kd.R_far (p := ⟨gb350, 1, none⟩) (Kd.R_far (p := ⟨gb350, 0, none⟩) (Kd.R_types HO349.out BK350.out (by decide)) (fun _ hk => hk.2) (.int .i64 t346)) (fun _ hk => hk.2) (.slice Ao67 t347.length co67)) (fun _ h_ => h_.1))) hb); have n1_ := Aside0.mk (blk_below (g := gb350) (o := .cells #[.int .i64 t346, .slice Ao67 t347.length co67] 47 (0, 0)) (by (with_reducible repeat (first | refine blk_drewN ?_ _ | refine blk_drew ?_ | refine blk_alloc ?_ _)); refine blk_put (cs := #[.int .i64 t346, .slice none 0 0]) ?_ 1 _ rfl; (with_reducible repeat (first | refine blk_drewN ?_ _ | refine blk_drew ?_ | refine blk_alloc ?_ _)); refine blk_put (cs := #[.int .i64 0, .slice none 0 0]) ?_ 0 _ rfl; (with_reducible repeat (first | refine blk_drewN ?_ _ | refine blk_drew ?_ | refine blk_alloc ?_ _)); exact BK350.out) hb); have n2_ := Aside0.mk (below_step (by repeat (first | (with_reducible first | exact HB.out | apply below_alloc | apply pw_below_drewN | apply below_drew1 | refine below_set ?_ GE350.out) | exact HB.out)) hb); clear HO349; clear BK350; clear HB; have HO349 := n0_; have BK350 := n1_; have HB := n2_; clear n0_ n1_ n2_; (try clear hb); (try clear hb2); (try clear hk); (try clear hi); have hcz69_0 : w68.cell? ⟨gb350, 0, none⟩ = some (.int .i64 t346) := (blk_cell BK350.out 0).trans rfl; have hcz69_1 : w68.cell? ⟨gb350, 1, none⟩ = some (.slice Ao67 t347.length co67) := (blk_cell BK350.out 1).trans rfl; have hfz69_0 := blk_frozen BK350.out 0; have hfz69_1 := blk_frozen BK350.out 1) | ((with_reducible refine gate_callee (f := 44) rfl ?_); refine goesL_ (some 24) rfl rfl Try.func44 (by kernel_rfl) rfl #[.int .i64 t345, .agg #[.int .i64 t346, .slice Ao67 t347.length co67]] rfl pwj_ ?_; (with_reducible refine (impl_ClaimOk.calls k t345 t346 _ _ t347 false _ ?side1 ?side2 A54.out).mono ?_); (case side1 => repeat (first | exact (Kd.R_reads' HO349.out).2.2 | (with_reducible refine Kd.C_alloc ?_ _) | (with_reducible refine Kd.C_drewN ?_ _) | (with_reducible refine Kd.C_drew ?_))); (case side2 => exact (Kd.R_reads' HO349.out).2.1); rintro e w70 ⟨rfl, hb⟩; refine ⟨_, rfl, ?_⟩; have n0_ := Aside0.mk (Kd.R_below (by (with_reducible repeat apply Kd.R_alloc); exact HO349.out) hb); have n1_ := Aside0.mk (blk_below (g := gb350) (o := .cells #[.int .i64 t346, .slice Ao67 t347.length co67] 47 (0, 0)) (by (with_reducible repeat (first | refine blk_drewN ?_ _ | refine blk_drew ?_ | refine blk_alloc ?_ _)); exact BK350.out) hb); have n2_ := Aside0.mk (below_step (by repeat (first | (with_reducible first | exact HB.out | apply below_alloc | apply pw_below_drewN | apply below_drew1 | refine below_set ?_ GE350.out) | exact HB.out)) hb); clear HO349; clear BK350; clear HB; have HO349 := n0_; have BK350 := n1_; have HB := n2_; clear n0_ n1_ n2_; (try clear hb); (try clear hb2); (try clear hk); (try clear hi)) | (go_at_call 19; (with_reducible refine (laws_alive.calls  t353 _ A63.out).mono ?_); rintro e w' ⟨rfl, ⟨nd, rfl⟩⟩))
    go_ret
    exact ⟨by first | rfl | (simp [errW_none, errW_some] <;> rfl) | (simp [*, errW_none, errW_some] <;> rfl), by repeat (first | (with_reducible first | exact HB.out | apply below_alloc | apply pw_below_drewN | apply below_drew1 | refine below_set ?_ GE350.out) | exact HB.out)⟩

/-- THE ONE PURE STATEMENT of laws_FnMirrorStory: yours. -/
def laws_FnMirrorStory.Pure : Prop := ∀ (l0 : List Int), l0.length ≤ maxLen → l0.length * 1 ≤ 140737488351232 → (∀ x ∈ l0, (Lit.int .u8 x).wf = true) → ∃ k, laws_FnMirrorStory.f k l0 = some true
theorem laws_FnMirrorStory.walk (P : laws_FnMirrorStory.Pure) (a0 : Option Addr) (len0 cap0 : Nat) (z0 : List Int) (w : World) (w0 : (a0 = none ∧ len0 = 0 ∧ cap0 = 0 ∧ z0 = []) ∨ ∃ x, a0 = some x ∧ len0 ≤ cap0 ∧ cap0 ≤ maxLen ∧ z0.length = cap0 ∧ (∀ i, i < z0.length → w.cell? (x.add i) = some (.int .u8 (z0.getD i 0))) ∧ ∀ n ∈ z0, (Lit.int .u8 n).wf = true) (y0 : len0 * 1 ≤ 140737488351232) :
  Calls Try.prog 14 #[.slice a0 len0 cap0] w fun e w' => e = .returned (.bool true) ∧ Below w.heap.size w w' := by
 obtain ⟨l0, rfl, hr0, hm0, hw0, hc0⟩ := ReadsInt.ofRowC w0
 obtain ⟨k, h⟩ := P l0 hm0 y0 hw0
 refine (laws_FnMirrorStory.calls k _ _ l0 true w (Kd.C_of_reads (d := (0 : Int)) (h1 := fun _ => rfl) hr0) hc0 h).mono ?_
 rintro e w' ⟨rfl, hd⟩
 exact ⟨rfl, hd⟩

end Go.Proofs.Ytfhmafmfaoknlaa.PFnMirrorStory
