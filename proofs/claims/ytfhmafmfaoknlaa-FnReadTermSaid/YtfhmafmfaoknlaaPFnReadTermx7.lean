-- Made by a program of this session (wip/tools/patchprint.py), not by the kit itself.
import Derived.Test.YtfhmafmfaoknlaaPFnReadTermx0
import Derived.Test.YtfhmafmfaoknlaaPFnReadTermx4
import Derived.Test.YtfhmafmfaoknlaaPFnReadTermx5
import Derived.Test.YtfhmafmfaoknlaaPFnReadTermx6
namespace Go.Proofs.Ytfhmafmfaoknlaa.PFnReadTerm
open Go.RowKit Go.Proofs.YtfhmafmfaoknlaaW.PrintWords Go.Proofs.YtfhmafmfaoknlaaW.PrintLast Go.Proofs.YtfhmafmfaoknlaaW.PrintMore
attribute [local go_sem] max2_int min2_int max_two min_two max_three min_three max_four min_four   -- for this text's walks alone
set_option linter.unusedVariables false
set_option linter.unusedSimpArgs false

attribute [local go_sem] setCell_isSome
/-! ### spec_DrawReadTerm: function 15 -/
def spec_DrawReadTerm.j0 : Nat → Int → ByteArray → Bool → List Int → Int → Option (Int × ByteArray)
 | 0, _, _, _, _, _ => none
 | k + 1, x5, x6, x25, x290000, x290001 => if x25 = true then ((spec_l20Rd_pick.f k x290000 x290001 (x6.size : Int)).bind fun bt299 => (if 0 ≤ bt299.1 then (if bt299.1 ≤ (x6.size : Int) then ((some (([(⟨#[]⟩ : ByteArray), (⟨#[40]⟩ : ByteArray), (⟨#[41]⟩ : ByteArray), (⟨#[38]⟩ : ByteArray), (⟨#[124]⟩ : ByteArray), (⟨#[61]⟩ : ByteArray), (⟨#[33]⟩ : ByteArray), (⟨#[97]⟩ : ByteArray), (⟨#[54]⟩ : ByteArray)] : List ByteArray) : List ByteArray)).bind fun y301 => ((spec_l20Rd_pick.f k x290000 bt299.2 9).bind fun bt304 => (if 0 ≤ bt304.1 then (if bt304.1 < (y301.length : Int) then (if (x6.extract 0 (bt299.1 : Int).toNat).size + (rdOf ByteArray.empty y301 bt304.1).size ≤ 9223372036854775807 then ((spec_l20Rd_pick.f k x290000 bt304.2 2).bind fun bt307 => (if 0 ≤ (wrap64 (bt299.1 + bt307.1)) then (if (wrap64 (bt299.1 + bt307.1)) ≤ (x6.size : Int) then (if ((x6.extract 0 (bt299.1 : Int).toNat) ++ (rdOf ByteArray.empty y301 bt304.1)).size + (x6.extract ((wrap64 (bt299.1 + bt307.1)) : Int).toNat x6.size).size ≤ 9223372036854775807 then (some (x5, ((x6.extract 0 (bt299.1 : Int).toNat) ++ (rdOf ByteArray.empty y301 bt304.1)) ++ (x6.extract ((wrap64 (bt299.1 + bt307.1)) : Int).toNat x6.size))) else (none)) else (none)) else (none))) else (none)) else (none)) else (none)))) else (none)) else (none))) else (some (x5, x6))
def spec_DrawReadTerm.f (k : Nat) (l0 : List Int) : Option (Int × ByteArray) := (spec_l20Open.f l0).bind fun bt287 => ((spec_l20Rd_pick.f k bt287.1 bt287.2 4).bind fun bt290 => ((spec_l20Term.f k bt287.1 bt290.2 (wrap64 (1 + bt290.1)) 0).bind fun bt292 => ((spec_TermText.f k (wrap64 (1 + bt290.1)) bt292.1).bind fun t296 => ((spec_l20Rd_pick.f k bt287.1 bt292.2 3).bind fun bt297 => (if bt297.1 = 0 then (spec_DrawReadTerm.j0 k (wrap64 (1 + bt290.1)) t296 (decide ((t296.size : Int) > 0)) bt287.1 bt297.2) else (spec_DrawReadTerm.j0 k (wrap64 (1 + bt290.1)) t296 false bt287.1 bt297.2))))))
theorem spec_DrawReadTerm.mono_l : ∀ k, (∀ y0 y1 y2 y3 y4, LeO (spec_DrawReadTerm.j0 k y0 y1 y2 y3 y4) (spec_DrawReadTerm.j0 (k + 1) y0 y1 y2 y3 y4))
 | 0 => fun _ _ _ _ _ r h => by simp [spec_DrawReadTerm.j0] at h
 | k + 1 => by
  have ih0 := spec_DrawReadTerm.mono_l k
  ·intro y0 y1 y2 y3 y4
   unfold spec_DrawReadTerm.j0
   repeat' first
   | (with_reducible exact ih0 _ _ _ _ _)
   | (with_reducible exact spec_TermText.mono _ _ _)
   | (with_reducible exact spec_l20Rd_pick.mono _ _ _ _)
   | (with_reducible exact spec_l20Term.mono _ _ _ _ _)
   | (with_reducible exact LeO.refl _)
   | (with_reducible exact LeO.none _)
   | (with_reducible refine LeO.ite ?_ ?_)
   | (with_reducible refine LeO.bind ?_ (fun _ => ?_))
   | exact ih0 _ _ _ _ _
   | exact spec_TermText.mono _ _ _
   | exact spec_l20Rd_pick.mono _ _ _ _
   | exact spec_l20Term.mono _ _ _ _ _
   | exact LeO.none _
   | refine LeO.ite ?_ ?_
   | refine LeO.bind ?_ (fun _ => ?_)
theorem spec_DrawReadTerm.mono : ∀ a0 k, LeO (spec_DrawReadTerm.f k a0) (spec_DrawReadTerm.f (k + 1) a0) := by
 intro a0 k
 have ih0 := spec_DrawReadTerm.mono_l k
 unfold spec_DrawReadTerm.f
 repeat' first
   | (with_reducible exact ih0 _ _ _ _ _)
   | (with_reducible exact spec_TermText.mono _ _ _)
   | (with_reducible exact spec_l20Rd_pick.mono _ _ _ _)
   | (with_reducible exact spec_l20Term.mono _ _ _ _ _)
   | (with_reducible exact LeO.refl _)
   | (with_reducible exact LeO.none _)
   | (with_reducible refine LeO.ite ?_ ?_)
   | (with_reducible refine LeO.bind ?_ (fun _ => ?_))
   | exact ih0 _ _ _ _ _
   | exact spec_TermText.mono _ _ _
   | exact spec_l20Rd_pick.mono _ _ _ _
   | exact spec_l20Term.mono _ _ _ _ _
   | exact LeO.none _
   | refine LeO.ite ?_ ?_
   | refine LeO.bind ?_ (fun _ => ?_)
def spec_DrawReadTerm.T6 : Bool × List (List Nat × List Nat) := (true, [([], []), ([], []), ([], []), ([1, 2], [1, 2]), ([], []), ([], []), ([5], [5]), ([4, 6], [4, 6]), ([7], [7]), ([3, 8], [3, 8]), ([], []), ([], []), ([], []), ([12, 6], [12]), ([11, 13], [11, 13]), ([10, 14], [10, 14]), ([9, 15], [9, 15]), ([0, 13, 0], [0]), ([16, 17, 0, 1, 2, 3, 4, 5, 6, 7, 8, 9, 10, 11, 12, 13, 14, 15, 16, 17], [16])])
def spec_DrawReadTerm.B6 : List Nat := [0, 0, 0, 6, 0, 0, 32, 112, 240, 510, 0, 0, 0, 4192, 14432, 31840, 65534, 12385, 262143]
theorem spec_DrawReadTerm.tab6 : rtab .any (opsOf Try.f15 6) = spec_DrawReadTerm.T6 := by kernel_rfl
theorem spec_DrawReadTerm.bits6 : waitsOk spec_DrawReadTerm.T6.2 spec_DrawReadTerm.B6 = true := by kernel_rfl
set_option maxHeartbeats 8000000 in
set_option maxRecDepth 100000 in
theorem spec_DrawReadTerm.calls (k : Nat) (A0 : Option Addr) (c0 : Nat) (l0 : List Int) (r1 : Int) (r2 : ByteArray) (w : World) (hr0 : Kd.C (Kd.int .u8) w A0 l0.length l0) (hc0 : l0.length ≤ c0) (h : spec_DrawReadTerm.f k l0 = some (r1, r2)) :
  Calls Try.prog 15 #[.slice A0 l0.length c0] w fun e w' => e = .returned (.tuple #[.int .i64 r1, .string r2]) ∧ Below w.heap.size w w' := by
 have HR0 := Aside0.mk hr0
 have HC0 := Aside0.mk hc0
 clear hr0 hc0
 have HB := Aside0.mk (Below.refl w.heap.size w)
 have H : ((spec_l20Open.f l0).bind fun bt287 => ((spec_l20Rd_pick.f k bt287.1 bt287.2 4).bind fun bt290 => ((spec_l20Term.f k bt287.1 bt290.2 (wrap64 (1 + bt290.1)) 0).bind fun bt292 => ((spec_TermText.f k (wrap64 (1 + bt290.1)) bt292.1).bind fun t296 => ((spec_l20Rd_pick.f k bt287.1 bt292.2 3).bind fun bt297 => (if bt297.1 = 0 then (spec_DrawReadTerm.j0 k (wrap64 (1 + bt290.1)) t296 (decide ((t296.size : Int) > 0)) bt287.1 bt297.2) else (spec_DrawReadTerm.j0 k (wrap64 (1 + bt290.1)) t296 false bt287.1 bt297.2))))))) = some (r1, r2) := h
 clear h
 replace H := Option.bind_eq_some_iff.mp H
 obtain ⟨⟨t287, t288⟩, A20, H⟩ := H
 replace H : ((spec_l20Rd_pick.f k t287 t288 4).bind fun bt290 => ((spec_l20Term.f k t287 bt290.2 (wrap64 (1 + bt290.1)) 0).bind fun bt292 => ((spec_TermText.f k (wrap64 (1 + bt290.1)) bt292.1).bind fun t296 => ((spec_l20Rd_pick.f k t287 bt292.2 3).bind fun bt297 => (if bt297.1 = 0 then (spec_DrawReadTerm.j0 k (wrap64 (1 + bt290.1)) t296 (decide ((t296.size : Int) > 0)) t287 bt297.2) else (spec_DrawReadTerm.j0 k (wrap64 (1 + bt290.1)) t296 false t287 bt297.2)))))) = some (r1, r2) := H
 have A2 := Aside0.mk A20
 clear A20
 replace H := Option.bind_eq_some_iff.mp H
 obtain ⟨⟨t290, t291⟩, A30, H⟩ := H
 replace H : ((spec_l20Term.f k t287 t291 (wrap64 (1 + t290)) 0).bind fun bt292 => ((spec_TermText.f k (wrap64 (1 + t290)) bt292.1).bind fun t296 => ((spec_l20Rd_pick.f k t287 bt292.2 3).bind fun bt297 => (if bt297.1 = 0 then (spec_DrawReadTerm.j0 k (wrap64 (1 + t290)) t296 (decide ((t296.size : Int) > 0)) t287 bt297.2) else (spec_DrawReadTerm.j0 k (wrap64 (1 + t290)) t296 false t287 bt297.2))))) = some (r1, r2) := H
 have A3 := Aside0.mk A30
 clear A30
 replace H := Option.bind_eq_some_iff.mp H
 obtain ⟨⟨t292, t295⟩, A40, H⟩ := H
 replace H : ((spec_TermText.f k (wrap64 (1 + t290)) t292).bind fun t296 => ((spec_l20Rd_pick.f k t287 t295 3).bind fun bt297 => (if bt297.1 = 0 then (spec_DrawReadTerm.j0 k (wrap64 (1 + t290)) t296 (decide ((t296.size : Int) > 0)) t287 bt297.2) else (spec_DrawReadTerm.j0 k (wrap64 (1 + t290)) t296 false t287 bt297.2)))) = some (r1, r2) := H
 have A4 := Aside0.mk A40
 clear A40
 replace H := Option.bind_eq_some_iff.mp H
 obtain ⟨t296, A50, H⟩ := H
 replace H : ((spec_l20Rd_pick.f k t287 t295 3).bind fun bt297 => (if bt297.1 = 0 then (spec_DrawReadTerm.j0 k (wrap64 (1 + t290)) t296 (decide ((t296.size : Int) > 0)) t287 bt297.2) else (spec_DrawReadTerm.j0 k (wrap64 (1 + t290)) t296 false t287 bt297.2))) = some (r1, r2) := H
 have A5 := Aside0.mk A50
 clear A50
 have HC6 := Aside0.mk H
 clear H
 go_enter Try.func15, Try.ntmps15
 go_upto_region 4 with (first | ((with_reducible refine gate_callee (f := 59) rfl ?_); refine goesL_ (some 9) rfl rfl Try.func59 (by kernel_rfl) rfl #[.slice A0 l0.length c0] rfl pwk_ ?_; (with_reducible refine (spec_l20Open.calls _ _ l0 t287 t288 w _ ?side1 ?side2 ?side3 A2.out).mono ?_); (case side1 => repeat (first | (with_reducible first | exact HB.out | apply below_alloc | apply pw_below_drewN | apply below_drew1) | exact HB.out)); (case side2 => exact HR0.out); (case side3 => exact HC0.out); rintro e w7 ⟨g289, rfl, hi, hb, hb2⟩; refine ⟨_, rfl, ?_⟩; have n0_ := Aside0.mk (hb); have n1_ := Aside0.mk (hi); clear HB; have HB := n0_; have HI289 := n1_; clear n0_ n1_; (try clear hb); (try clear hb2); (try clear hk); (try clear hi)) | ((with_reducible refine gate_callee (f := 60) rfl ?_); refine goesL_ (some 11) rfl rfl Try.func60 (by kernel_rfl) rfl #[.pointer (some ⟨g289, 0, none⟩), .int .i64 4] rfl pwk_ ?_; (with_reducible refine (spec_l20Rd_pick.calls k g289 t287 t288 4 t290 t291 w _ ?side1 ?side2 A3.out).mono ?_); (case side1 => repeat (first | (with_reducible first | exact HI289.out | apply IsS103.alloc | apply IsS103.drewN | apply IsS103.drew | apply IsS103.set_1) | exact HI289.out)); (case side2 => repeat (first | (with_reducible first | exact HB.out | apply below_alloc | apply pw_below_drewN | apply below_drew1 | refine below_set ?_ (IsS103.ge HI289.out)) | exact HB.out)); rintro e w8 ⟨rfl, hi, hb, hk⟩; refine ⟨_, rfl, ?_⟩; have n0_ := Aside0.mk (hb); have n1_ := Aside0.mk (hi); clear HB; clear HI289; have HB := n0_; have HI289 := n1_; clear n0_ n1_; (try clear hb); (try clear hb2); (try clear hk); (try clear hi)) | ((with_reducible refine gate_callee (f := 61) rfl ?_); refine goesL_ (some 16) rfl rfl Try.func61 (by kernel_rfl) rfl #[.pointer (some ⟨g289, 0, none⟩), .int .i64 (wrap64 (1 + t290)), .int .i64 0] rfl pwk_ ?_; (with_reducible refine (spec_l20Term.calls k g289 t287 t291 (wrap64 (1 + t290)) 0 t292 t295 w _ ?side1 ?side2 A4.out).mono ?_); (case side1 => repeat (first | (with_reducible first | exact HI289.out | apply IsS103.alloc | apply IsS103.drewN | apply IsS103.drew | apply IsS103.set_1) | exact HI289.out)); (case side2 => repeat (first | (with_reducible first | exact HB.out | apply below_alloc | apply pw_below_drewN | apply below_drew1 | refine below_set ?_ (IsS103.ge HI289.out)) | exact HB.out)); rintro e w9 ⟨v293, rfl, ho0, hi, hb, hk⟩; refine ⟨_, rfl, ?_⟩; have n0_ := Aside0.mk (Kd.R_lower ho0 (below_size (by repeat (first | (with_reducible first | exact HB.out | apply below_alloc | apply pw_below_drewN | apply below_drew1 | refine below_set ?_ (IsS103.ge HI289.out)) | exact HB.out)))); have n1_ := Aside0.mk (hb); have n2_ := Aside0.mk (hi); clear HB; clear HI289; have HO294 := n0_; have HB := n1_; have HI289 := n2_; clear n0_ n1_ n2_; (try clear hb); (try clear hb2); (try clear hk); (try clear hi); (try clear ho0); obtain ⟨Ao10, co10, eo10⟩ := Kd.R_slice HO294.out; subst eo10) | ((with_reducible refine gate_callee (f := 23) rfl ?_); refine goesL_ (some 17) rfl rfl Try.func23 (by kernel_rfl) rfl #[.int .i64 (wrap64 (1 + t290)), .slice Ao10 t292.length co10] rfl pwk_ ?_; (with_reducible refine (spec_TermText.calls k (wrap64 (1 + t290)) _ _ t292 t296 _ ?side1 ?side2 A5.out).mono ?_); (case side1 => repeat (first | exact (Kd.R_reads' HO294.out).2.2 | (with_reducible refine Kd.C_alloc ?_ _) | (with_reducible refine Kd.C_drewN ?_ _) | (with_reducible refine Kd.C_drew ?_))); (case side2 => exact (Kd.R_reads' HO294.out).2.1); rintro e w11 ⟨rfl, hb⟩; refine ⟨_, rfl, ?_⟩; have n0_ := Aside0.mk (Kd.R_below (by (with_reducible repeat apply Kd.R_alloc); exact HO294.out) hb); have n1_ := Aside0.mk (IsS103.below (by repeat (first | (with_reducible first | exact HI289.out | apply IsS103.alloc | apply IsS103.drewN | apply IsS103.drew | apply IsS103.set_1) | exact HI289.out)) hb); have n2_ := Aside0.mk (below_step (by repeat (first | (with_reducible first | exact HB.out | apply below_alloc | apply pw_below_drewN | apply below_drew1 | refine below_set ?_ (IsS103.ge HI289.out)) | exact HB.out)) hb); clear HO294; clear HI289; clear HB; have HO294 := n0_; have HI289 := n1_; have HB := n2_; clear n0_ n1_ n2_; (try clear hb); (try clear hb2); (try clear hk); (try clear hi)))
 (try simp only [Act.put, List.setIfInBounds_toArray, List.set_cons_zero, List.set_cons_succ])
 go_cut [25] (fun v25 wc => ∃ (kq : Nat) (x25_5 : Bool) (x290001_5 : Int), v25 = .bool x25_5 ∧ Aside0 (spec_DrawReadTerm.j0 kq (wrap64 (1 + t290)) t296 x25_5 t287 x290001_5 = some (r1, r2)) ∧ Aside0 (kq ≤ k) ∧ Aside0 (IsS103 w wc g289 t287 x290001_5) ∧ Aside0 (Below w.heap.size w wc))
 case first =>
  have H := HC6.out
  clear HC6
  replace H := Option.bind_eq_some_iff.mp H
  obtain ⟨⟨t297, t298⟩, A120, H⟩ := H
  replace H : (if t297 = 0 then (spec_DrawReadTerm.j0 k (wrap64 (1 + t290)) t296 (decide ((t296.size : Int) > 0)) t287 t298) else (spec_DrawReadTerm.j0 k (wrap64 (1 + t290)) t296 false t287 t298)) = some (r1, r2) := H
  have A12 := Aside0.mk A120
  clear A120
  by_cases c13 : t297 = 0
  ·rw [if_pos c13] at H
   have c13b0 : (t297 == 0) = true := beq_iff_eq.mpr c13
   have c13b1 : (t297 != 0) = false := bne_eq_false_iff_eq.mpr c13
   clear c13
   (first | rw [c13b0] | (simp only [i64_w, i32_w]; rw [c13b0]) | skip)
   have H' := Aside0.mk H
   clear H
   go_wp2_with (first | ((with_reducible refine gate_callee (f := 60) rfl ?_); refine goesL_ (some 19) rfl rfl Try.func60 (by kernel_rfl) rfl #[.pointer (some ⟨g289, 0, none⟩), .int .i64 3] rfl pwk_ ?_; (with_reducible refine (spec_l20Rd_pick.calls k g289 t287 t295 3 t297 t298 w _ ?side1 ?side2 A12.out).mono ?_); (case side1 => repeat (first | (with_reducible first | exact HI289.out | apply IsS103.alloc | apply IsS103.drewN | apply IsS103.drew | apply IsS103.set_1) | exact HI289.out)); (case side2 => repeat (first | (with_reducible first | exact HB.out | apply below_alloc | apply pw_below_drewN | apply below_drew1 | refine below_set ?_ (IsS103.ge HI289.out)) | exact HB.out)); rintro e w14 ⟨rfl, hi, hb, hk⟩; refine ⟨_, rfl, ?_⟩; have n0_ := Aside0.mk (Kd.R_mono (Kd.R_keep (IsS103.apart (show IsS103 w _ g289 t287 t295 from by repeat (first | (with_reducible first | exact HI289.out | apply IsS103.alloc | apply IsS103.drewN | apply IsS103.drew | apply IsS103.set_1) | exact HI289.out)) (by (with_reducible repeat apply Kd.R_alloc); exact HO294.out) (by decide)) hk (fun _ h => h.2)) (fun _ h => h.1)); have n1_ := Aside0.mk (hb); have n2_ := Aside0.mk (hi); clear HO294; clear HB; clear HI289; have HO294 := n0_; have HB := n1_; have HI289 := n2_; clear n0_ n1_ n2_; (try clear hb); (try clear hb2); (try clear hk); (try clear hi)))
   go_meet
   case rel => exact ⟨_, (decide ((t296.size : Int) > 0)), (t298), pwa_, H', ⟨by first | omega | exact Nat.le_refl _⟩, ⟨by repeat (first | (with_reducible first | exact HI289.out | apply IsS103.alloc | apply IsS103.drewN | apply IsS103.drew | apply IsS103.set_1) | exact HI289.out)⟩, ⟨by repeat (first | (with_reducible first | exact HB.out | apply below_alloc | apply pw_below_drewN | apply below_drew1 | refine below_set ?_ (IsS103.ge HI289.out)) | exact HB.out)⟩⟩
  ·rw [if_neg c13] at H
   have c13b0 : (t297 == 0) = false := beq_eq_false_iff_ne.mpr c13
   have c13b1 : (t297 != 0) = true := bne_iff_ne.mpr c13
   (first | rw [c13b0] | (simp only [i64_w, i32_w]; rw [c13b0]) | skip)
   have H' := Aside0.mk H
   clear H
   go_wp2_with (first | ((with_reducible refine gate_callee (f := 60) rfl ?_); refine goesL_ (some 19) rfl rfl Try.func60 (by kernel_rfl) rfl #[.pointer (some ⟨g289, 0, none⟩), .int .i64 3] rfl pwk_ ?_; (with_reducible refine (spec_l20Rd_pick.calls k g289 t287 t295 3 t297 t298 w _ ?side1 ?side2 A12.out).mono ?_); (case side1 => repeat (first | (with_reducible first | exact HI289.out | apply IsS103.alloc | apply IsS103.drewN | apply IsS103.drew | apply IsS103.set_1) | exact HI289.out)); (case side2 => repeat (first | (with_reducible first | exact HB.out | apply below_alloc | apply pw_below_drewN | apply below_drew1 | refine below_set ?_ (IsS103.ge HI289.out)) | exact HB.out)); rintro e w15 ⟨rfl, hi, hb, hk⟩; refine ⟨_, rfl, ?_⟩; have n0_ := Aside0.mk (Kd.R_mono (Kd.R_keep (IsS103.apart (show IsS103 w _ g289 t287 t295 from by repeat (first | (with_reducible first | exact HI289.out | apply IsS103.alloc | apply IsS103.drewN | apply IsS103.drew | apply IsS103.set_1) | exact HI289.out)) (by (with_reducible repeat apply Kd.R_alloc); exact HO294.out) (by decide)) hk (fun _ h => h.2)) (fun _ h => h.1)); have n1_ := Aside0.mk (hb); have n2_ := Aside0.mk (hi); clear HO294; clear HB; clear HI289; have HO294 := n0_; have HB := n1_; have HI289 := n2_; clear n0_ n1_ n2_; (try clear hb); (try clear hb2); (try clear hk); (try clear hi)))
   go_meet
   case rel => exact ⟨_, (false), (t298), pwa_, H', ⟨by first | omega | exact Nat.le_refl _⟩, ⟨by repeat (first | (with_reducible first | exact HI289.out | apply IsS103.alloc | apply IsS103.drewN | apply IsS103.drew | apply IsS103.set_1) | exact HI289.out)⟩, ⟨by repeat (first | (with_reducible first | exact HB.out | apply below_alloc | apply pw_below_drewN | apply below_drew1 | refine below_set ?_ (IsS103.ge HI289.out)) | exact HB.out)⟩⟩
 case rest =>
  clear HC6
  try clear c1
  try clear c2
  try clear p2
  try clear c5
  try clear c6
  try clear p6
  try clear c13
  try clear c13b0
  try clear c13b1
  try clear c15
  obtain ⟨kq, x25_5, x290001_5, rfl, HA, HJ5, HI289, HB⟩ := hcut
  cases kq with
  | zero => exact absurd HA.out (by simp [spec_DrawReadTerm.j0])
  | succ kj5 =>
   have H := HA.out
   clear HA
   simp only [spec_DrawReadTerm.j0] at H
   by_cases c16 : x25_5 = true
   ·subst c16
    have H1 : ((spec_l20Rd_pick.f kj5 t287 x290001_5 (t296.size : Int)).bind fun bt299 => (if 0 ≤ bt299.1 then (if bt299.1 ≤ (t296.size : Int) then ((some (([(⟨#[]⟩ : ByteArray), (⟨#[40]⟩ : ByteArray), (⟨#[41]⟩ : ByteArray), (⟨#[38]⟩ : ByteArray), (⟨#[124]⟩ : ByteArray), (⟨#[61]⟩ : ByteArray), (⟨#[33]⟩ : ByteArray), (⟨#[97]⟩ : ByteArray), (⟨#[54]⟩ : ByteArray)] : List ByteArray) : List ByteArray)).bind fun y301 => ((spec_l20Rd_pick.f kj5 t287 bt299.2 9).bind fun bt304 => (if 0 ≤ bt304.1 then (if bt304.1 < (y301.length : Int) then (if (t296.extract 0 (bt299.1 : Int).toNat).size + (rdOf ByteArray.empty y301 bt304.1).size ≤ 9223372036854775807 then ((spec_l20Rd_pick.f kj5 t287 bt304.2 2).bind fun bt307 => (if 0 ≤ (wrap64 (bt299.1 + bt307.1)) then (if (wrap64 (bt299.1 + bt307.1)) ≤ (t296.size : Int) then (if ((t296.extract 0 (bt299.1 : Int).toNat) ++ (rdOf ByteArray.empty y301 bt304.1)).size + (t296.extract ((wrap64 (bt299.1 + bt307.1)) : Int).toNat t296.size).size ≤ 9223372036854775807 then (some ((wrap64 (1 + t290)), ((t296.extract 0 (bt299.1 : Int).toNat) ++ (rdOf ByteArray.empty y301 bt304.1)) ++ (t296.extract ((wrap64 (bt299.1 + bt307.1)) : Int).toNat t296.size))) else (none)) else (none)) else (none))) else (none)) else (none)) else (none)))) else (none)) else (none))) = some (r1, r2) := by rw [if_pos rfl] at H; exact H
    clear H
    have H := H1
    clear H1
    replace H := Option.bind_eq_some_iff.mp H
    obtain ⟨⟨t299, t300⟩, A170, H⟩ := H
    replace H : (if 0 ≤ t299 then (if t299 ≤ (t296.size : Int) then ((some (([(⟨#[]⟩ : ByteArray), (⟨#[40]⟩ : ByteArray), (⟨#[41]⟩ : ByteArray), (⟨#[38]⟩ : ByteArray), (⟨#[124]⟩ : ByteArray), (⟨#[61]⟩ : ByteArray), (⟨#[33]⟩ : ByteArray), (⟨#[97]⟩ : ByteArray), (⟨#[54]⟩ : ByteArray)] : List ByteArray) : List ByteArray)).bind fun y301 => ((spec_l20Rd_pick.f kj5 t287 t300 9).bind fun bt304 => (if 0 ≤ bt304.1 then (if bt304.1 < (y301.length : Int) then (if (t296.extract 0 (t299 : Int).toNat).size + (rdOf ByteArray.empty y301 bt304.1).size ≤ 9223372036854775807 then ((spec_l20Rd_pick.f kj5 t287 bt304.2 2).bind fun bt307 => (if 0 ≤ (wrap64 (t299 + bt307.1)) then (if (wrap64 (t299 + bt307.1)) ≤ (t296.size : Int) then (if ((t296.extract 0 (t299 : Int).toNat) ++ (rdOf ByteArray.empty y301 bt304.1)).size + (t296.extract ((wrap64 (t299 + bt307.1)) : Int).toNat t296.size).size ≤ 9223372036854775807 then (some ((wrap64 (1 + t290)), ((t296.extract 0 (t299 : Int).toNat) ++ (rdOf ByteArray.empty y301 bt304.1)) ++ (t296.extract ((wrap64 (t299 + bt307.1)) : Int).toNat t296.size))) else (none)) else (none)) else (none))) else (none)) else (none)) else (none)))) else (none)) else (none)) = some (r1, r2) := H
    have A17 := Aside0.mk A170
    clear A170
    by_cases c18 : 0 ≤ t299
    ·rw [if_pos c18] at H
     have c18b0 := eq_true c18
     have c18b1 : decide (0 ≤ t299) = true := decide_eq_true c18
     clear c18
     by_cases c19 : t299 ≤ (t296.size : Int)
     ·rw [if_pos c19] at H
      have c19b0 := eq_true c19
      have c19b1 : decide (t299 ≤ (t296.size : Int)) = true := decide_eq_true c19
      clear c19
      obtain ⟨y301, hy301⟩ : ∃ y_ : List ByteArray, y_ = (([(⟨#[]⟩ : ByteArray), (⟨#[40]⟩ : ByteArray), (⟨#[41]⟩ : ByteArray), (⟨#[38]⟩ : ByteArray), (⟨#[124]⟩ : ByteArray), (⟨#[61]⟩ : ByteArray), (⟨#[33]⟩ : ByteArray), (⟨#[97]⟩ : ByteArray), (⟨#[54]⟩ : ByteArray)] : List ByteArray)) := ⟨_, rfl⟩
      replace H : ((spec_l20Rd_pick.f kj5 t287 t300 9).bind fun bt304 => (if 0 ≤ bt304.1 then (if bt304.1 < (y301.length : Int) then (if (t296.extract 0 (t299 : Int).toNat).size + (rdOf ByteArray.empty y301 bt304.1).size ≤ 9223372036854775807 then ((spec_l20Rd_pick.f kj5 t287 bt304.2 2).bind fun bt307 => (if 0 ≤ (wrap64 (t299 + bt307.1)) then (if (wrap64 (t299 + bt307.1)) ≤ (t296.size : Int) then (if ((t296.extract 0 (t299 : Int).toNat) ++ (rdOf ByteArray.empty y301 bt304.1)).size + (t296.extract ((wrap64 (t299 + bt307.1)) : Int).toNat t296.size).size ≤ 9223372036854775807 then (some ((wrap64 (1 + t290)), ((t296.extract 0 (t299 : Int).toNat) ++ (rdOf ByteArray.empty y301 bt304.1)) ++ (t296.extract ((wrap64 (t299 + bt307.1)) : Int).toNat t296.size))) else (none)) else (none)) else (none))) else (none)) else (none)) else (none))) = some (r1, r2) := by first | (rw [hy301]; with_reducible exact H) | (have H2_ := (Option.bind_some _ _).symm.trans H; rw [hy301]; with_reducible exact H2_) | (have H2_ := (Option.bind_some _ _).symm.trans H; with_reducible exact H2_) | with_reducible exact H | (rw [hy301]; exact H) | exact H
      have Ny301 := Aside0.mk hy301
      clear hy301
      replace H := Option.bind_eq_some_iff.mp H
      obtain ⟨⟨t304, t305⟩, A200, H⟩ := H
      replace H : (if 0 ≤ t304 then (if t304 < (y301.length : Int) then (if (t296.extract 0 (t299 : Int).toNat).size + (rdOf ByteArray.empty y301 t304).size ≤ 9223372036854775807 then ((spec_l20Rd_pick.f kj5 t287 t305 2).bind fun bt307 => (if 0 ≤ (wrap64 (t299 + bt307.1)) then (if (wrap64 (t299 + bt307.1)) ≤ (t296.size : Int) then (if ((t296.extract 0 (t299 : Int).toNat) ++ (rdOf ByteArray.empty y301 t304)).size + (t296.extract ((wrap64 (t299 + bt307.1)) : Int).toNat t296.size).size ≤ 9223372036854775807 then (some ((wrap64 (1 + t290)), ((t296.extract 0 (t299 : Int).toNat) ++ (rdOf ByteArray.empty y301 t304)) ++ (t296.extract ((wrap64 (t299 + bt307.1)) : Int).toNat t296.size))) else (none)) else (none)) else (none))) else (none)) else (none)) else (none)) = some (r1, r2) := H
      have A20 := Aside0.mk A200
      clear A200
      by_cases c21 : 0 ≤ t304
      ·rw [if_pos c21] at H
       have c21b0 : decide (0 ≤ t304) = true := decide_eq_true c21
       clear c21
       by_cases c22 : t304 < (y301.length : Int)
       ·rw [if_pos c22] at H
        have c22b0 : decide (t304 < (y301.length : Int)) = true := decide_eq_true c22
        clear c22
        by_cases c23 : (t296.extract 0 (t299 : Int).toNat).size + (rdOf ByteArray.empty y301 t304).size ≤ 9223372036854775807
        ·rw [if_pos c23] at H
         have c23b0 := eq_true c23
         have c23b1 : decide ((t296.extract 0 (t299 : Int).toNat).size + (rdOf ByteArray.empty y301 t304).size ≤ 9223372036854775807) = true := decide_eq_true c23
         try have c23b2 : (9223372036854775807 < (t296.extract 0 (t299 : Int).toNat).size + (rdOf ByteArray.empty y301 t304).size) = False := eq_false (Nat.not_lt.2 c23)
         replace H := Option.bind_eq_some_iff.mp H
         obtain ⟨⟨t307, t308⟩, A240, H⟩ := H
         replace H : (if 0 ≤ (wrap64 (t299 + t307)) then (if (wrap64 (t299 + t307)) ≤ (t296.size : Int) then (if ((t296.extract 0 (t299 : Int).toNat) ++ (rdOf ByteArray.empty y301 t304)).size + (t296.extract ((wrap64 (t299 + t307)) : Int).toNat t296.size).size ≤ 9223372036854775807 then (some ((wrap64 (1 + t290)), ((t296.extract 0 (t299 : Int).toNat) ++ (rdOf ByteArray.empty y301 t304)) ++ (t296.extract ((wrap64 (t299 + t307)) : Int).toNat t296.size))) else (none)) else (none)) else (none)) = some (r1, r2) := H
         have A24 := Aside0.mk A240
         clear A240
         by_cases c25 : 0 ≤ (wrap64 (t299 + t307))
         ·rw [if_pos c25] at H
          have c25b0 := eq_true c25
          have c25b1 : decide (0 ≤ (wrap64 (t299 + t307))) = true := decide_eq_true c25
          by_cases c26 : (wrap64 (t299 + t307)) ≤ (t296.size : Int)
          ·rw [if_pos c26] at H
           have c26b0 := eq_true c26
           have c26b1 : decide ((wrap64 (t299 + t307)) ≤ (t296.size : Int)) = true := decide_eq_true c26
           by_cases c27 : ((t296.extract 0 (t299 : Int).toNat) ++ (rdOf ByteArray.empty y301 t304)).size + (t296.extract ((wrap64 (t299 + t307)) : Int).toNat t296.size).size ≤ 9223372036854775807
           ·rw [if_pos c27] at H
            have c27b0 := eq_true c27
            have c27b1 : decide (((t296.extract 0 (t299 : Int).toNat) ++ (rdOf ByteArray.empty y301 t304)).size + (t296.extract ((wrap64 (t299 + t307)) : Int).toNat t296.size).size ≤ 9223372036854775807) = true := decide_eq_true c27
            try have c27b2 : (9223372036854775807 < ((t296.extract 0 (t299 : Int).toNat) ++ (rdOf ByteArray.empty y301 t304)).size + (t296.extract ((wrap64 (t299 + t307)) : Int).toNat t296.size).size) = False := eq_false (Nat.not_lt.2 c27)
            simp only [Option.some.injEq, Prod.mk.injEq] at H
            obtain ⟨rfl, rfl⟩ := H
            try go_wp2_with (first | ((with_reducible refine gate_callee (f := 60) rfl ?_); refine goesL_ (some 29) rfl rfl Try.func60 (by kernel_rfl) rfl #[.pointer (some ⟨g289, 0, none⟩), .int .i64 (t296.size : Int)] rfl pwk_ ?_; (with_reducible refine (spec_l20Rd_pick.calls kj5 g289 t287 x290001_5 (t296.size : Int) t299 t300 w _ ?side1 ?side2 A17.out).mono ?_); (case side1 => repeat (first | (with_reducible first | exact HI289.out | apply IsS103.alloc | apply IsS103.drewN | apply IsS103.drew | apply IsS103.set_1) | exact HI289.out)); (case side2 => repeat (first | (with_reducible first | exact HB.out | apply below_alloc | apply pw_below_drewN | apply below_drew1 | refine below_set ?_ (IsS103.ge HI289.out)) | exact HB.out)); rintro e w28 ⟨rfl, hi, hb, hk⟩; refine ⟨_, rfl, ?_⟩; have n0_ := Aside0.mk (hb); have n1_ := Aside0.mk (hi); clear HB; clear HI289; have HB := n0_; have HI289 := n1_; clear n0_ n1_; (try clear hb); (try clear hb2); (try clear hk); (try clear hi)))
            have pi306 : (0 ≤ (t304 : Int)) = True := eq_true (of_decide_eq_true pwb_)
            have qi306 : (t304 < (y301.length : Int)) = True := eq_true (of_decide_eq_true pwb_)
            have n0_ := Aside0.mk (IsS103.drew HI289.out)
            have n1_ := Aside0.mk (below_drew1 HB.out)
            clear HI289
            clear HB
            have HI289 := n0_
            have HB := n1_
            clear n0_ n1_
            refine start_ (n := 19) (S := fun w' => True) (ds := []) #[false, false, false, false, false, false, false, false, false, false, false, false, false, false, false, false, false, false, false] (by kernel_rfl) rfl rfl trivial (fun hHeld => ?_); refine with_tabW spec_DrawReadTerm.tab6 spec_DrawReadTerm.bits6 (fun HT_ HW_ => ?_)
            generalize w28.drew = w29 at HI289 HB hHeld ⊢
            refine pure_ (i := 0) (N := some 30) (v := ?_) (a' := ?_) #[true, false, false, false, false, false, false, false, false, false, false, false, false, false, false, false, false, false, false] rfl rfl (any_of HT_.out (by kernel_rfl)) (fun _ _ _ h => h) (Or.inl ⟨by rfl, ?_⟩) ?_ ?_
            rotate_left
            ·intro w'
             go_simp
             with_reducible rfl
            rotate_left
            ·simp only [Act.put, List.setIfInBounds_toArray, List.set_cons_zero, List.set_cons_succ, i64_w, i32_w]
             rfl
            refine pure_ (i := 1) (N := some 31) (v := ?_) (a' := ?_) #[true, true, false, false, false, false, false, false, false, false, false, false, false, false, false, false, false, false, false] rfl rfl (any_of HT_.out (by kernel_rfl)) (fun _ _ _ h => h) (Or.inl ⟨by rfl, ?_⟩) ?_ ?_
            rotate_left
            ·intro w'
             go_simp
             with_reducible rfl
            rotate_left
            ·simp only [Act.put, List.setIfInBounds_toArray, List.set_cons_zero, List.set_cons_succ, i64_w, i32_w]
             rfl
            refine pure_ (i := 2) (N := some 32) (v := ?_) (a' := ?_) #[true, true, true, false, false, false, false, false, false, false, false, false, false, false, false, false, false, false, false] rfl rfl (any_of HT_.out (by kernel_rfl)) (fun _ _ _ h => h) (Or.inl ⟨by rfl, ?_⟩) ?_ ?_
            rotate_left
            ·intro w'
             go_simp
             with_reducible rfl
            rotate_left
            ·simp only [Act.put, List.setIfInBounds_toArray, List.set_cons_zero, List.set_cons_succ, i64_w, i32_w]
             rfl
            refine pure_ (i := 5) (N := some 35) (v := ?_) (a' := ?_) #[true, true, true, false, false, true, false, false, false, false, false, false, false, false, false, false, false, false, false] rfl rfl (any_of HT_.out (by kernel_rfl)) (fun _ _ _ h => h) (Or.inl ⟨by rfl, ?_⟩) ?_ ?_
            rotate_left
            ·intro w'
             go_simp
             with_reducible rfl
            rotate_left
            ·simp only [Act.put, List.setIfInBounds_toArray, List.set_cons_zero, List.set_cons_succ, i64_w, i32_w]
             rfl
            refine pure_ (i := 10) (N := some 40) (v := ?_) (a' := ?_) #[true, true, true, false, false, true, false, false, false, false, true, false, false, false, false, false, false, false, false] rfl rfl (any_of HT_.out (by kernel_rfl)) (fun _ _ _ h => h) (Or.inl ⟨by rfl, ?_⟩) ?_ ?_
            rotate_left
            ·intro w'
             go_simp
             with_reducible rfl
            rotate_left
            ·simp only [Act.put, List.setIfInBounds_toArray, List.set_cons_zero, List.set_cons_succ, i64_w, i32_w]
             rfl
            refine pure_ (i := 11) (N := some 41) (v := ?_) (a' := ?_) #[true, true, true, false, false, true, false, false, false, false, true, true, false, false, false, false, false, false, false] rfl rfl (any_of HT_.out (by kernel_rfl)) (fun _ _ _ h => h) (Or.inl ⟨by rfl, ?_⟩) ?_ ?_
            rotate_left
            ·intro w'
             go_simp
             with_reducible rfl
            rotate_left
            ·simp only [Act.put, List.setIfInBounds_toArray, List.set_cons_zero, List.set_cons_succ, i64_w, i32_w]
             rfl
            refine pure_ (i := 12) (N := some 42) (v := ?_) (a' := ?_) #[true, true, true, false, false, true, false, false, false, false, true, true, true, false, false, false, false, false, false] rfl rfl (any_of HT_.out (by kernel_rfl)) (fun _ _ _ h => h) (Or.inl ⟨by rfl, ?_⟩) ?_ ?_
            rotate_left
            ·intro w'
             go_simp
             with_reducible rfl
            rotate_left
            ·simp only [Act.put, List.setIfInBounds_toArray, List.set_cons_zero, List.set_cons_succ, i64_w, i32_w]
             rfl
            refine inv_at [3, 4, 6, 7, 8, 9, 13, 14, 15, 16, 17, 18] (fun a0_ b a w' => ∃ (v302 : Value) (adz_v302 : Addr) (m7_ : Value), a = putSel a0_ b [(3, 33, .string (t296.extract 0 (t299 : Int).toNat)), (4, 34, v302), (6, 36, .int .i64 t304), (7, 37, m7_), (8, 38, .string (rdOf ByteArray.empty y301 t304)), (9, 39, .string ((t296.extract 0 (t299 : Int).toNat) ++ (rdOf ByteArray.empty y301 t304))), (13, 43, .int .i64 t307), (14, 44, .int .i64 (wrap64 (t299 + t307))), (15, 45, .string (t296.extract ((wrap64 (t299 + t307)) : Int).toNat t296.size)), (16, 46, .string (((t296.extract 0 (t299 : Int).toNat) ++ (rdOf ByteArray.empty y301 t304)) ++ (t296.extract ((wrap64 (t299 + t307)) : Int).toNat t296.size))), (17, 2, .int .i64 (wrap64 (1 + t290))), (18, 3, .string (((t296.extract 0 (t299 : Int).toNat) ++ (rdOf ByteArray.empty y301 t304)) ++ (t296.extract ((wrap64 (t299 + t307)) : Int).toNat t296.size)))] ∧ (b 6 = false → IsS103 w w' g289 t287 t300) ∧ (Below w.heap.size w w') ∧ (b 4 = true → Kd.R Kd.string 9 w' w.heap.size (fun _ => True) v302 y301) ∧ (b 4 = true → ∃ c_, (v302 : Value) = .slice (some adz_v302) y301.length c_) ∧ (b 6 = true → b 13 = false → IsS103 w w' g289 t287 t305) ∧ (b 13 = true → IsS103 w w' g289 t287 t308) ∧ (b 7 = true → (m7_ : Value) = .pointer (some (adz_v302.add (t304).toNat)))) HT_.out HW_.out (by kernel_rfl) (by kernel_rfl) ?_ ?_ ?_
            ·exact ⟨.bool false, ⟨0, 0, none⟩, .bool false, by simp only [putSel, Bool.false_eq_true, if_false], fun _ => HI289.out, HB.out, fun h_ => absurd h_ (by decide), fun h_ => absurd h_ (by decide), fun h_ => absurd h_ (by decide), fun h_ => absurd h_ (by decide), fun h_ => absurd h_ (by decide)⟩
            ·skip
             clear HB HI289
             refine steps_cons ?_ ?_
             ·rintro b a w' ⟨v302, adz_v302, m7_, ha, Q_HI289, Q_HB, Q_HO303, Q_HA_HO303, Q_HI289_e6, Q_HI289_e13, Q_X7_⟩ hb_ hon hoff
              refine ⟨_, rfl, fun K hK => ?_⟩
              have e31 : a.tmps[31]? = some (.string t296) := by rw [ha]; exact (putSel_off rfl).trans rfl
              have e32 : a.tmps[32]? = some (.int .i64 t299) := by rw [ha]; exact (putSel_off rfl).trans rfl
              replace ha := Aside0.mk ha
              have HB := Aside0.mk Q_HB
              refine value_ (w1 := w') (v := .string (t296.extract 0 (t299 : Int).toNat)) (by rfl) rfl ?_ ?_
              ·go_simp
               (try simp only [i64_w])
               try rfl
               first | done | (exact pw_exa (of_eq_true c19b0) c23) | (exact pw_exb (of_eq_true c19b0) c23) | (exact pw_exa (of_eq_true c19b0) c27) | (exact pw_exb (of_eq_true c19b0) c27) | skip
              refine hK.out _ _ ⟨v302, adz_v302, m7_, (by rw [ha.out]; exact putSel_upk 0 hb_ rfl rfl rfl), Q_HI289, Q_HB, Q_HO303, Q_HA_HO303, Q_HI289_e6, Q_HI289_e13, Q_X7_⟩
             refine steps_cons ?_ ?_
             ·rintro b a w' ⟨v302, adz_v302, m7_, ha, Q_HI289, Q_HB, Q_HO303, Q_HA_HO303, Q_HI289_e6, Q_HI289_e13, Q_X7_⟩ hb_ hon hoff
              refine ⟨_, rfl, fun K hK => ?_⟩
              replace ha := Aside0.mk ha
              have HB := Aside0.mk Q_HB
              refine Kd.R_lit_step Kd.string _ 9 ?hg (N := 34) ?hd (xs := ([(⟨#[]⟩ : ByteArray), (⟨#[40]⟩ : ByteArray), (⟨#[41]⟩ : ByteArray), (⟨#[38]⟩ : ByteArray), (⟨#[124]⟩ : ByteArray), (⟨#[61]⟩ : ByteArray), (⟨#[33]⟩ : ByteArray), (⟨#[97]⟩ : ByteArray), (⟨#[54]⟩ : ByteArray)] : List ByteArray)) (inner := [.string (⟨#[]⟩ : ByteArray), .string (⟨#[40]⟩ : ByteArray), .string (⟨#[41]⟩ : ByteArray), .string (⟨#[38]⟩ : ByteArray), .string (⟨#[124]⟩ : ByteArray), .string (⟨#[61]⟩ : ByteArray), .string (⟨#[33]⟩ : ByteArray), .string (⟨#[97]⟩ : ByteArray), .string (⟨#[54]⟩ : ByteArray)]) (ok := fun _ => True) (okp := fun _ => True) ?hr ?hp (fun _ hk => hk) trivial (Below.refl _ _) (Nat.le_refl _) (by simp) ?_; (case hd => rfl); (case hg => rfl); (case hr => first | (go_simp; done) | (go_simp; rfl)); (case hp => exact (Reps.one (show Kd.M Kd.string _ _ _ (⟨#[]⟩ : ByteArray) [.string (⟨#[]⟩ : ByteArray)] from rfl) (Reps.one (show Kd.M Kd.string _ _ _ (⟨#[40]⟩ : ByteArray) [.string (⟨#[40]⟩ : ByteArray)] from rfl) (Reps.one (show Kd.M Kd.string _ _ _ (⟨#[41]⟩ : ByteArray) [.string (⟨#[41]⟩ : ByteArray)] from rfl) (Reps.one (show Kd.M Kd.string _ _ _ (⟨#[38]⟩ : ByteArray) [.string (⟨#[38]⟩ : ByteArray)] from rfl) (Reps.one (show Kd.M Kd.string _ _ _ (⟨#[124]⟩ : ByteArray) [.string (⟨#[124]⟩ : ByteArray)] from rfl) (Reps.one (show Kd.M Kd.string _ _ _ (⟨#[61]⟩ : ByteArray) [.string (⟨#[61]⟩ : ByteArray)] from rfl) (Reps.one (show Kd.M Kd.string _ _ _ (⟨#[33]⟩ : ByteArray) [.string (⟨#[33]⟩ : ByteArray)] from rfl) (Reps.one (show Kd.M Kd.string _ _ _ (⟨#[97]⟩ : ByteArray) [.string (⟨#[97]⟩ : ByteArray)] from rfl) (Reps.one (show Kd.M Kd.string _ _ _ (⟨#[54]⟩ : ByteArray) [.string (⟨#[54]⟩ : ByteArray)] from rfl) (Reps.none _ _)))))))))))
              intro v302 w30 ho31 hb hg_ hnew_
              clear hg_ hnew_
              (first | rw [← Ny301.out] at ho31 | (simp only [Int.reduceToNat] at ho31; rw [← Ny301.out] at ho31))
              have n0_ := Aside0.mk (Kd.R_lower ho31 (below_size pwi_))
              have n2_ := Aside0.mk (below_step pwi_ hb)
              have z_HI289 := fun (h0_ : b 6 = false) => (show IsS103 w w30 g289 t287 t300 from by first | exact (IsS103.below (by repeat (first | (with_reducible first | exact (Q_HI289 h0_) | apply IsS103.alloc | apply IsS103.drewN | apply IsS103.drew | apply IsS103.set_1) | exact (Q_HI289 h0_))) hb))
              have z_HI289_e6 := fun (h0_ : b 6 = true) (h1_ : b 13 = false) => (show IsS103 w w30 g289 t287 t305 from by first | exact (IsS103.below (by repeat (first | (with_reducible first | exact (Q_HI289_e6 h0_ h1_) | apply IsS103.alloc | apply IsS103.drewN | apply IsS103.drew | apply IsS103.set_1) | exact (Q_HI289_e6 h0_ h1_))) hb))
              have z_HI289_e13 := fun (h0_ : b 13 = true) => (show IsS103 w w30 g289 t287 t308 from by first | exact (IsS103.below (by repeat (first | (with_reducible first | exact (Q_HI289_e13 h0_) | apply IsS103.alloc | apply IsS103.drewN | apply IsS103.drew | apply IsS103.set_1) | exact (Q_HI289_e13 h0_))) hb))
              clear HB
              have HO303 := n0_
              have HB := n2_
              clear n0_ n2_
              clear hb ho31
              obtain ⟨Ao32, co32, eo32⟩ := Kd.R_slice HO303.out
              subst eo32
              obtain ⟨ado32, fo32, _⟩ := Kd.at_string (Kd.R_reads' HO303.out).2.2 0 (by decide) (by rw [Ny301.out]; simp)
              cases fo32
              refine hK.out _ _ ⟨.slice (some ado32) y301.length co32, ado32, m7_, (by rw [ha.out]; exact putSel_upk 1 hb_ rfl rfl rfl), z_HI289, pwi_, fun _ => (by (with_reducible repeat apply Kd.R_alloc); exact HO303.out), fun _ => ⟨_, rfl⟩, z_HI289_e6, z_HI289_e13, fun h0_ => absurd ((hoff 7 (by kernel_rfl)).symm.trans h0_) (by decide)⟩
             refine steps_cons ?_ ?_
             ·rintro b a w' ⟨v302, adz_v302, m7_, ha, Q_HI289, Q_HB, Q_HO303, Q_HA_HO303, Q_HI289_e6, Q_HI289_e13, Q_X7_⟩ hb_ hon hoff
              refine ⟨_, rfl, fun K hK => ?_⟩
              have e35 : a.tmps[35]? = some (.pointer (some ⟨g289, 0, none⟩)) := by rw [ha]; exact (putSel_off rfl).trans rfl
              replace ha := Aside0.mk ha
              have HI289 := Aside0.mk (Q_HI289 hb_)
              have HB := Aside0.mk Q_HB
              refine goes_ Try.func60 (by kernel_rfl) rfl #[.pointer (some ⟨g289, 0, none⟩), .int .i64 9] (by rfl) rfl rfl (by first | (simp only [List.map_toArray, List.map_cons, List.map_nil, Act.eval, Array.getD_eq_getD_getElem?, Option.getD_some, e35]; done) | (simp only [List.map_toArray, List.map_cons, List.map_nil, Act.eval, Array.getD_eq_getD_getElem?, Option.getD_some, e35]; rfl)) ?_
              with_reducible refine (spec_l20Rd_pick.calls kj5 g289 t287 t300 9 t304 t305 w _ ?side1 ?side2 A20.out).mono ?_
              (case side1 => repeat (first | (with_reducible first | exact HI289.out | apply IsS103.alloc | apply IsS103.drewN | apply IsS103.drew | apply IsS103.set_1) | exact HI289.out))
              (case side2 => repeat (first | (with_reducible first | exact HB.out | apply below_alloc | apply pw_below_drewN | apply below_drew1 | refine below_set ?_ (IsS103.ge HI289.out)) | exact HB.out))
              rintro e w30 ⟨rfl, hi, hb, hk⟩
              refine ⟨_, rfl, ?_⟩
              have n0_ := Aside0.mk (hb)
              have n1_ := Aside0.mk (hi)
              have z_HO303 := fun (h0_ : b 4 = true) => (show Kd.R Kd.string 9 w30 w.heap.size (fun _ => True) v302 y301 from by first | exact (Kd.R_mono (Kd.R_keep (IsS103.apart (show IsS103 w _ g289 t287 t300 from by repeat (first | (with_reducible first | exact HI289.out | apply IsS103.alloc | apply IsS103.drewN | apply IsS103.drew | apply IsS103.set_1) | exact HI289.out)) (by (with_reducible repeat apply Kd.R_alloc); exact (Q_HO303 h0_)) (by decide)) hk (fun _ h => h.2)) (fun _ h => h.1)) | exact Kd.R_mono (Kd.R_mono (Kd.R_keep (IsS103.apart (show IsS103 w _ g289 t287 t300 from by repeat (first | (with_reducible first | exact HI289.out | apply IsS103.alloc | apply IsS103.drewN | apply IsS103.drew | apply IsS103.set_1) | exact HI289.out)) (by (with_reducible repeat apply Kd.R_alloc); exact (Q_HO303 h0_)) (by decide)) hk (fun _ h => h.2)) (fun _ h => h.1)) (fun _ h_ => by first | trivial | exact h_ | exact h_.1))
              clear HB
              clear HI289
              have HB := n0_
              have HI289 := n1_
              clear n0_ n1_
              (try clear hb)
              (try clear hb2)
              (try clear hk)
              (try clear hi)
              refine hK.out _ _ ⟨v302, adz_v302, m7_, (by rw [ha.out]; exact putSel_upk 2 hb_ rfl rfl rfl), fun h0_ => absurd ((up_self b 6).symm.trans h0_) (by decide), (by repeat (first | (with_reducible first | exact HB.out | apply below_alloc | apply pw_below_drewN | apply below_drew1 | refine below_set ?_ (IsS103.ge HI289.out)) | exact HB.out)), z_HO303, Q_HA_HO303, fun _ _ => (by repeat (first | (with_reducible first | exact HI289.out | apply IsS103.alloc | apply IsS103.drewN | apply IsS103.drew | apply IsS103.set_1) | exact HI289.out)), fun h0_ => absurd ((hoff 13 (by kernel_rfl)).symm.trans h0_) (by decide), fun h0_ => absurd ((hoff 7 (by kernel_rfl)).symm.trans h0_) (by decide)⟩
             refine steps_cons ?_ ?_
             ·rintro b a w' ⟨v302, adz_v302, m7_, ha, Q_HI289, Q_HB, Q_HO303, Q_HA_HO303, Q_HI289_e6, Q_HI289_e13, Q_X7_⟩ hb_ hon hoff
              refine ⟨_, rfl, fun K hK => ?_⟩
              have e34 : a.tmps[34]? = some (v302) := by rw [ha]; exact putSel_on (e := (4, 34, v302)) 1 rfl rfl (hon 4 (by kernel_rfl)) rfl
              have e36 : a.tmps[36]? = some (.int .i64 t304) := by rw [ha]; exact putSel_on (e := (6, 36, .int .i64 t304)) 2 rfl rfl (hon 6 (by kernel_rfl)) rfl
              replace ha := Aside0.mk ha
              have HB := Aside0.mk Q_HB
              have HO303 := Aside0.mk (Q_HO303 (hon 4 (by kernel_rfl)))
              have HA_HO303 := Aside0.mk (Q_HA_HO303 (hon 4 (by kernel_rfl)))
              obtain ⟨c_, hv_⟩ := HA_HO303.out
              rw [hv_] at e34
              refine value_ (w1 := w') (v := .pointer (some (adz_v302.add (t304).toNat))) (by rfl) rfl ?_ ?_
              ·go_simp
               (try simp only [i64_w])
               try rfl
               first | done | (exact pw_exa (of_eq_true c19b0) c23) | (exact pw_exb (of_eq_true c19b0) c23) | (exact pw_exa (of_eq_true c19b0) c27) | (exact pw_exb (of_eq_true c19b0) c27) | skip
              refine hK.out _ _ ⟨v302, adz_v302, (.pointer (some (adz_v302.add (t304).toNat))), (by rw [ha.out]; exact putSel_upk 3 hb_ rfl rfl rfl), fun h0_ => absurd ((hon 6 (by kernel_rfl)).symm.trans h0_) (by decide), Q_HB, Q_HO303, Q_HA_HO303, Q_HI289_e6, Q_HI289_e13, fun _ => rfl⟩
             refine steps_cons ?_ ?_
             ·rintro b a w' ⟨v302, adz_v302, m7_, ha, Q_HI289, Q_HB, Q_HO303, Q_HA_HO303, Q_HI289_e6, Q_HI289_e13, Q_X7_⟩ hb_ hon hoff
              refine ⟨_, rfl, fun K hK => ?_⟩
              have e37 : a.tmps[37]? = some (m7_) := by rw [ha]; exact putSel_on (e := (7, 37, m7_)) 3 rfl rfl (hon 7 (by kernel_rfl)) rfl
              rw [Q_X7_ (hon 7 (by kernel_rfl))] at e37
              replace ha := Aside0.mk ha
              have HB := Aside0.mk Q_HB
              have HO303 := Aside0.mk (Q_HO303 (hon 4 (by kernel_rfl)))
              have HA_HO303 := Aside0.mk (Q_HA_HO303 (hon 4 (by kernel_rfl)))
              obtain ⟨c_, hv_⟩ := HA_HO303.out
              have hF_ := HO303.out
              rw [hv_] at hF_
              obtain ⟨ad_, ea_, hx_⟩ := Kd.at_string (Kd.R_reads' hF_).2.2 t304 (of_eq_true pi306) (of_eq_true qi306)
              cases ea_
              refine value_ (w1 := w') (v := .string (rdOf ByteArray.empty y301 t304)) (by rfl) rfl ?_ ?_
              ·go_simp
               (try simp only [i64_w])
               try rfl
               first | done | (exact pw_exa (of_eq_true c19b0) c23) | (exact pw_exb (of_eq_true c19b0) c23) | (exact pw_exa (of_eq_true c19b0) c27) | (exact pw_exb (of_eq_true c19b0) c27) | skip
              refine hK.out _ _ ⟨v302, adz_v302, m7_, (by rw [ha.out]; exact putSel_upk 4 hb_ rfl rfl rfl), fun h0_ => absurd ((hon 6 (by kernel_rfl)).symm.trans h0_) (by decide), Q_HB, Q_HO303, Q_HA_HO303, Q_HI289_e6, Q_HI289_e13, Q_X7_⟩
             refine steps_cons ?_ ?_
             ·rintro b a w' ⟨v302, adz_v302, m7_, ha, Q_HI289, Q_HB, Q_HO303, Q_HA_HO303, Q_HI289_e6, Q_HI289_e13, Q_X7_⟩ hb_ hon hoff
              refine ⟨_, rfl, fun K hK => ?_⟩
              have e33 : a.tmps[33]? = some (.string (t296.extract 0 (t299 : Int).toNat)) := by rw [ha]; exact putSel_on (e := (3, 33, .string (t296.extract 0 (t299 : Int).toNat))) 0 rfl rfl (hon 3 (by kernel_rfl)) rfl
              have e38 : a.tmps[38]? = some (.string (rdOf ByteArray.empty y301 t304)) := by rw [ha]; exact putSel_on (e := (8, 38, .string (rdOf ByteArray.empty y301 t304))) 4 rfl rfl (hon 8 (by kernel_rfl)) rfl
              replace ha := Aside0.mk ha
              have HB := Aside0.mk Q_HB
              have HO303 := Aside0.mk (Q_HO303 (hon 4 (by kernel_rfl)))
              have HA_HO303 := Aside0.mk (Q_HA_HO303 (hon 4 (by kernel_rfl)))
              refine value_ (w1 := w') (v := .string ((t296.extract 0 (t299 : Int).toNat) ++ (rdOf ByteArray.empty y301 t304))) (by rfl) rfl ?_ ?_
              ·go_simp
               (try simp only [i64_w])
               try rfl
               first | done | (exact pw_exa (of_eq_true c19b0) c23) | (exact pw_exb (of_eq_true c19b0) c23) | (exact pw_exa (of_eq_true c19b0) c27) | (exact pw_exb (of_eq_true c19b0) c27) | skip
              refine hK.out _ _ ⟨v302, adz_v302, m7_, (by rw [ha.out]; exact putSel_upk 5 hb_ rfl rfl rfl), fun h0_ => absurd ((hon 6 (by kernel_rfl)).symm.trans h0_) (by decide), Q_HB, Q_HO303, Q_HA_HO303, Q_HI289_e6, Q_HI289_e13, Q_X7_⟩
             refine steps_cons ?_ ?_
             ·rintro b a w' ⟨v302, adz_v302, m7_, ha, Q_HI289, Q_HB, Q_HO303, Q_HA_HO303, Q_HI289_e6, Q_HI289_e13, Q_X7_⟩ hb_ hon hoff
              refine ⟨_, rfl, fun K hK => ?_⟩
              have e42 : a.tmps[42]? = some (.pointer (some ⟨g289, 0, none⟩)) := by rw [ha]; exact (putSel_off rfl).trans rfl
              replace ha := Aside0.mk ha
              have HB := Aside0.mk Q_HB
              have HI289 := Aside0.mk (Q_HI289_e6 (hon 6 (by kernel_rfl)) hb_)
              refine goes_ Try.func60 (by kernel_rfl) rfl #[.pointer (some ⟨g289, 0, none⟩), .int .i64 2] (by rfl) rfl rfl (by first | (simp only [List.map_toArray, List.map_cons, List.map_nil, Act.eval, Array.getD_eq_getD_getElem?, Option.getD_some, e42]; done) | (simp only [List.map_toArray, List.map_cons, List.map_nil, Act.eval, Array.getD_eq_getD_getElem?, Option.getD_some, e42]; rfl)) ?_
              with_reducible refine (spec_l20Rd_pick.calls kj5 g289 t287 t305 2 t307 t308 w _ ?side1 ?side2 A24.out).mono ?_
              (case side1 => repeat (first | (with_reducible first | exact HI289.out | apply IsS103.alloc | apply IsS103.drewN | apply IsS103.drew | apply IsS103.set_1) | exact HI289.out))
              (case side2 => repeat (first | (with_reducible first | exact HB.out | apply below_alloc | apply pw_below_drewN | apply below_drew1 | refine below_set ?_ (IsS103.ge HI289.out)) | exact HB.out))
              rintro e w32 ⟨rfl, hi, hb, hk⟩
              refine ⟨_, rfl, ?_⟩
              have n0_ := Aside0.mk (hb)
              have n1_ := Aside0.mk (hi)
              have z_HO303 := fun (h0_ : b 4 = true) => (show Kd.R Kd.string 9 w32 w.heap.size (fun _ => True) v302 y301 from by first | exact (Kd.R_mono (Kd.R_keep (IsS103.apart (show IsS103 w _ g289 t287 t305 from by repeat (first | (with_reducible first | exact HI289.out | apply IsS103.alloc | apply IsS103.drewN | apply IsS103.drew | apply IsS103.set_1) | exact HI289.out)) (by (with_reducible repeat apply Kd.R_alloc); exact (Q_HO303 h0_)) (by decide)) hk (fun _ h => h.2)) (fun _ h => h.1)) | exact Kd.R_mono (Kd.R_mono (Kd.R_keep (IsS103.apart (show IsS103 w _ g289 t287 t305 from by repeat (first | (with_reducible first | exact HI289.out | apply IsS103.alloc | apply IsS103.drewN | apply IsS103.drew | apply IsS103.set_1) | exact HI289.out)) (by (with_reducible repeat apply Kd.R_alloc); exact (Q_HO303 h0_)) (by decide)) hk (fun _ h => h.2)) (fun _ h => h.1)) (fun _ h_ => by first | trivial | exact h_ | exact h_.1))
              clear HB
              clear HI289
              have HB := n0_
              have HI289 := n1_
              clear n0_ n1_
              (try clear hb)
              (try clear hb2)
              (try clear hk)
              (try clear hi)
              refine hK.out _ _ ⟨v302, adz_v302, m7_, (by rw [ha.out]; exact putSel_upk 6 hb_ rfl rfl rfl), fun h0_ => absurd ((hon 6 (by kernel_rfl)).symm.trans h0_) (by decide), (by repeat (first | (with_reducible first | exact HB.out | apply below_alloc | apply pw_below_drewN | apply below_drew1 | refine below_set ?_ (IsS103.ge HI289.out)) | exact HB.out)), z_HO303, Q_HA_HO303, fun _ h1_ => absurd ((up_self b 13).symm.trans h1_) (by decide), fun _ => (by repeat (first | (with_reducible first | exact HI289.out | apply IsS103.alloc | apply IsS103.drewN | apply IsS103.drew | apply IsS103.set_1) | exact HI289.out)), Q_X7_⟩
             refine steps_cons ?_ ?_
             ·rintro b a w' ⟨v302, adz_v302, m7_, ha, Q_HI289, Q_HB, Q_HO303, Q_HA_HO303, Q_HI289_e6, Q_HI289_e13, Q_X7_⟩ hb_ hon hoff
              refine ⟨_, rfl, fun K hK => ?_⟩
              have e41 : a.tmps[41]? = some (.int .i64 t299) := by rw [ha]; exact (putSel_off rfl).trans rfl
              have e43 : a.tmps[43]? = some (.int .i64 t307) := by rw [ha]; exact putSel_on (e := (13, 43, .int .i64 t307)) 6 rfl rfl (hon 13 (by kernel_rfl)) rfl
              replace ha := Aside0.mk ha
              have HB := Aside0.mk Q_HB
              have HI289 := Aside0.mk (Q_HI289_e13 (hon 13 (by kernel_rfl)))
              refine value_ (w1 := w') (v := .int .i64 (wrap64 (t299 + t307))) (by rfl) rfl ?_ ?_
              ·go_simp
               (try simp only [i64_w])
               try rfl
               first | done | (exact pw_exa (of_eq_true c19b0) c23) | (exact pw_exb (of_eq_true c19b0) c23) | (exact pw_exa (of_eq_true c19b0) c27) | (exact pw_exb (of_eq_true c19b0) c27) | skip
              refine hK.out _ _ ⟨v302, adz_v302, m7_, (by rw [ha.out]; exact putSel_upk 7 hb_ rfl rfl rfl), fun h0_ => absurd ((hon 6 (by kernel_rfl)).symm.trans h0_) (by decide), Q_HB, Q_HO303, Q_HA_HO303, fun _ h1_ => absurd ((hon 13 (by kernel_rfl)).symm.trans h1_) (by decide), Q_HI289_e13, Q_X7_⟩
             refine steps_cons ?_ ?_
             ·rintro b a w' ⟨v302, adz_v302, m7_, ha, Q_HI289, Q_HB, Q_HO303, Q_HA_HO303, Q_HI289_e6, Q_HI289_e13, Q_X7_⟩ hb_ hon hoff
              refine ⟨_, rfl, fun K hK => ?_⟩
              have e40 : a.tmps[40]? = some (.string t296) := by rw [ha]; exact (putSel_off rfl).trans rfl
              have e44 : a.tmps[44]? = some (.int .i64 (wrap64 (t299 + t307))) := by rw [ha]; exact putSel_on (e := (14, 44, .int .i64 (wrap64 (t299 + t307)))) 7 rfl rfl (hon 14 (by kernel_rfl)) rfl
              replace ha := Aside0.mk ha
              have HB := Aside0.mk Q_HB
              have HI289 := Aside0.mk (Q_HI289_e13 (hon 13 (by kernel_rfl)))
              refine value_ (w1 := w') (v := .string (t296.extract ((wrap64 (t299 + t307)) : Int).toNat t296.size)) (by rfl) rfl ?_ ?_
              ·go_simp
               (try simp only [i64_w])
               try rfl
               first | done | (exact pw_exa (of_eq_true c19b0) c23) | (exact pw_exb (of_eq_true c19b0) c23) | (exact pw_exa (of_eq_true c19b0) c27) | (exact pw_exb (of_eq_true c19b0) c27) | skip
              refine hK.out _ _ ⟨v302, adz_v302, m7_, (by rw [ha.out]; exact putSel_upk 8 hb_ rfl rfl rfl), fun h0_ => absurd ((hon 6 (by kernel_rfl)).symm.trans h0_) (by decide), Q_HB, Q_HO303, Q_HA_HO303, fun _ h1_ => absurd ((hon 13 (by kernel_rfl)).symm.trans h1_) (by decide), Q_HI289_e13, Q_X7_⟩
             refine steps_cons ?_ ?_
             ·rintro b a w' ⟨v302, adz_v302, m7_, ha, Q_HI289, Q_HB, Q_HO303, Q_HA_HO303, Q_HI289_e6, Q_HI289_e13, Q_X7_⟩ hb_ hon hoff
              refine ⟨_, rfl, fun K hK => ?_⟩
              have e39 : a.tmps[39]? = some (.string ((t296.extract 0 (t299 : Int).toNat) ++ (rdOf ByteArray.empty y301 t304))) := by rw [ha]; exact putSel_on (e := (9, 39, .string ((t296.extract 0 (t299 : Int).toNat) ++ (rdOf ByteArray.empty y301 t304)))) 5 rfl rfl (hon 9 (by kernel_rfl)) rfl
              have e45 : a.tmps[45]? = some (.string (t296.extract ((wrap64 (t299 + t307)) : Int).toNat t296.size)) := by rw [ha]; exact putSel_on (e := (15, 45, .string (t296.extract ((wrap64 (t299 + t307)) : Int).toNat t296.size))) 8 rfl rfl (hon 15 (by kernel_rfl)) rfl
              replace ha := Aside0.mk ha
              have HB := Aside0.mk Q_HB
              have HO303 := Aside0.mk (Q_HO303 (hon 4 (by kernel_rfl)))
              have HA_HO303 := Aside0.mk (Q_HA_HO303 (hon 4 (by kernel_rfl)))
              have HI289 := Aside0.mk (Q_HI289_e13 (hon 13 (by kernel_rfl)))
              refine value_ (w1 := w') (v := .string (((t296.extract 0 (t299 : Int).toNat) ++ (rdOf ByteArray.empty y301 t304)) ++ (t296.extract ((wrap64 (t299 + t307)) : Int).toNat t296.size))) (by rfl) rfl ?_ ?_
              ·go_simp
               (try simp only [i64_w])
               try rfl
               first | done | (exact pw_exa (of_eq_true c19b0) c23) | (exact pw_exb (of_eq_true c19b0) c23) | (exact pw_exa (of_eq_true c19b0) c27) | (exact pw_exb (of_eq_true c19b0) c27) | skip
              refine hK.out _ _ ⟨v302, adz_v302, m7_, (by rw [ha.out]; exact putSel_upk 9 hb_ rfl rfl rfl), fun h0_ => absurd ((hon 6 (by kernel_rfl)).symm.trans h0_) (by decide), Q_HB, Q_HO303, Q_HA_HO303, fun _ h1_ => absurd ((hon 13 (by kernel_rfl)).symm.trans h1_) (by decide), Q_HI289_e13, Q_X7_⟩
             refine steps_cons ?_ ?_
             ·rintro b a w' ⟨v302, adz_v302, m7_, ha, Q_HI289, Q_HB, Q_HO303, Q_HA_HO303, Q_HI289_e6, Q_HI289_e13, Q_X7_⟩ hb_ hon hoff
              refine ⟨_, rfl, fun K hK => ?_⟩
              have e30 : a.tmps[30]? = some (.int .i64 (wrap64 (1 + t290))) := by rw [ha]; exact (putSel_off rfl).trans rfl
              replace ha := Aside0.mk ha
              have HB := Aside0.mk Q_HB
              have HI289 := Aside0.mk (Q_HI289_e13 (hon 13 (by kernel_rfl)))
              refine value_ (w1 := w') (v := .int .i64 (wrap64 (1 + t290))) (by rfl) rfl ?_ ?_
              ·go_simp
               (try simp only [i64_w])
               try rfl
               first | done | (exact pw_exa (of_eq_true c19b0) c23) | (exact pw_exb (of_eq_true c19b0) c23) | (exact pw_exa (of_eq_true c19b0) c27) | (exact pw_exb (of_eq_true c19b0) c27) | skip
              refine hK.out _ _ ⟨v302, adz_v302, m7_, (by rw [ha.out]; exact putSel_upk 10 hb_ rfl rfl rfl), fun h0_ => absurd ((hon 6 (by kernel_rfl)).symm.trans h0_) (by decide), Q_HB, Q_HO303, Q_HA_HO303, fun _ h1_ => absurd ((hon 13 (by kernel_rfl)).symm.trans h1_) (by decide), Q_HI289_e13, Q_X7_⟩
             refine steps_cons ?_ ?_
             ·rintro b a w' ⟨v302, adz_v302, m7_, ha, Q_HI289, Q_HB, Q_HO303, Q_HA_HO303, Q_HI289_e6, Q_HI289_e13, Q_X7_⟩ hb_ hon hoff
              refine ⟨_, rfl, fun K hK => ?_⟩
              have e46 : a.tmps[46]? = some (.string (((t296.extract 0 (t299 : Int).toNat) ++ (rdOf ByteArray.empty y301 t304)) ++ (t296.extract ((wrap64 (t299 + t307)) : Int).toNat t296.size))) := by rw [ha]; exact putSel_on (e := (16, 46, .string (((t296.extract 0 (t299 : Int).toNat) ++ (rdOf ByteArray.empty y301 t304)) ++ (t296.extract ((wrap64 (t299 + t307)) : Int).toNat t296.size)))) 9 rfl rfl (hon 16 (by kernel_rfl)) rfl
              replace ha := Aside0.mk ha
              have HB := Aside0.mk Q_HB
              have HO303 := Aside0.mk (Q_HO303 (hon 4 (by kernel_rfl)))
              have HA_HO303 := Aside0.mk (Q_HA_HO303 (hon 4 (by kernel_rfl)))
              have HI289 := Aside0.mk (Q_HI289_e13 (hon 13 (by kernel_rfl)))
              refine value_ (w1 := w') (v := .string (((t296.extract 0 (t299 : Int).toNat) ++ (rdOf ByteArray.empty y301 t304)) ++ (t296.extract ((wrap64 (t299 + t307)) : Int).toNat t296.size))) (by rfl) rfl ?_ ?_
              ·go_simp
               (try simp only [i64_w])
               try rfl
               first | done | (exact pw_exa (of_eq_true c19b0) c23) | (exact pw_exb (of_eq_true c19b0) c23) | (exact pw_exa (of_eq_true c19b0) c27) | (exact pw_exb (of_eq_true c19b0) c27) | skip
              refine hK.out _ _ ⟨v302, adz_v302, m7_, (by rw [ha.out]; exact putSel_upk 11 hb_ rfl rfl rfl), fun h0_ => absurd ((hon 6 (by kernel_rfl)).symm.trans h0_) (by decide), Q_HB, Q_HO303, Q_HA_HO303, fun _ h1_ => absurd ((hon 13 (by kernel_rfl)).symm.trans h1_) (by decide), Q_HI289_e13, Q_X7_⟩
             exact steps_nil
            rintro b a w35 hall ⟨v302, adz_v302, m7_, ha, Q_HI289, Q_HB, Q_HO303, Q_HA_HO303, Q_HI289_e6, Q_HI289_e13, Q_X7_⟩
            clear HB HI289
            have hb3_ := hall 3 (by kernel_rfl)
            have hb4_ := hall 4 (by kernel_rfl)
            have hb6_ := hall 6 (by kernel_rfl)
            have hb7_ := hall 7 (by kernel_rfl)
            have hb8_ := hall 8 (by kernel_rfl)
            have hb9_ := hall 9 (by kernel_rfl)
            have hb13_ := hall 13 (by kernel_rfl)
            have hb14_ := hall 14 (by kernel_rfl)
            have hb15_ := hall 15 (by kernel_rfl)
            have hb16_ := hall 16 (by kernel_rfl)
            have hb17_ := hall 17 (by kernel_rfl)
            have hb18_ := hall 18 (by kernel_rfl)
            subst ha
            obtain rfl := Q_X7_ hb7_
            simp only [putSel, hb3_, hb4_, hb6_, hb7_, hb8_, hb9_, hb13_, hb14_, hb15_, hb16_, hb17_, hb18_, if_true, Act.put, List.setIfInBounds_toArray, List.set_cons_zero, List.set_cons_succ]
            clear Q_HI289
            have HB := Aside0.mk Q_HB
            clear Q_HB
            have HO303 := Aside0.mk (Q_HO303 hb4_)
            clear Q_HO303
            have HA_HO303 := Aside0.mk (Q_HA_HO303 hb4_)
            clear Q_HA_HO303
            clear Q_HI289_e6
            have HI289 := Aside0.mk (Q_HI289_e13 hb13_)
            clear Q_HI289_e13
            clear hall hb3_ hb4_ hb6_ hb7_ hb8_ hb9_ hb13_ hb14_ hb15_ hb16_ hb17_ hb18_
            obtain ⟨co36, eo36⟩ := HA_HO303.out
            clear HA_HO303
            subst eo36
            try go_wp2
            go_ret2
            exact ⟨by first | rfl | (simp [errW_none, errW_some] <;> rfl) | (simp [*, errW_none, errW_some] <;> rfl), by repeat (first | (with_reducible first | exact HB.out | apply below_alloc | apply pw_below_drewN | apply below_drew1 | refine below_set ?_ (IsS103.ge HI289.out)) | exact HB.out)⟩
           ·rw [if_neg c27] at H
            exact absurd H (by simp)
          ·rw [if_neg c26] at H
           exact absurd H (by simp)
         ·rw [if_neg c25] at H
          exact absurd H (by simp)
        ·rw [if_neg c23] at H
         exact absurd H (by simp)
       ·rw [if_neg c22] at H
        exact absurd H (by simp)
      ·rw [if_neg c21] at H
       exact absurd H (by simp)
     ·rw [if_neg c19] at H
      exact absurd H (by simp)
    ·rw [if_neg c18] at H
     exact absurd H (by simp)
   ·replace c16 := Bool.eq_false_iff.mpr c16
    subst c16
    have H1 : (some ((wrap64 (1 + t290)), t296)) = some (r1, r2) := by rw [if_neg (show ¬ (false = true) by decide)] at H; exact H
    clear H
    have H := H1
    clear H1
    simp only [Option.some.injEq, Prod.mk.injEq] at H
    obtain ⟨rfl, rfl⟩ := H
    go_wp2
    go_ret2
    exact ⟨by first | rfl | (simp [errW_none, errW_some] <;> rfl) | (simp [*, errW_none, errW_some] <;> rfl), by repeat (first | (with_reducible first | exact HB.out | apply below_alloc | apply pw_below_drewN | apply below_drew1 | refine below_set ?_ (IsS103.ge HI289.out)) | exact HB.out)⟩

/-! ### impl_peopleOk: function 62 -/
def impl_peopleOk.f (a0 : Int) : Option (Bool) := if a0 ≥ 1 then (some (decide (a0 ≤ 4))) else (some false)
set_option maxHeartbeats 8000000 in
set_option maxRecDepth 100000 in
theorem impl_peopleOk.calls (a0 : Int) (r : Bool) (w : World) (h : impl_peopleOk.f a0 = some r) :
  Calls Try.prog 62 #[.int .i64 a0] w fun e w' => e = .returned (.bool r) ∧ Drawn0 w w' := by
 have H : (if a0 ≥ 1 then (some (decide (a0 ≤ 4))) else (some false)) = some r := h
 clear h
 by_cases c2 : a0 ≥ 1
 ·rw [if_pos c2] at H
  have c2b0 : decide (1 ≤ a0) = true := decide_eq_true c2
  clear c2
  obtain rfl := Option.some.inj H
  go_enter Try.func62, Try.ntmps62
  go_wp2
  go_ret
  exact ⟨pwa_, by repeat (first | exact Drawn0.refl _ | apply Drawn0.step)⟩
 ·rw [if_neg c2] at H
  have c2b0 : decide (1 ≤ a0) = false := decide_eq_false c2
  clear c2
  obtain rfl := Option.some.inj H
  go_enter Try.func62, Try.ntmps62
  go_wp2
  go_ret
  exact ⟨pwa_, by repeat (first | exact Drawn0.refl _ | apply Drawn0.step)⟩

end Go.Proofs.Ytfhmafmfaoknlaa.PFnReadTerm
