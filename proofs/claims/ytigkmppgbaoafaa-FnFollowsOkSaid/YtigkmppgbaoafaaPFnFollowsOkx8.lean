-- Made by a program of this session (wip/tools/patchprint.py), not by the kit itself.
import Derived.Test.YtigkmppgbaoafaaPFnFollowsOkx0
import Derived.Test.YtigkmppgbaoafaaPFnFollowsOkx6
import Derived.Test.YtigkmppgbaoafaaPFnFollowsOkx7
namespace Go.Proofs.Ytigkmppgbaoafaa.PFnFollowsOk
open Go.RowKit Go.Proofs.YtigkmppgbaoafaaW.PrintWords Go.Proofs.YtigkmppgbaoafaaW.PrintLast Go.Proofs.YtigkmppgbaoafaaW.PrintMore
attribute [local go_sem] max2_int min2_int max_two min_two max_three min_three max_four min_four   -- for this text's walks alone
set_option linter.unusedVariables false
set_option linter.unusedSimpArgs false

attribute [local go_sem] setCell_isSome
/-! ### spec_l20Term: function 65 -/
mutual
def spec_l20Term.l0 : Nat → Int → Int → List (List (S41)) → Int → List Int → Int → Option ((List (S41)) × Int)
 | 0, _, _, _, _, _, _ => none
 | k + 1, x1, x2, x7, x8, x1000, x1001 => if x8 > 0 then ((spec_l20Rd_pick.f k x1000 x1001 4).bind fun bt194 => (if bt194.1 = 0 then ((spec_l20Rd_pick.f k x1000 bt194.2 (wrap64 (x1 + 2))).bind fun bt196 => (if x7.length < 5864062014805 then (spec_l20Term.l0 k x1 x2 (x7 ++ [(([(⟨1, bt196.1⟩ : S41)] : List (S41)))]) (wrap64 (x8 - 1)) x1000 bt196.2) else (none))) else ((spec_l20Rd_pick.f k x1000 bt194.2 x1).bind fun bt204 => (if x7.length < 5864062014805 then (spec_l20Term.l0 k x1 x2 (x7 ++ [(([(⟨0, bt204.1⟩ : S41)] : List (S41)))]) (wrap64 (x8 - 1)) x1000 bt204.2) else (none))))) else (spec_l20Term.l1 k x2 x7 3 x1000 x1001)
def spec_l20Term.l1 : Nat → Int → List (List (S41)) → Int → List Int → Int → Option ((List (S41)) × Int)
 | 0, _, _, _, _, _ => none
 | k + 1, x2, x7, x9, x1000, x1001 => if (x7.length : Int) > 1 then ((spec_l20Rd_pick.f k x1000 x1001 (wrap64 ((x7.length : Int) - 1))).bind fun bt212 => (if x9 > 0 then ((spec_l20Rd_pick.f k x1000 bt212.2 4).bind fun bt214 => (if bt214.1 = 0 then ((some (([] : List (S41)) : List (S41))).bind fun y216 => (if 0 ≤ bt212.1 then (if bt212.1 < (x7.length : Int) then (if y216.length + (rd_L3 x7 bt212.1).length < 8796093022208 then ((some (y216 ++ (rd_L3 x7 bt212.1) : List (S41))).bind fun y220 => (if y220.length < 8796093022208 then (spec_l20Term.l1 k x2 (x7.set (bt212.1 : Int).toNat (y220 ++ [(⟨2, 0⟩ : S41)])) (wrap64 (x9 - 1)) x1000 bt214.2) else (none))) else (none)) else (none)) else (none))) else ((some (([] : List (S41)) : List (S41))).bind fun y227 => (if 0 ≤ bt212.1 then (if bt212.1 < (x7.length : Int) then (if y227.length + (rd_L3 x7 bt212.1).length < 8796093022208 then ((some (y227 ++ (rd_L3 x7 bt212.1) : List (S41))).bind fun y231 => (if 0 ≤ (wrap64 (bt212.1 + 1)) then (if (wrap64 (bt212.1 + 1)) < (x7.length : Int) then (if y231.length + (rd_L3 x7 (wrap64 (bt212.1 + 1))).length < 8796093022208 then ((some (y231 ++ (rd_L3 x7 (wrap64 (bt212.1 + 1))) : List (S41))).bind fun y235 => ((spec_l20Rd_pick.f k x1000 bt214.2 3).bind fun bt238 => (if y235.length < 8796093022208 then ((some (([] : List (List (S41))) : List (List (S41)))).bind fun y243 => (if bt212.1 ≤ (x7.length : Int) then ((some (x7.take (bt212.1 : Int).toNat : List (List (S41)))).bind fun y246 => (if y243.length + y246.length < 5864062014805 then ((some (y243 ++ y246 : List (List (S41)))).bind fun y250 => (if y250.length < 5864062014805 then ((some (y250 ++ [(y235 ++ [(⟨wrap64 (3 + bt238.1), 0⟩ : S41)])] : List (List (S41)))).bind fun y253 => (if 0 ≤ (wrap64 (bt212.1 + 2)) then (if (wrap64 (bt212.1 + 2)) ≤ (x7.length : Int) then ((some (x7.drop ((wrap64 (bt212.1 + 2)) : Int).toNat : List (List (S41)))).bind fun y256 => (if y253.length + y256.length < 5864062014805 then (spec_l20Term.l1 k x2 (y253 ++ y256) x9 x1000 bt238.2) else (none))) else (none)) else (none))) else (none))) else (none))) else (none))) else (none)))) else (none)) else (none)) else (none))) else (none)) else (none)) else (none))))) else ((some (([] : List (S41)) : List (S41))).bind fun y263 => (if 0 ≤ bt212.1 then (if bt212.1 < (x7.length : Int) then (if y263.length + (rd_L3 x7 bt212.1).length < 8796093022208 then ((some (y263 ++ (rd_L3 x7 bt212.1) : List (S41))).bind fun y267 => (if 0 ≤ (wrap64 (bt212.1 + 1)) then (if (wrap64 (bt212.1 + 1)) < (x7.length : Int) then (if y267.length + (rd_L3 x7 (wrap64 (bt212.1 + 1))).length < 8796093022208 then ((some (y267 ++ (rd_L3 x7 (wrap64 (bt212.1 + 1))) : List (S41))).bind fun y271 => ((spec_l20Rd_pick.f k x1000 bt212.2 3).bind fun bt274 => (if y271.length < 8796093022208 then ((some (([] : List (List (S41))) : List (List (S41)))).bind fun y279 => (if bt212.1 ≤ (x7.length : Int) then ((some (x7.take (bt212.1 : Int).toNat : List (List (S41)))).bind fun y282 => (if y279.length + y282.length < 5864062014805 then ((some (y279 ++ y282 : List (List (S41)))).bind fun y286 => (if y286.length < 5864062014805 then ((some (y286 ++ [(y271 ++ [(⟨wrap64 (3 + bt274.1), 0⟩ : S41)])] : List (List (S41)))).bind fun y289 => (if 0 ≤ (wrap64 (bt212.1 + 2)) then (if (wrap64 (bt212.1 + 2)) ≤ (x7.length : Int) then ((some (x7.drop ((wrap64 (bt212.1 + 2)) : Int).toNat : List (List (S41)))).bind fun y292 => (if y289.length + y292.length < 5864062014805 then (spec_l20Term.l1 k x2 (y289 ++ y292) x9 x1000 bt274.2) else (none))) else (none)) else (none))) else (none))) else (none))) else (none))) else (none)))) else (none)) else (none)) else (none))) else (none)) else (none)) else (none))))) else (if 0 < (x7.length : Int) then ((spec_l20Rd_pick.f k x1000 x1001 5).bind fun bt300 => (if bt300.1 = 0 then (if (rd_L3 x7 0).length < 8796093022208 then (spec_l20Term.j2 k x2 ((rd_L3 x7 0) ++ [(⟨2, 0⟩ : S41)]) x1000 bt300.2) else (none)) else (spec_l20Term.j2 k x2 (rd_L3 x7 0) x1000 bt300.2))) else (none))
def spec_l20Term.j2 : Nat → Int → List (S41) → List Int → Int → Option ((List (S41)) × Int)
 | 0, _, _, _, _ => none
 | k + 1, x2, x13, x1000, x1001 => (spec_l20Rd_odd.f k x1000 x1001 x2).bind fun bt305 => (if bt305.1 = true then ((spec_l20Rd_pick.f k x1000 bt305.2 3).bind fun bt307 => (if bt307.1 = 0 then (some ((([] : List (S41))), bt307.2)) else (if bt307.1 = 1 then (if x13.length < 8796093022208 then (some ((x13 ++ [(⟨5, 0⟩ : S41)]), bt307.2)) else (none)) else ((spec_l20Rd_pick.f k x1000 bt307.2 2).bind fun bt315 => (if 0 < (x13.length : Int) then (some ((x13.set (0 : Int).toNat (⟨bt315.1, 6⟩ : S41)), bt315.2)) else (none)))))) else (some (x13, bt305.2)))
end
def spec_l20Term.f (k : Nat) (s0_0 : List Int) (s0_1 : Int) (a1 : Int) (a2 : Int) : Option ((List (S41)) × Int) := (spec_l20Rd_pick.f k s0_0 s0_1 4).bind fun bt192 => (spec_l20Term.l0 k (mn (mx a1 1) 4) a2 (([] : List (List (S41)))) (wrap64 (1 + bt192.1)) s0_0 bt192.2)
theorem spec_l20Term.mono_l : ∀ k, (∀ y0 y1 y2 y3 y4 y5, LeO (spec_l20Term.l0 k y0 y1 y2 y3 y4 y5) (spec_l20Term.l0 (k + 1) y0 y1 y2 y3 y4 y5)) ∧ (∀ y0 y1 y2 y3 y4, LeO (spec_l20Term.l1 k y0 y1 y2 y3 y4) (spec_l20Term.l1 (k + 1) y0 y1 y2 y3 y4)) ∧ (∀ y0 y1 y2 y3, LeO (spec_l20Term.j2 k y0 y1 y2 y3) (spec_l20Term.j2 (k + 1) y0 y1 y2 y3))
 | 0 => ⟨fun _ _ _ _ _ _ r h => by simp [spec_l20Term.l0] at h, fun _ _ _ _ _ r h => by simp [spec_l20Term.l1] at h, fun _ _ _ _ r h => by simp [spec_l20Term.j2] at h⟩
 | k + 1 => by
  obtain ⟨ih0, ih1, ih2⟩ := spec_l20Term.mono_l k
  refine ⟨?_, ?_, ?_⟩
  ·intro y0 y1 y2 y3 y4 y5
   unfold spec_l20Term.l0
   repeat' first
   | (with_reducible exact ih0 _ _ _ _ _ _)
   | (with_reducible exact ih1 _ _ _ _ _)
   | (with_reducible exact ih2 _ _ _ _)
   | (with_reducible exact spec_l20Rd_odd.mono _ _ _ _)
   | (with_reducible exact spec_l20Rd_pick.mono _ _ _ _)
   | (with_reducible exact LeO.refl _)
   | (with_reducible exact LeO.none _)
   | (with_reducible refine LeO.ite ?_ ?_)
   | (with_reducible refine LeO.bind ?_ (fun _ => ?_))
   | exact ih0 _ _ _ _ _ _
   | exact ih1 _ _ _ _ _
   | exact ih2 _ _ _ _
   | exact spec_l20Rd_odd.mono _ _ _ _
   | exact spec_l20Rd_pick.mono _ _ _ _
   | exact LeO.none _
   | refine LeO.ite ?_ ?_
   | refine LeO.bind ?_ (fun _ => ?_)
  ·intro y0 y1 y2 y3 y4
   unfold spec_l20Term.l1
   repeat' first
   | (with_reducible exact ih0 _ _ _ _ _ _)
   | (with_reducible exact ih1 _ _ _ _ _)
   | (with_reducible exact ih2 _ _ _ _)
   | (with_reducible exact spec_l20Rd_odd.mono _ _ _ _)
   | (with_reducible exact spec_l20Rd_pick.mono _ _ _ _)
   | (with_reducible exact LeO.refl _)
   | (with_reducible exact LeO.none _)
   | (with_reducible refine LeO.ite ?_ ?_)
   | (with_reducible refine LeO.bind ?_ (fun _ => ?_))
   | exact ih0 _ _ _ _ _ _
   | exact ih1 _ _ _ _ _
   | exact ih2 _ _ _ _
   | exact spec_l20Rd_odd.mono _ _ _ _
   | exact spec_l20Rd_pick.mono _ _ _ _
   | exact LeO.none _
   | refine LeO.ite ?_ ?_
   | refine LeO.bind ?_ (fun _ => ?_)
  ·intro y0 y1 y2 y3
   unfold spec_l20Term.j2
   repeat' first
   | (with_reducible exact ih0 _ _ _ _ _ _)
   | (with_reducible exact ih1 _ _ _ _ _)
   | (with_reducible exact ih2 _ _ _ _)
   | (with_reducible exact spec_l20Rd_odd.mono _ _ _ _)
   | (with_reducible exact spec_l20Rd_pick.mono _ _ _ _)
   | (with_reducible exact LeO.refl _)
   | (with_reducible exact LeO.none _)
   | (with_reducible refine LeO.ite ?_ ?_)
   | (with_reducible refine LeO.bind ?_ (fun _ => ?_))
   | exact ih0 _ _ _ _ _ _
   | exact ih1 _ _ _ _ _
   | exact ih2 _ _ _ _
   | exact spec_l20Rd_odd.mono _ _ _ _
   | exact spec_l20Rd_pick.mono _ _ _ _
   | exact LeO.none _
   | refine LeO.ite ?_ ?_
   | refine LeO.bind ?_ (fun _ => ?_)
theorem spec_l20Term.mono : ∀ a0 a1 a2 a3 k, LeO (spec_l20Term.f k a0 a1 a2 a3) (spec_l20Term.f (k + 1) a0 a1 a2 a3) := by
 intro a0 a1 a2 a3 k
 obtain ⟨ih0, ih1, ih2⟩ := spec_l20Term.mono_l k
 unfold spec_l20Term.f
 repeat' first
   | (with_reducible exact ih0 _ _ _ _ _ _)
   | (with_reducible exact ih1 _ _ _ _ _)
   | (with_reducible exact ih2 _ _ _ _)
   | (with_reducible exact spec_l20Rd_odd.mono _ _ _ _)
   | (with_reducible exact spec_l20Rd_pick.mono _ _ _ _)
   | (with_reducible exact LeO.refl _)
   | (with_reducible exact LeO.none _)
   | (with_reducible refine LeO.ite ?_ ?_)
   | (with_reducible refine LeO.bind ?_ (fun _ => ?_))
   | exact ih0 _ _ _ _ _ _
   | exact ih1 _ _ _ _ _
   | exact ih2 _ _ _ _
   | exact spec_l20Rd_odd.mono _ _ _ _
   | exact spec_l20Rd_pick.mono _ _ _ _
   | exact LeO.none _
   | refine LeO.ite ?_ ?_
   | refine LeO.bind ?_ (fun _ => ?_)
def spec_l20Term.T15 : Bool × List (List Nat × List Nat) := (true, [([], []), ([], []), ([], []), ([1, 2], [1, 2]), ([3], [3]), ([0, 4], [0, 4]), ([], []), ([], []), ([7], [7]), ([6, 8], [6, 8]), ([9], [9]), ([5, 10, 5], [5, 10]), ([], []), ([12, 11], [12]), ([13], [13]), ([14], [14]), ([15], [15]), ([11, 16, 13], [11, 16]), ([17, 17, 0, 1, 2, 3, 4, 5, 6, 7, 8, 9, 10, 11, 12, 13, 14, 15, 16, 17], [17])])
def spec_l20Term.B15 : List Nat := [0, 0, 0, 6, 14, 31, 0, 0, 128, 448, 960, 2047, 0, 8191, 16383, 32767, 65535, 131071, 262143]
theorem spec_l20Term.tab15 : rtab .any (opsOf Try.f65 15) = spec_l20Term.T15 := by kernel_rfl
theorem spec_l20Term.bits15 : waitsOk spec_l20Term.T15.2 spec_l20Term.B15 = true := by kernel_rfl
set_option maxHeartbeats 8000000 in
set_option maxRecDepth 100000 in
theorem spec_l20Term.calls (k : Nat) (g : Nat) (s0_0 : List Int) (s0_1 : Int) (a1 : Int) (a2 : Int) (r1 : List (S41)) (r2 : Int) (w0 w : World) (hI : IsS68 w0 w g s0_0 s0_1) (hB : Below w0.heap.size w0 w) (h : spec_l20Term.f k s0_0 s0_1 a1 a2 = some (r1, r2)) :
  Calls Try.prog 65 #[.pointer (some ⟨g, 0, none⟩), .int .i64 a1, .int .i64 a2] w fun e w' => ∃ v0_ : Value, e = .returned (v0_) ∧ Kd.R k41 41 w' w.heap.size (fun _ => True) v0_ r1 ∧ IsS68 w0 w' g s0_0 r2 ∧ Below w0.heap.size w0 w' ∧ KeepBut w w' g none := by
 have hu41 := Try.underlying41
 have HI0 := Aside0.mk hI
 have HK := Aside0.mk (KeepBut.refl w g none)
 have HL := Aside0.mk hB.size
 clear hI
 have HW0 := Aside0.mk hB.size
 have HB := Aside0.mk hB
 clear hB
 have H : ((spec_l20Rd_pick.f k s0_0 s0_1 4).bind fun bt192 => (spec_l20Term.l0 k (mn (mx a1 1) 4) a2 (([] : List (List (S41)))) (wrap64 (1 + bt192.1)) s0_0 bt192.2)) = some (r1, r2) := h
 clear h
 obtain ⟨ji4, hji4⟩ : ∃ j_ : Int, (mx a1 1) = j_ := ⟨_, rfl⟩
 replace H : ((spec_l20Rd_pick.f k s0_0 s0_1 4).bind fun bt192 => (spec_l20Term.l0 k (mn (ji4) 4) a2 (([] : List (List (S41)))) (wrap64 (1 + bt192.1)) s0_0 bt192.2)) = some (r1, r2) := by first | (rw [hji4] at H; exact H) | (simp only [hji4] at H ⊢; exact H)
 (try (have hji4l : 1 ≤ ji4 := by (rw [← hji4]; unfold mx; (repeat' split) <;> omega)))
 (try (have hji4m : 0 ≤ ji4 := by omega))
 have hji4_ : (if a1 < 1 then 1 else a1) = ji4 := hji4
 obtain ⟨ji5, hji5⟩ : ∃ j_ : Int, (mn (ji4) 4) = j_ := ⟨_, rfl⟩
 replace H : ((spec_l20Rd_pick.f k s0_0 s0_1 4).bind fun bt192 => (spec_l20Term.l0 k ji5 a2 (([] : List (List (S41)))) (wrap64 (1 + bt192.1)) s0_0 bt192.2)) = some (r1, r2) := by first | (rw [hji5] at H; exact H) | (simp only [hji5] at H ⊢; exact H)
 have hji5_ : (if 4 < (ji4) then 4 else (ji4)) = ji5 := hji5
 obtain ⟨y189, hy189⟩ : ∃ y_ : List (List (S41)), y_ = (([] : List (List (S41)))) := ⟨_, rfl⟩
 replace H : ((spec_l20Rd_pick.f k s0_0 s0_1 4).bind fun bt192 => (spec_l20Term.l0 k ji5 a2 y189 (wrap64 (1 + bt192.1)) s0_0 bt192.2)) = some (r1, r2) := by first | (rw [hy189]; with_reducible exact H) | (have H2_ := (Option.bind_some _ _).symm.trans H; rw [hy189]; with_reducible exact H2_) | (have H2_ := (Option.bind_some _ _).symm.trans H; with_reducible exact H2_) | with_reducible exact H | (rw [hy189]; exact H) | exact H
 have Ny189 := Aside0.mk hy189
 clear hy189
 replace H := Option.bind_eq_some_iff.mp H
 obtain ⟨⟨t192, t193⟩, A60, H⟩ := H
 replace H : (spec_l20Term.l0 k ji5 a2 y189 (wrap64 (1 + t192)) s0_0 t193) = some (r1, r2) := H
 have A6 := Aside0.mk A60
 clear A60
 have H' := Aside0.mk H
 clear H
 go_enter Try.func65, Try.ntmps65
 go_wp2_with (first | ((with_reducible refine gate_dst (N := 17) rfl ?_); refine Kd.R_lit (Kd.slice 41 k41) _ 23 ?hg (N := 17) ?hd (xs := ([] : List (List (S41)))) (inner := []) (ok := fun _ => True) (okp := fun _ => True) ?hr ?hp (fun _ hk => hk) trivial (Below.refl _ _) (Nat.le_refl _) (by simp) ?_; (case hd => rfl); (case hg => rfl); (case hr => first | (go_simp; done) | (go_simp; rfl)); (case hp => exact (Reps.none _ _)); intro v190 w7 ho8 hb hg_ hnew_; clear hg_ hnew_; (first | rw [← Ny189.out] at ho8 | (simp only [Int.reduceToNat] at ho8; rw [← Ny189.out] at ho8)); have n0_ := Aside0.mk (Kd.R_lower ho8 (keep_size (w := w) (g := g) (row := none) pwj_)); have n1_ := Aside0.mk (IsS68.below pwk_ hb); have n2_ := Aside0.mk (KeepBut.trans pwj_ (KeepBut.of_below hb g none) (.inl rfl)); have n3_ := Aside0.mk (below_step pwl_ hb); clear HI0; clear HK; clear HB; have HO191 := n0_; have HI0 := n1_; have HK := n2_; have HB := n3_; clear n0_ n1_ n2_ n3_; clear hb ho8) | ((with_reducible refine gate_callee (f := 64) rfl ?_); refine goesL_ (some 19) rfl rfl Try.func64 (by kernel_rfl) rfl #[.pointer (some ⟨g, 0, none⟩), .int .i64 4] rfl pwi_ ?_; (with_reducible refine (spec_l20Rd_pick.calls k g s0_0 s0_1 4 t192 t193 w0 _ ?side1 ?side2 A6.out).mono ?_); (case side1 => repeat (first | (with_reducible first | exact HI0.out | apply IsS68.alloc | apply IsS68.drewN | apply IsS68.drew | apply IsS68.set_1) | exact HI0.out)); (case side2 => repeat (first | (with_reducible first | exact HB.out | apply below_alloc | apply pw_below_drewN | apply below_drew1 | refine below_set ?_ (IsS68.ge HI0.out)) | exact HB.out)); rintro e w9 ⟨rfl, hi, hb, hk⟩; refine ⟨_, rfl, ?_⟩; have n0_ := Aside0.mk (Kd.R_mono (Kd.R_keep (IsS68.apart (show IsS68 w0 _ g s0_0 s0_1 from by repeat (first | (with_reducible first | exact HI0.out | apply IsS68.alloc | apply IsS68.drewN | apply IsS68.drew | apply IsS68.set_1) | exact HI0.out)) (by (with_reducible repeat apply Kd.R_alloc); exact HO191.out) (by decide)) hk (fun _ h => h.2)) (fun _ h => h.1)); have n1_ := Aside0.mk (KeepBut.trans pwj_ hk (.inl rfl)); have n2_ := Aside0.mk (hb); have n3_ := Aside0.mk (hi); clear HO191; clear HK; clear HB; clear HI0; have HO191 := n0_; have HK := n1_; have HB := n2_; have HI0 := n3_; clear n0_ n1_ n2_ n3_; (try clear hb); (try clear hb2); (try clear hk); (try clear hi)))
 go_loopg [7, 8] k (fun kq v7 v8 w' => ∃ (x7_1 : List (List (S41))) (x8_1 : Int) (x1001_1 : Int), v8 = .int .i64 x8_1 ∧ Aside0 (spec_l20Term.l0 kq ji5 a2 x7_1 x8_1 s0_0 x1001_1 = some (r1, r2)) ∧ Aside0 (kq ≤ k) ∧ Aside0 (Kd.R (Kd.slice 41 k41) 23 w' w.heap.size (fun _ => True) v7 x7_1) ∧ Aside0 (IsS68 w0 w' g s0_0 x1001_1) ∧ Aside0 (KeepBut w w' g none) ∧ Aside0 (Below w0.heap.size w0 w'))
 case atStart => exact ⟨(y189), (wrap64 (1 + t192)), (t193), pwa_, H', ⟨Nat.le_refl _⟩, ⟨by (with_reducible repeat apply Kd.R_alloc); exact HO191.out⟩, ⟨pwk_⟩, ⟨pwj_⟩, ⟨pwl_⟩⟩
 case round =>
  clear H'
  try clear p2
  try clear c6
  try clear p6
  obtain ⟨x7_1, x8_1, x1001_1, rfl, HA, HK1, HO_7, HI0, HK, HB⟩ := hrel
  cases gk with
  | zero => exact absurd HA.out (by simp [spec_l20Term.l0])
  | succ k1 =>
   have H := HA.out
   clear HA
   simp only [spec_l20Term.l0] at H
   by_cases c10 : x8_1 > 0
   ·rw [if_pos c10] at H
    have c10b0 : decide (0 < x8_1) = true := decide_eq_true c10
    clear c10
    replace H := Option.bind_eq_some_iff.mp H
    obtain ⟨⟨t194, t195⟩, A110, H⟩ := H
    replace H : (if t194 = 0 then ((spec_l20Rd_pick.f k1 s0_0 t195 (wrap64 (ji5 + 2))).bind fun bt196 => (if x7_1.length < 5864062014805 then (spec_l20Term.l0 k1 ji5 a2 (x7_1 ++ [(([(⟨1, bt196.1⟩ : S41)] : List (S41)))]) (wrap64 (x8_1 - 1)) s0_0 bt196.2) else (none))) else ((spec_l20Rd_pick.f k1 s0_0 t195 ji5).bind fun bt204 => (if x7_1.length < 5864062014805 then (spec_l20Term.l0 k1 ji5 a2 (x7_1 ++ [(([(⟨0, bt204.1⟩ : S41)] : List (S41)))]) (wrap64 (x8_1 - 1)) s0_0 bt204.2) else (none)))) = some (r1, r2) := H
    have A11 := Aside0.mk A110
    clear A110
    by_cases c12 : t194 = 0
    ·rw [if_pos c12] at H
     have c12b0 : (t194 == 0) = true := beq_iff_eq.mpr c12
     have c12b1 : (t194 != 0) = false := bne_eq_false_iff_eq.mpr c12
     clear c12
     replace H := Option.bind_eq_some_iff.mp H
     obtain ⟨⟨t196, t197⟩, A130, H⟩ := H
     replace H : (if x7_1.length < 5864062014805 then (spec_l20Term.l0 k1 ji5 a2 (x7_1 ++ [(([(⟨1, t196⟩ : S41)] : List (S41)))]) (wrap64 (x8_1 - 1)) s0_0 t197) else (none)) = some (r1, r2) := H
     have A13 := Aside0.mk A130
     clear A130
     obtain ⟨y198, hy198⟩ : ∃ y_ : List (S41), y_ = (([(⟨1, t196⟩ : S41)] : List (S41))) := ⟨_, rfl⟩
     replace H : (if x7_1.length < 5864062014805 then (spec_l20Term.l0 k1 ji5 a2 (x7_1 ++ [y198]) (wrap64 (x8_1 - 1)) s0_0 t197) else (none)) = some (r1, r2) := by first | (rw [hy198]; with_reducible exact H) | (have H2_ := (Option.bind_some _ _).symm.trans H; rw [hy198]; with_reducible exact H2_) | (have H2_ := (Option.bind_some _ _).symm.trans H; with_reducible exact H2_) | with_reducible exact H | (rw [hy198]; exact H) | exact H
     have Ny198 := Aside0.mk hy198
     clear hy198
     by_cases c14 : x7_1.length < 5864062014805
     ·rw [if_pos c14] at H
      have LMc14 := Aside0.mk c14
      clear c14
      obtain ⟨y201, hy201⟩ : ∃ y_ : List (List (S41)), y_ = (x7_1 ++ [y198]) := ⟨_, rfl⟩
      replace H : (spec_l20Term.l0 k1 ji5 a2 y201 (wrap64 (x8_1 - 1)) s0_0 t197) = some (r1, r2) := by first | (rw [hy201]; with_reducible exact H) | (have H2_ := (Option.bind_some _ _).symm.trans H; rw [hy201]; with_reducible exact H2_) | (have H2_ := (Option.bind_some _ _).symm.trans H; with_reducible exact H2_) | with_reducible exact H | (rw [hy201]; exact H) | exact H
      have Ny201 := Aside0.mk hy201
      clear hy201
      have H' := Aside0.mk H
      clear H
      go_wp2_with (first | ((with_reducible refine gate_callee (f := 64) rfl ?_); refine goesL_ (some 26) rfl rfl Try.func64 (by kernel_rfl) rfl #[.pointer (some ⟨g, 0, none⟩), .int .i64 4] rfl pwi_ ?_; (with_reducible refine (spec_l20Rd_pick.calls k1 g s0_0 x1001_1 4 t194 t195 w0 _ ?side1 ?side2 A11.out).mono ?_); (case side1 => repeat (first | (with_reducible first | exact HI0.out | apply IsS68.alloc | apply IsS68.drewN | apply IsS68.drew | apply IsS68.set_1) | exact HI0.out)); (case side2 => repeat (first | (with_reducible first | exact HB.out | apply below_alloc | apply pw_below_drewN | apply below_drew1 | refine below_set ?_ (IsS68.ge HI0.out)) | exact HB.out)); rintro e w15 ⟨rfl, hi, hb, hk⟩; refine ⟨_, rfl, ?_⟩; have n0_ := Aside0.mk (Kd.R_mono (Kd.R_keep (IsS68.apart (show IsS68 w0 _ g s0_0 x1001_1 from by repeat (first | (with_reducible first | exact HI0.out | apply IsS68.alloc | apply IsS68.drewN | apply IsS68.drew | apply IsS68.set_1) | exact HI0.out)) pwe_ (by decide)) hk (fun _ h => h.2)) (fun _ h => h.1)); have n1_ := Aside0.mk (KeepBut.trans pwj_ hk (.inl rfl)); have n2_ := Aside0.mk (hb); have n3_ := Aside0.mk (hi); clear HO_7; clear HK; clear HB; clear HI0; have HO_7 := n0_; have HK := n1_; have HB := n2_; have HI0 := n3_; clear n0_ n1_ n2_ n3_; (try clear hb); (try clear hb2); (try clear hk); (try clear hi)) | ((with_reducible refine gate_callee (f := 64) rfl ?_); refine goesL_ (some 32) rfl rfl Try.func64 (by kernel_rfl) rfl #[.pointer (some ⟨g, 0, none⟩), .int .i64 (wrap64 (ji5 + 2))] rfl (by (try simp only [List.map_toArray, List.map_cons, List.map_nil]); first | done | (simp only [show wrap64 (ji5 + 2) = ji5 + 2 from (by have h4_ := hji5_; unfold wrap64; split at h4_ <;> omega)]; rfl) | (simp only [hji5]; rfl) | rfl | (simp only [List.length_drop, List.length_take]; rfl)) ?_; (with_reducible refine (spec_l20Rd_pick.calls k1 g s0_0 t195 (wrap64 (ji5 + 2)) t196 t197 w0 _ ?side1 ?side2 A13.out).mono ?_); (case side1 => repeat (first | (with_reducible first | exact HI0.out | apply IsS68.alloc | apply IsS68.drewN | apply IsS68.drew | apply IsS68.set_1) | exact HI0.out)); (case side2 => repeat (first | (with_reducible first | exact HB.out | apply below_alloc | apply pw_below_drewN | apply below_drew1 | refine below_set ?_ (IsS68.ge HI0.out)) | exact HB.out)); rintro e w16 ⟨rfl, hi, hb, hk⟩; refine ⟨_, rfl, ?_⟩; have n0_ := Aside0.mk (Kd.R_mono (Kd.R_keep (IsS68.apart (show IsS68 w0 _ g s0_0 t195 from by repeat (first | (with_reducible first | exact HI0.out | apply IsS68.alloc | apply IsS68.drewN | apply IsS68.drew | apply IsS68.set_1) | exact HI0.out)) pwe_ (by decide)) hk (fun _ h => h.2)) (fun _ h => h.1)); have n1_ := Aside0.mk (KeepBut.trans pwj_ hk (.inl rfl)); have n2_ := Aside0.mk (hb); have n3_ := Aside0.mk (hi); clear HO_7; clear HK; clear HB; clear HI0; have HO_7 := n0_; have HK := n1_; have HB := n2_; have HI0 := n3_; clear n0_ n1_ n2_ n3_; (try clear hb); (try clear hb2); (try clear hk); (try clear hi)) | ((with_reducible refine gate_dst (N := 34) rfl ?_); refine Kd.R_lit k41 _ 41 ?hg (N := 34) ?hd (xs := ([(⟨1, t196⟩ : S41)] : List (S41))) (inner := [.int .i64 1, .int .i64 t196]) (ok := fun _ => True) (okp := fun _ => True) ?hr ?hp (fun _ hk => hk) trivial (Below.refl _ _) (Nat.le_refl _) (by simp) ?_; (case hd => rfl); (case hg => rfl); (case hr => first | (go_simp; done) | (go_simp; rfl)); (case hp => exact (Reps.c2 (show Kd.M k41 _ _ _ (⟨1, t196⟩ : S41) [.int .i64 1, .int .i64 t196] from (k41_mkM _ _ _ (⟨1, t196⟩ : S41) )) (Reps.none _ _))); intro v199 w17 ho18 hb hg_ hnew_; clear hg_ hnew_; (first | rw [← Ny198.out] at ho18 | (simp only [Int.reduceToNat] at ho18; rw [← Ny198.out] at ho18)); have n0_ := Aside0.mk (Kd.R_elder' pwe_ (Kd.R_base ho18) hb); have n1_ := Aside0.mk (Kd.R_lower ho18 (keep_size (w := w) (g := g) (row := none) pwj_)); have n2_ := Aside0.mk (IsS68.below pwk_ hb); have n3_ := Aside0.mk (KeepBut.trans pwj_ (KeepBut.of_below hb g none) (.inl rfl)); have n4_ := Aside0.mk (below_step pwl_ hb); clear HO_7; clear HI0; clear HK; clear HB; have HO_7 := n0_; have HO200 := n1_; have HI0 := n2_; have HK := n3_; have HB := n4_; clear n0_ n1_ n2_ n3_ n4_; clear hb ho18; obtain ⟨Ao20, co20, eo20⟩ := Kd.R_slice HO200.out; subst eo20) | ((with_reducible refine gate_builtin (b := .append) (xs := #[.tmp 28, .tmp 35]) rfl ?_); at_builtin; refine Kd.R_append (Kd.slice 41 k41) w.heap.size rfl (.tmp 28) (.tmp 35) 72 23 (.slice none 0 0) 24 rfl Try.underlying72 info23 rfl (by decide) (by omega) u7 x7_1 y198 [.slice Ao20 y198.length co20] (fun _ => True) (fun k_ => ((fun _ => True)) k_ ∧ some k_ ≠ (u7 : Value).ownBlock) rfl rfl ?aP (fun _ hk => hk) ?aF ?aO (Below.refl _ _) ?aS ?aL ?_; (case aP => exact Kd.M_row (Kd.R_mono (Kd.R_apart' (HO200.out) (Kd.R_typed HO_7.out) (by decide)) (fun k_ hk => ⟨trivial, hk.2⟩))); (case aF => exact (fun _ _ => trivial)); (case aO => exact (by (with_reducible repeat apply Kd.R_alloc); exact Kd.R_mono HO_7.out (fun _ hk => trivial))); (case aS => exact (keep_size (w := w) (g := g) (row := none) pwj_)); (case aL => have := LMc14.out; omega); intro v202 w19 ho hb hg hat; rw [← Ny201.out] at ho; have n0_ := Aside0.mk (IsS68.grown pwk_ hg (IsS68.own_ne HI0.out HO_7.out (by decide))); have n1_ := Aside0.mk (below_weaken pwl_ HL.out hb); have n2_ := Aside0.mk (KeepBut.trans pwj_ (KeepBut.of_grown hg g) (Kd.R_base2 HO_7.out)); have n3_ := Aside0.mk (ho); clear HI0; clear HB; clear HK; clear HO_7; clear HO200; have HI0 := n0_; have HB := n1_; have HK := n2_; have HO203 := n3_; clear n0_ n1_ n2_ n3_; clear ho hb hg hat))
      go_roundg k1
      case measure => have := HK1.out; omega
      case rel => exact ⟨(y201), (wrap64 (x8_1 - 1)), (t197), pwa_, H', ⟨by have := HK1.out; omega⟩, ⟨by (with_reducible repeat apply Kd.R_alloc); exact HO203.out⟩, ⟨pwk_⟩, ⟨pwj_⟩, ⟨pwl_⟩⟩
     ·rw [if_neg c14] at H
      exact absurd H (by simp)
    ·rw [if_neg c12] at H
     have c12b0 : (t194 == 0) = false := beq_eq_false_iff_ne.mpr c12
     have c12b1 : (t194 != 0) = true := bne_iff_ne.mpr c12
     replace H := Option.bind_eq_some_iff.mp H
     obtain ⟨⟨t204, t205⟩, A210, H⟩ := H
     replace H : (if x7_1.length < 5864062014805 then (spec_l20Term.l0 k1 ji5 a2 (x7_1 ++ [(([(⟨0, t204⟩ : S41)] : List (S41)))]) (wrap64 (x8_1 - 1)) s0_0 t205) else (none)) = some (r1, r2) := H
     have A21 := Aside0.mk A210
     clear A210
     obtain ⟨y206, hy206⟩ : ∃ y_ : List (S41), y_ = (([(⟨0, t204⟩ : S41)] : List (S41))) := ⟨_, rfl⟩
     replace H : (if x7_1.length < 5864062014805 then (spec_l20Term.l0 k1 ji5 a2 (x7_1 ++ [y206]) (wrap64 (x8_1 - 1)) s0_0 t205) else (none)) = some (r1, r2) := by first | (rw [hy206]; with_reducible exact H) | (have H2_ := (Option.bind_some _ _).symm.trans H; rw [hy206]; with_reducible exact H2_) | (have H2_ := (Option.bind_some _ _).symm.trans H; with_reducible exact H2_) | with_reducible exact H | (rw [hy206]; exact H) | exact H
     have Ny206 := Aside0.mk hy206
     clear hy206
     by_cases c22 : x7_1.length < 5864062014805
     ·rw [if_pos c22] at H
      have LMc22 := Aside0.mk c22
      clear c22
      obtain ⟨y209, hy209⟩ : ∃ y_ : List (List (S41)), y_ = (x7_1 ++ [y206]) := ⟨_, rfl⟩
      replace H : (spec_l20Term.l0 k1 ji5 a2 y209 (wrap64 (x8_1 - 1)) s0_0 t205) = some (r1, r2) := by first | (rw [hy209]; with_reducible exact H) | (have H2_ := (Option.bind_some _ _).symm.trans H; rw [hy209]; with_reducible exact H2_) | (have H2_ := (Option.bind_some _ _).symm.trans H; with_reducible exact H2_) | with_reducible exact H | (rw [hy209]; exact H) | exact H
      have Ny209 := Aside0.mk hy209
      clear hy209
      have H' := Aside0.mk H
      clear H
      go_wp2_with (first | ((with_reducible refine gate_callee (f := 64) rfl ?_); refine goesL_ (some 26) rfl rfl Try.func64 (by kernel_rfl) rfl #[.pointer (some ⟨g, 0, none⟩), .int .i64 4] rfl pwi_ ?_; (with_reducible refine (spec_l20Rd_pick.calls k1 g s0_0 x1001_1 4 t194 t195 w0 _ ?side1 ?side2 A11.out).mono ?_); (case side1 => repeat (first | (with_reducible first | exact HI0.out | apply IsS68.alloc | apply IsS68.drewN | apply IsS68.drew | apply IsS68.set_1) | exact HI0.out)); (case side2 => repeat (first | (with_reducible first | exact HB.out | apply below_alloc | apply pw_below_drewN | apply below_drew1 | refine below_set ?_ (IsS68.ge HI0.out)) | exact HB.out)); rintro e w23 ⟨rfl, hi, hb, hk⟩; refine ⟨_, rfl, ?_⟩; have n0_ := Aside0.mk (Kd.R_mono (Kd.R_keep (IsS68.apart (show IsS68 w0 _ g s0_0 x1001_1 from by repeat (first | (with_reducible first | exact HI0.out | apply IsS68.alloc | apply IsS68.drewN | apply IsS68.drew | apply IsS68.set_1) | exact HI0.out)) pwe_ (by decide)) hk (fun _ h => h.2)) (fun _ h => h.1)); have n1_ := Aside0.mk (KeepBut.trans pwj_ hk (.inl rfl)); have n2_ := Aside0.mk (hb); have n3_ := Aside0.mk (hi); clear HO_7; clear HK; clear HB; clear HI0; have HO_7 := n0_; have HK := n1_; have HB := n2_; have HI0 := n3_; clear n0_ n1_ n2_ n3_; (try clear hb); (try clear hb2); (try clear hk); (try clear hi)) | ((with_reducible refine gate_callee (f := 64) rfl ?_); refine goesL_ (some 40) rfl rfl Try.func64 (by kernel_rfl) rfl #[.pointer (some ⟨g, 0, none⟩), .int .i64 ji5] rfl (by (try simp only [List.map_toArray, List.map_cons, List.map_nil]); first | done | (simp only [hji5]; rfl) | rfl | (simp only [List.length_drop, List.length_take]; rfl)) ?_; (with_reducible refine (spec_l20Rd_pick.calls k1 g s0_0 t195 ji5 t204 t205 w0 _ ?side1 ?side2 A21.out).mono ?_); (case side1 => repeat (first | (with_reducible first | exact HI0.out | apply IsS68.alloc | apply IsS68.drewN | apply IsS68.drew | apply IsS68.set_1) | exact HI0.out)); (case side2 => repeat (first | (with_reducible first | exact HB.out | apply below_alloc | apply pw_below_drewN | apply below_drew1 | refine below_set ?_ (IsS68.ge HI0.out)) | exact HB.out)); rintro e w24 ⟨rfl, hi, hb, hk⟩; refine ⟨_, rfl, ?_⟩; have n0_ := Aside0.mk (Kd.R_mono (Kd.R_keep (IsS68.apart (show IsS68 w0 _ g s0_0 t195 from by repeat (first | (with_reducible first | exact HI0.out | apply IsS68.alloc | apply IsS68.drewN | apply IsS68.drew | apply IsS68.set_1) | exact HI0.out)) pwe_ (by decide)) hk (fun _ h => h.2)) (fun _ h => h.1)); have n1_ := Aside0.mk (KeepBut.trans pwj_ hk (.inl rfl)); have n2_ := Aside0.mk (hb); have n3_ := Aside0.mk (hi); clear HO_7; clear HK; clear HB; clear HI0; have HO_7 := n0_; have HK := n1_; have HB := n2_; have HI0 := n3_; clear n0_ n1_ n2_ n3_; (try clear hb); (try clear hb2); (try clear hk); (try clear hi)) | ((with_reducible refine gate_dst (N := 42) rfl ?_); refine Kd.R_lit k41 _ 41 ?hg (N := 42) ?hd (xs := ([(⟨0, t204⟩ : S41)] : List (S41))) (inner := [.int .i64 0, .int .i64 t204]) (ok := fun _ => True) (okp := fun _ => True) ?hr ?hp (fun _ hk => hk) trivial (Below.refl _ _) (Nat.le_refl _) (by simp) ?_; (case hd => rfl); (case hg => rfl); (case hr => first | (go_simp; done) | (go_simp; rfl)); (case hp => exact (Reps.c2 (show Kd.M k41 _ _ _ (⟨0, t204⟩ : S41) [.int .i64 0, .int .i64 t204] from (k41_mkM _ _ _ (⟨0, t204⟩ : S41) )) (Reps.none _ _))); intro v207 w25 ho26 hb hg_ hnew_; clear hg_ hnew_; (first | rw [← Ny206.out] at ho26 | (simp only [Int.reduceToNat] at ho26; rw [← Ny206.out] at ho26)); have n0_ := Aside0.mk (Kd.R_elder' pwe_ (Kd.R_base ho26) hb); have n1_ := Aside0.mk (Kd.R_lower ho26 (keep_size (w := w) (g := g) (row := none) pwj_)); have n2_ := Aside0.mk (IsS68.below pwk_ hb); have n3_ := Aside0.mk (KeepBut.trans pwj_ (KeepBut.of_below hb g none) (.inl rfl)); have n4_ := Aside0.mk (below_step pwl_ hb); clear HO_7; clear HI0; clear HK; clear HB; have HO_7 := n0_; have HO208 := n1_; have HI0 := n2_; have HK := n3_; have HB := n4_; clear n0_ n1_ n2_ n3_ n4_; clear hb ho26; obtain ⟨Ao28, co28, eo28⟩ := Kd.R_slice HO208.out; subst eo28) | ((with_reducible refine gate_builtin (b := .append) (xs := #[.tmp 37, .tmp 43]) rfl ?_); at_builtin; refine Kd.R_append (Kd.slice 41 k41) w.heap.size rfl (.tmp 37) (.tmp 43) 72 23 (.slice none 0 0) 24 rfl Try.underlying72 info23 rfl (by decide) (by omega) u7 x7_1 y206 [.slice Ao28 y206.length co28] (fun _ => True) (fun k_ => ((fun _ => True)) k_ ∧ some k_ ≠ (u7 : Value).ownBlock) rfl rfl ?aP (fun _ hk => hk) ?aF ?aO (Below.refl _ _) ?aS ?aL ?_; (case aP => exact Kd.M_row (Kd.R_mono (Kd.R_apart' (HO208.out) (Kd.R_typed HO_7.out) (by decide)) (fun k_ hk => ⟨trivial, hk.2⟩))); (case aF => exact (fun _ _ => trivial)); (case aO => exact (by (with_reducible repeat apply Kd.R_alloc); exact Kd.R_mono HO_7.out (fun _ hk => trivial))); (case aS => exact (keep_size (w := w) (g := g) (row := none) pwj_)); (case aL => have := LMc22.out; omega); intro v210 w27 ho hb hg hat; rw [← Ny209.out] at ho; have n0_ := Aside0.mk (IsS68.grown pwk_ hg (IsS68.own_ne HI0.out HO_7.out (by decide))); have n1_ := Aside0.mk (below_weaken pwl_ HL.out hb); have n2_ := Aside0.mk (KeepBut.trans pwj_ (KeepBut.of_grown hg g) (Kd.R_base2 HO_7.out)); have n3_ := Aside0.mk (ho); clear HI0; clear HB; clear HK; clear HO_7; clear HO208; have HI0 := n0_; have HB := n1_; have HK := n2_; have HO211 := n3_; clear n0_ n1_ n2_ n3_; clear ho hb hg hat))
      go_roundg k1
      case measure => have := HK1.out; omega
      case rel => exact ⟨(y209), (wrap64 (x8_1 - 1)), (t205), pwa_, H', ⟨by have := HK1.out; omega⟩, ⟨by (with_reducible repeat apply Kd.R_alloc); exact HO211.out⟩, ⟨pwk_⟩, ⟨pwj_⟩, ⟨pwl_⟩⟩
     ·rw [if_neg c22] at H
      exact absurd H (by simp)
   ·rw [if_neg c10] at H
    have c10b0 : decide (0 < x8_1) = false := decide_eq_false c10
    clear c10
    have H' := Aside0.mk H
    clear H
    go_wp2
    go_loopg [7, 9] k1 (fun kq v7 v9 w' => ∃ (x7_2 : List (List (S41))) (x9_2 : Int) (x1001_2 : Int), v9 = .int .i64 x9_2 ∧ Aside0 (spec_l20Term.l1 kq a2 x7_2 x9_2 s0_0 x1001_2 = some (r1, r2)) ∧ Aside0 (kq ≤ k1) ∧ Aside0 (Kd.R (Kd.slice 41 k41) 23 w' w.heap.size (fun _ => True) v7 x7_2) ∧ Aside0 (IsS68 w0 w' g s0_0 x1001_2) ∧ Aside0 (KeepBut w w' g none) ∧ Aside0 (Below w0.heap.size w0 w'))
    case atStart => exact ⟨(x7_1), (3), (x1001_1), pwa_, H', ⟨Nat.le_refl _⟩, ⟨pwe_⟩, ⟨pwk_⟩, ⟨pwj_⟩, ⟨pwl_⟩⟩
    case round =>
     clear H'
     try clear c1
     try clear c2
     try clear p2
     try clear c6
     try clear p6
     try clear c10
     try clear c10b0
     try clear c12
     try clear c12b0
     try clear c12b1
     try clear c14
     try clear c22
     try clear p2
     try clear p6
     obtain ⟨x7_2, x9_2, x1001_2, rfl, HA, HK2, HO_7, HI0, HK, HB⟩ := hrel
     cases gk with
     | zero => exact absurd HA.out (by simp [spec_l20Term.l1])
     | succ k2 =>
      have H := HA.out
      clear HA
      simp only [spec_l20Term.l1] at H
      by_cases c29 : (x7_2.length : Int) > 1
      ·rw [if_pos c29] at H
       have c29b0 : decide (1 < (x7_2.length : Int)) = true := decide_eq_true c29
       have c29b1 : decide (1 < x7_2.length) = true := decide_eq_true (by omega)
       clear c29
       replace H := Option.bind_eq_some_iff.mp H
       obtain ⟨⟨t212, t213⟩, A300, H⟩ := H
       replace H : (if x9_2 > 0 then ((spec_l20Rd_pick.f k2 s0_0 t213 4).bind fun bt214 => (if bt214.1 = 0 then ((some (([] : List (S41)) : List (S41))).bind fun y216 => (if 0 ≤ t212 then (if t212 < (x7_2.length : Int) then (if y216.length + (rd_L3 x7_2 t212).length < 8796093022208 then ((some (y216 ++ (rd_L3 x7_2 t212) : List (S41))).bind fun y220 => (if y220.length < 8796093022208 then (spec_l20Term.l1 k2 a2 (x7_2.set (t212 : Int).toNat (y220 ++ [(⟨2, 0⟩ : S41)])) (wrap64 (x9_2 - 1)) s0_0 bt214.2) else (none))) else (none)) else (none)) else (none))) else ((some (([] : List (S41)) : List (S41))).bind fun y227 => (if 0 ≤ t212 then (if t212 < (x7_2.length : Int) then (if y227.length + (rd_L3 x7_2 t212).length < 8796093022208 then ((some (y227 ++ (rd_L3 x7_2 t212) : List (S41))).bind fun y231 => (if 0 ≤ (wrap64 (t212 + 1)) then (if (wrap64 (t212 + 1)) < (x7_2.length : Int) then (if y231.length + (rd_L3 x7_2 (wrap64 (t212 + 1))).length < 8796093022208 then ((some (y231 ++ (rd_L3 x7_2 (wrap64 (t212 + 1))) : List (S41))).bind fun y235 => ((spec_l20Rd_pick.f k2 s0_0 bt214.2 3).bind fun bt238 => (if y235.length < 8796093022208 then ((some (([] : List (List (S41))) : List (List (S41)))).bind fun y243 => (if t212 ≤ (x7_2.length : Int) then ((some (x7_2.take (t212 : Int).toNat : List (List (S41)))).bind fun y246 => (if y243.length + y246.length < 5864062014805 then ((some (y243 ++ y246 : List (List (S41)))).bind fun y250 => (if y250.length < 5864062014805 then ((some (y250 ++ [(y235 ++ [(⟨wrap64 (3 + bt238.1), 0⟩ : S41)])] : List (List (S41)))).bind fun y253 => (if 0 ≤ (wrap64 (t212 + 2)) then (if (wrap64 (t212 + 2)) ≤ (x7_2.length : Int) then ((some (x7_2.drop ((wrap64 (t212 + 2)) : Int).toNat : List (List (S41)))).bind fun y256 => (if y253.length + y256.length < 5864062014805 then (spec_l20Term.l1 k2 a2 (y253 ++ y256) x9_2 s0_0 bt238.2) else (none))) else (none)) else (none))) else (none))) else (none))) else (none))) else (none)))) else (none)) else (none)) else (none))) else (none)) else (none)) else (none))))) else ((some (([] : List (S41)) : List (S41))).bind fun y263 => (if 0 ≤ t212 then (if t212 < (x7_2.length : Int) then (if y263.length + (rd_L3 x7_2 t212).length < 8796093022208 then ((some (y263 ++ (rd_L3 x7_2 t212) : List (S41))).bind fun y267 => (if 0 ≤ (wrap64 (t212 + 1)) then (if (wrap64 (t212 + 1)) < (x7_2.length : Int) then (if y267.length + (rd_L3 x7_2 (wrap64 (t212 + 1))).length < 8796093022208 then ((some (y267 ++ (rd_L3 x7_2 (wrap64 (t212 + 1))) : List (S41))).bind fun y271 => ((spec_l20Rd_pick.f k2 s0_0 t213 3).bind fun bt274 => (if y271.length < 8796093022208 then ((some (([] : List (List (S41))) : List (List (S41)))).bind fun y279 => (if t212 ≤ (x7_2.length : Int) then ((some (x7_2.take (t212 : Int).toNat : List (List (S41)))).bind fun y282 => (if y279.length + y282.length < 5864062014805 then ((some (y279 ++ y282 : List (List (S41)))).bind fun y286 => (if y286.length < 5864062014805 then ((some (y286 ++ [(y271 ++ [(⟨wrap64 (3 + bt274.1), 0⟩ : S41)])] : List (List (S41)))).bind fun y289 => (if 0 ≤ (wrap64 (t212 + 2)) then (if (wrap64 (t212 + 2)) ≤ (x7_2.length : Int) then ((some (x7_2.drop ((wrap64 (t212 + 2)) : Int).toNat : List (List (S41)))).bind fun y292 => (if y289.length + y292.length < 5864062014805 then (spec_l20Term.l1 k2 a2 (y289 ++ y292) x9_2 s0_0 bt274.2) else (none))) else (none)) else (none))) else (none))) else (none))) else (none))) else (none)))) else (none)) else (none)) else (none))) else (none)) else (none)) else (none)))) = some (r1, r2) := H
       have A30 := Aside0.mk A300
       clear A300
       by_cases c31 : x9_2 > 0
       ·rw [if_pos c31] at H
        have c31b0 : decide (0 < x9_2) = true := decide_eq_true c31
        clear c31
        replace H := Option.bind_eq_some_iff.mp H
        obtain ⟨⟨t214, t215⟩, A320, H⟩ := H
        replace H : (if t214 = 0 then ((some (([] : List (S41)) : List (S41))).bind fun y216 => (if 0 ≤ t212 then (if t212 < (x7_2.length : Int) then (if y216.length + (rd_L3 x7_2 t212).length < 8796093022208 then ((some (y216 ++ (rd_L3 x7_2 t212) : List (S41))).bind fun y220 => (if y220.length < 8796093022208 then (spec_l20Term.l1 k2 a2 (x7_2.set (t212 : Int).toNat (y220 ++ [(⟨2, 0⟩ : S41)])) (wrap64 (x9_2 - 1)) s0_0 t215) else (none))) else (none)) else (none)) else (none))) else ((some (([] : List (S41)) : List (S41))).bind fun y227 => (if 0 ≤ t212 then (if t212 < (x7_2.length : Int) then (if y227.length + (rd_L3 x7_2 t212).length < 8796093022208 then ((some (y227 ++ (rd_L3 x7_2 t212) : List (S41))).bind fun y231 => (if 0 ≤ (wrap64 (t212 + 1)) then (if (wrap64 (t212 + 1)) < (x7_2.length : Int) then (if y231.length + (rd_L3 x7_2 (wrap64 (t212 + 1))).length < 8796093022208 then ((some (y231 ++ (rd_L3 x7_2 (wrap64 (t212 + 1))) : List (S41))).bind fun y235 => ((spec_l20Rd_pick.f k2 s0_0 t215 3).bind fun bt238 => (if y235.length < 8796093022208 then ((some (([] : List (List (S41))) : List (List (S41)))).bind fun y243 => (if t212 ≤ (x7_2.length : Int) then ((some (x7_2.take (t212 : Int).toNat : List (List (S41)))).bind fun y246 => (if y243.length + y246.length < 5864062014805 then ((some (y243 ++ y246 : List (List (S41)))).bind fun y250 => (if y250.length < 5864062014805 then ((some (y250 ++ [(y235 ++ [(⟨wrap64 (3 + bt238.1), 0⟩ : S41)])] : List (List (S41)))).bind fun y253 => (if 0 ≤ (wrap64 (t212 + 2)) then (if (wrap64 (t212 + 2)) ≤ (x7_2.length : Int) then ((some (x7_2.drop ((wrap64 (t212 + 2)) : Int).toNat : List (List (S41)))).bind fun y256 => (if y253.length + y256.length < 5864062014805 then (spec_l20Term.l1 k2 a2 (y253 ++ y256) x9_2 s0_0 bt238.2) else (none))) else (none)) else (none))) else (none))) else (none))) else (none))) else (none)))) else (none)) else (none)) else (none))) else (none)) else (none)) else (none)))) = some (r1, r2) := H
        have A32 := Aside0.mk A320
        clear A320
        by_cases c33 : t214 = 0
        ·rw [if_pos c33] at H
         have c33b0 : (t214 == 0) = true := beq_iff_eq.mpr c33
         have c33b1 : (t214 != 0) = false := bne_eq_false_iff_eq.mpr c33
         clear c33
         obtain ⟨y216, hy216⟩ : ∃ y_ : List (S41), y_ = (([] : List (S41))) := ⟨_, rfl⟩
         replace H : (if 0 ≤ t212 then (if t212 < (x7_2.length : Int) then (if y216.length + (rd_L3 x7_2 t212).length < 8796093022208 then ((some (y216 ++ (rd_L3 x7_2 t212) : List (S41))).bind fun y220 => (if y220.length < 8796093022208 then (spec_l20Term.l1 k2 a2 (x7_2.set (t212 : Int).toNat (y220 ++ [(⟨2, 0⟩ : S41)])) (wrap64 (x9_2 - 1)) s0_0 t215) else (none))) else (none)) else (none)) else (none)) = some (r1, r2) := by first | (rw [hy216]; with_reducible exact H) | (have H2_ := (Option.bind_some _ _).symm.trans H; rw [hy216]; with_reducible exact H2_) | (have H2_ := (Option.bind_some _ _).symm.trans H; with_reducible exact H2_) | with_reducible exact H | (rw [hy216]; exact H) | exact H
         have Ny216 := Aside0.mk hy216
         clear hy216
         by_cases c34 : 0 ≤ t212
         ·rw [if_pos c34] at H
          have c34b0 : decide (0 ≤ t212) = true := decide_eq_true c34
          clear c34
          by_cases c35 : t212 < (x7_2.length : Int)
          ·rw [if_pos c35] at H
           have c35b0 : decide (t212 < (x7_2.length : Int)) = true := decide_eq_true c35
           clear c35
           by_cases c36 : y216.length + (rd_L3 x7_2 t212).length < 8796093022208
           ·rw [if_pos c36] at H
            have LMc36 := Aside0.mk c36
            clear c36
            obtain ⟨y220, hy220⟩ : ∃ y_ : List (S41), y_ = (y216 ++ (rd_L3 x7_2 t212)) := ⟨_, rfl⟩
            replace H : (if y220.length < 8796093022208 then (spec_l20Term.l1 k2 a2 (x7_2.set (t212 : Int).toNat (y220 ++ [(⟨2, 0⟩ : S41)])) (wrap64 (x9_2 - 1)) s0_0 t215) else (none)) = some (r1, r2) := by first | (rw [hy220]; with_reducible exact H) | (have H2_ := (Option.bind_some _ _).symm.trans H; rw [hy220]; with_reducible exact H2_) | (have H2_ := (Option.bind_some _ _).symm.trans H; with_reducible exact H2_) | with_reducible exact H | (rw [hy220]; exact H) | exact H
            have Ny220 := Aside0.mk hy220
            clear hy220
            by_cases c37 : y220.length < 8796093022208
            ·rw [if_pos c37] at H
             have LMc37 := Aside0.mk c37
             clear c37
             obtain ⟨y223, hy223⟩ : ∃ y_ : List (S41), y_ = (y220 ++ [(⟨2, 0⟩ : S41)]) := ⟨_, rfl⟩
             replace H : (spec_l20Term.l1 k2 a2 (x7_2.set (t212 : Int).toNat y223) (wrap64 (x9_2 - 1)) s0_0 t215) = some (r1, r2) := by first | (rw [hy223]; with_reducible exact H) | (have H2_ := (Option.bind_some _ _).symm.trans H; rw [hy223]; with_reducible exact H2_) | (have H2_ := (Option.bind_some _ _).symm.trans H; with_reducible exact H2_) | with_reducible exact H | (rw [hy223]; exact H) | exact H
             have Ny223 := Aside0.mk hy223
             clear hy223
             obtain ⟨y226, hy226⟩ : ∃ y_ : List (List (S41)), y_ = (x7_2.set (t212 : Int).toNat y223) := ⟨_, rfl⟩
             replace H : (spec_l20Term.l1 k2 a2 y226 (wrap64 (x9_2 - 1)) s0_0 t215) = some (r1, r2) := by first | (rw [hy226]; with_reducible exact H) | (have H2_ := (Option.bind_some _ _).symm.trans H; rw [hy226]; with_reducible exact H2_) | (have H2_ := (Option.bind_some _ _).symm.trans H; with_reducible exact H2_) | with_reducible exact H | (rw [hy226]; exact H) | exact H
             have Ny226 := Aside0.mk hy226
             clear hy226
             have H' := Aside0.mk H
             clear H
             obtain ⟨Ao39, co39, eo39⟩ := Kd.R_slice HO_7.out
             subst eo39
             go_wp2_with (first | ((with_reducible refine gate_callee (f := 64) rfl ?_); refine goesL_ (some 52) rfl rfl Try.func64 (by kernel_rfl) rfl #[.pointer (some ⟨g, 0, none⟩), .int .i64 (wrap64 ((x7_2.length : Int) - 1))] rfl pwi_ ?_; (with_reducible refine (spec_l20Rd_pick.calls k2 g s0_0 x1001_2 (wrap64 ((x7_2.length : Int) - 1)) t212 t213 w0 _ ?side1 ?side2 A30.out).mono ?_); (case side1 => repeat (first | (with_reducible first | exact HI0.out | apply IsS68.alloc | apply IsS68.drewN | apply IsS68.drew | apply IsS68.set_1) | exact HI0.out)); (case side2 => repeat (first | (with_reducible first | exact HB.out | apply below_alloc | apply pw_below_drewN | apply below_drew1 | refine below_set ?_ (IsS68.ge HI0.out)) | exact HB.out)); rintro e w40 ⟨rfl, hi, hb, hk⟩; refine ⟨_, rfl, ?_⟩; have n0_ := Aside0.mk (Kd.R_mono (Kd.R_keep (IsS68.apart (show IsS68 w0 _ g s0_0 x1001_2 from by repeat (first | (with_reducible first | exact HI0.out | apply IsS68.alloc | apply IsS68.drewN | apply IsS68.drew | apply IsS68.set_1) | exact HI0.out)) pwe_ (by decide)) hk (fun _ h => h.2)) (fun _ h => h.1)); have n1_ := Aside0.mk (KeepBut.trans pwj_ hk (.inl rfl)); have n2_ := Aside0.mk (hb); have n3_ := Aside0.mk (hi); clear HO_7; clear HK; clear HB; clear HI0; have HO_7 := n0_; have HK := n1_; have HB := n2_; have HI0 := n3_; clear n0_ n1_ n2_ n3_; (try clear hb); (try clear hb2); (try clear hk); (try clear hi)) | (go_at_call 64; (with_reducible refine (spec_l20Rd_pick.calls k2 g s0_0 t213 4 t214 t215 w0 _ ?side1 ?side2 A32.out).mono ?_); (case side1 => repeat (first | (with_reducible first | exact HI0.out | apply IsS68.alloc | apply IsS68.drewN | apply IsS68.drew | apply IsS68.set_1) | exact HI0.out)); (case side2 => repeat (first | (with_reducible first | exact HB.out | apply below_alloc | apply pw_below_drewN | apply below_drew1 | refine below_set ?_ (IsS68.ge HI0.out)) | exact HB.out)); rintro e w41 ⟨rfl, hi, hb, hk⟩; have n0_ := Aside0.mk (Kd.R_mono (Kd.R_keep (IsS68.apart (show IsS68 w0 _ g s0_0 t213 from by repeat (first | (with_reducible first | exact HI0.out | apply IsS68.alloc | apply IsS68.drewN | apply IsS68.drew | apply IsS68.set_1) | exact HI0.out)) pwe_ (by decide)) hk (fun _ h => h.2)) (fun _ h => h.1)); have n1_ := Aside0.mk (KeepBut.trans pwj_ hk (.inl rfl)); have n2_ := Aside0.mk (hb); have n3_ := Aside0.mk (hi); clear HO_7; clear HK; clear HB; clear HI0; have HO_7 := n0_; have HK := n1_; have HB := n2_; have HI0 := n3_; clear n0_ n1_ n2_ n3_; (try clear hb); (try clear hb2); (try clear hk); (try clear hi)) | ((with_reducible refine gate_dst (N := 64) rfl ?_); refine Kd.R_lit k41 _ 41 ?hg (N := 64) ?hd (xs := ([] : List (S41))) (inner := []) (ok := fun _ => True) (okp := fun _ => True) ?hr ?hp (fun _ hk => hk) trivial (Below.refl _ _) (Nat.le_refl _) (by simp) ?_; (case hd => rfl); (case hg => rfl); (case hr => first | (go_simp; done) | (go_simp; rfl)); (case hp => exact (Reps.none _ _)); intro v217 w42 ho43 hb hg_ hnew_; clear hg_ hnew_; (first | rw [← Ny216.out] at ho43 | (simp only [Int.reduceToNat] at ho43; rw [← Ny216.out] at ho43)); have n0_ := Aside0.mk (Kd.R_elder' pwe_ (Kd.R_base ho43) hb); have n1_ := Aside0.mk (Kd.R_lower ho43 (keep_size (w := w) (g := g) (row := none) pwj_)); have n2_ := Aside0.mk (IsS68.below pwk_ hb); have n3_ := Aside0.mk (KeepBut.trans pwj_ (KeepBut.of_below hb g none) (.inl rfl)); have n4_ := Aside0.mk (below_step pwl_ hb); clear HO_7; clear HI0; clear HK; clear HB; have HO_7 := n0_; have HO218 := n1_; have HI0 := n2_; have HK := n3_; have HB := n4_; clear n0_ n1_ n2_ n3_ n4_; clear hb ho43; have p219 : 0 ≤ (t212 : Int) := of_decide_eq_true pwb_; have q219 : t212 < (x7_2.length : Int) := of_decide_eq_true pwb_; obtain ⟨ad219, A219_0, c219_0, e219, hx219_0, hl219_0, hi219_0⟩ := at_L3 (Kd.R_reads' HO_7.out).2.2 t212 p219 q219; cases e219; obtain ⟨ce219, hce219, hMe219, hcc219⟩ := Kd.R_get HO_7.out [] t212 p219 (by first | exact q219 | exact of_decide_eq_true pwb_ | (have e_ := (Kd.R_reads' HO_7.out).1; omega)); obtain ⟨ve219_0, rfl, ge219_0⟩ := hMe219; have hv219_0 := hcc219 0 _ rfl; rw [Nat.add_zero, show ((Kd.slice 41 k41)).sz = 1 from rfl, Nat.mul_one] at hv219_0; replace hv219_0 := Option.some.inj (hv219_0.symm.trans hx219_0); rw [hv219_0] at ge219_0; have HL219_0 := Aside0.mk (show Kd.R k41 41 _ _ _ _ (rd_L3 x7_2 t212) from ge219_0); clear hv219_0 ge219_0; clear hcc219 hce219; have HR219_0 := Aside0.mk hi219_0; have HC219_0 := Aside0.mk hl219_0; clear hi219_0 hl219_0; replace p219 := eq_true p219; replace q219 := eq_true q219) | ((with_reducible refine gate_builtin (b := .append) (xs := #[.tmp 64, .tmp 68]) rfl ?_); at_builtin; refine Kd.R_append_rows k41 w.heap.size rfl (.tmp 64) (.tmp 68) 23 41 (.agg #[(.int .i64 0), (.int .i64 0)]) 16 rfl Try.underlying23 info41 rfl (by decide) (by omega) v217 y216 (rd_L3 x7_2 t212) _ _ _ (fun _ => True) (fun _ => False) rfl rfl ?aO ?aR (fun _ _ h => h) (fun _ h => h.elim) ?aF (Below.refl _ _) ?aS ?aL ?_; (case aR => repeat (first | exact (by repeat (first | (with_reducible exact HR219_0.out) | (with_reducible refine Kd.C_alloc ?_ _) | (with_reducible refine Kd.C_drewN ?_ _) | (with_reducible refine Kd.C_drew ?_) | exact HR219_0.out)) | (with_reducible refine Kd.C_alloc ?_ _) | (with_reducible refine Kd.C_drewN ?_ _) | (with_reducible refine Kd.C_drew ?_))); (case aF => exact (fun _ _ => trivial)); (case aO => exact (by (with_reducible repeat apply Kd.R_alloc); exact HO218.out)); (case aS => exact (keep_size (w := w) (g := g) (row := none) pwj_)); (case aL => have := LMc36.out; omega); intro v221 w44 ho hb hg hat; rw [← Ny220.out] at ho; have n0_ := Aside0.mk (Kd.R_after (ok := (fun _ => True)) pwe_ hg hat); have n1_ := Aside0.mk (IsS68.grown pwk_ hg (IsS68.own_ne HI0.out HO218.out (by decide))); have n2_ := Aside0.mk (Kd.R_after (ok := (fun k_ => some k_ ≠ (.slice (some ad219) x7_2.length co39 : Value).ownBlock)) (by (with_reducible repeat apply Kd.R_alloc); exact Kd.R_mono HL219_0.out (fun _ hk => ⟨hk.2, hk.1.2⟩)) hg hat); have n3_ := Aside0.mk (below_weaken pwl_ HL.out hb); have n4_ := Aside0.mk (KeepBut.trans pwj_ (KeepBut.of_grown hg g) (Kd.R_base2 HO218.out)); have n5_ := Aside0.mk (ho); clear HO_7; clear HI0; clear HL219_0; clear HB; clear HK; clear HO218; have HO_7 := n0_; have HI0 := n1_; have HL219_0 := n2_; have HB := n3_; have HK := n4_; have HO222 := n5_; clear n0_ n1_ n2_ n3_ n4_ n5_; clear ho hb hg hat) | ((with_reducible refine gate_builtin (b := .append) (xs := #[.tmp 69, .tmp 71]) rfl ?_); at_builtin; refine Kd.R_append k41 w.heap.size rfl (.tmp 69) (.tmp 71) 23 41 (.agg #[(.int .i64 0), (.int .i64 0)]) 16 rfl Try.underlying23 info41 rfl (by decide) (by omega) v221 y220 (⟨2, 0⟩ : S41) [.int .i64 2, .int .i64 0] (fun _ => True) (fun _ => False) rfl rfl ?aP (fun _ hk => hk.elim) ?aF ?aO (Below.refl _ _) ?aS ?aL ?_; (case aP => exact k41_mkM _ _ _ (⟨2, 0⟩ : S41)); (case aF => exact (fun _ _ => trivial)); (case aO => exact (by (with_reducible repeat apply Kd.R_alloc); exact HO222.out)); (case aS => exact (keep_size (w := w) (g := g) (row := none) pwj_)); (case aL => have := LMc37.out; omega); intro v224 w45 ho hb hg hat; rw [← Ny223.out] at ho; have n0_ := Aside0.mk (Kd.R_after (ok := (fun _ => True)) pwe_ hg hat); have n1_ := Aside0.mk (IsS68.grown pwk_ hg (IsS68.own_ne HI0.out HO222.out (by decide))); have n2_ := Aside0.mk (Kd.R_after (ok := (fun k_ => some k_ ≠ (.slice (some ad219) x7_2.length co39 : Value).ownBlock)) (by (with_reducible repeat apply Kd.R_alloc); exact HL219_0.out) hg hat); have n3_ := Aside0.mk (below_weaken pwl_ HL.out hb); have n4_ := Aside0.mk (KeepBut.trans pwj_ (KeepBut.of_grown hg g) (Kd.R_base2 HO222.out)); have n5_ := Aside0.mk (ho); clear HO_7; clear HI0; clear HL219_0; clear HB; clear HK; clear HO222; have HO_7 := n0_; have HI0 := n1_; have HL219_0 := n2_; have HB := n3_; have HK := n4_; have HO225 := n5_; clear n0_ n1_ n2_ n3_ n4_ n5_; clear ho hb hg hat; have p38 : 0 ≤ (t212 : Int) := of_decide_eq_true pwb_; have q38 : (t212 : Int) < ((x7_2.length : Int) : Int) := of_decide_eq_true pwb_; obtain ⟨go38, co38, eo38, gb38, gl38, cl38, HG38⟩ := Kd.R_form HO_7.out (by omega); (first | cases eo38 | (injection eo38 with ea_ en_ ec_; (first | subst ea_ | (injection ea_ with ea_; subst ea_)); subst ec_; clear en_)); have GB38 := Aside0.mk gb38; have GG38 := Aside0.mk HG38; clear gb38 gl38 HG38; (first | simp only [add_plain] at hx219_0 | skip); obtain ⟨ce38, hcl38, hM38, hcc38, hfr38⟩ := Kd.R_elem HO_7.out [] (t212 : Int) p38 q38; obtain ⟨ve38_0, rfl, ge38_0⟩ := hM38; have hx38_0 := hcc38 0 _ rfl; have hf38_0 := hfr38 0; (try simp only [show ((Kd.slice 41 k41)).sz = 1 from rfl, Nat.mul_one, Nat.add_zero] at hx38_0); (try simp only [show ((Kd.slice 41 k41)).sz = 1 from rfl, Nat.mul_one, Nat.add_zero] at hf38_0); clear hcl38 hcc38 hfr38; (try clear hM38); skip; replace p38 := eq_true p38; replace q38 := eq_true q38; have n_ := Aside0.mk (Kd.R_mono (ok' := (fun k_ => some k_ ≠ (v224 : Value).ownBlock)) HO_7.out (fun k_ hk => hk.2)); clear HO_7; have HO_7 := n_; clear n_; have HX46 := Aside0.mk (show Kd.R (Kd.slice 41 k41) 23 w45 w.heap.size (fun _ => True) (.slice (some ⟨go38, 0, none⟩) x7_2.length co39) x7_2 from (by (with_reducible repeat apply Kd.R_alloc); exact Kd.R_mono HO_7.out (fun _ hk => trivial))); obtain ⟨ce46, hcl46, hM46, hcc46, hfr46⟩ := Kd.R_elem HX46.out [] (t212 : Int) (of_decide_eq_true pwb_) (by have h_ : (t212 : Int) < ((x7_2.length : Int) : Int) := of_decide_eq_true pwb_; first | exact h_ | (have e_ := (Kd.R_reads' HO_7.out).1; omega) | simpa using h_); obtain ⟨ve46_0, rfl, ge46_0⟩ := hM46; have HP46 := Kd.R_seg HX46.out (t212 : Int) (of_decide_eq_true pwb_) (by have h_ : (t212 : Int) < ((x7_2.length : Int) : Int) := of_decide_eq_true pwb_; first | exact h_ | (have e_ := (Kd.R_reads' HO_7.out).1; omega) | simpa using h_) (seg := [v224]) (j := 0) hcl46 hcc46 (show 1 ≤ 1 from by decide) (x' := y223) (Kd.M_row (Kd.R_mono (Kd.R_apart' (HO225.out) (Kd.R_typed HO_7.out) (by decide)) (fun k_ hk => ⟨trivial, fun e_ => (hk.2) (by rw [e_]; rfl)⟩))) (fun _ hk => hk); have hx46_0 := hcc46 0 _ rfl; (try simp only [show ((Kd.slice 41 k41)).sz = 1 from rfl, Nat.mul_one, Nat.add_zero] at hx46_0); have hf46_0 := hfr46 0; (try simp only [show ((Kd.slice 41 k41)).sz = 1 from rfl, Nat.mul_one, Nat.add_zero] at hf46_0); clear hcl46 hcc46 hfr46; (try clear hM46); skip; (try simp only [show ((Kd.slice 41 k41)).sz = 1 from rfl, Nat.mul_one, Nat.add_zero] at HP46)) | ((with_reducible refine gate_store (t := 23) (p := 73) rfl ?_); refine store_event (t := 23) (p := 73) (v := ?vo_w47) (w1 := (w45.setCell ⟨go38, (t212 : Int).toNat, none⟩ (v224))) ?hg ?ho ?hn ?hr ?_; (case ho => rfl); (case hg => rfl); (case hn => rfl); (case hr => first | (go_simp; done) | (go_simp; rfl) | ((obtain ⟨A_, c_, e_⟩ := Kd.R_slice HO225.out; rw [e_]); first | (go_simp; done) | (go_simp; rfl))); intro w47 hw; have hg : w45.grownBy w47 (some go38) := (by rw [hw]; exact HP46.2); have hp_ : Kd.R (Kd.slice 41 k41) 23 w47 w.heap.size (fun _ => True) (.slice (some ⟨go38, 0, none⟩) x7_2.length co39) y226 := (by rw [hw, Ny226.out]; exact HP46.1); clear HP46; have n0_ := Aside0.mk (hp_); have n1_ := Aside0.mk (IsS68.grown pwk_ hg (IsS68.own_ne HI0.out HO_7.out (by decide))); have n2_ := Aside0.mk (Kd.R_after (v := (.slice (some ⟨go38, 0, none⟩) x7_2.length co39)) (v1 := (.slice (some ⟨go38, 0, none⟩) x7_2.length co39)) (ok := (fun k_ => some k_ ≠ (v224 : Value).ownBlock)) (by (with_reducible repeat apply Kd.R_alloc); exact Kd.R_mono HL219_0.out (fun _ hk => ⟨hk.2, hk.1⟩)) hg (.inl rfl)); have n3_ := Aside0.mk ((by rw [hw]; exact below_set (HB.out) (Nat.le_trans HL.out GB38.out) : Below w0.heap.size w0 w47)); have n4_ := Aside0.mk (KeepBut.trans pwj_ (KeepBut.of_grown hg g) (Kd.R_base2 HO_7.out)); clear HO_7; clear HI0; clear HL219_0; clear HB; clear HK; clear HO225; have HO_7 := n0_; have HI0 := n1_; have HL219_0 := n2_; have HB := n3_; have HK := n4_; clear n0_ n1_ n2_ n3_ n4_; clear hg hw hp_))
             go_roundg k2
             case measure => have := HK1.out; have := HK2.out; omega
             case rel => exact ⟨(y226), (wrap64 (x9_2 - 1)), (t215), pwa_, H', ⟨by have := HK1.out; have := HK2.out; omega⟩, ⟨pwe_⟩, ⟨pwk_⟩, ⟨pwj_⟩, ⟨pwl_⟩⟩
            ·rw [if_neg c37] at H
             exact absurd H (by simp)
           ·rw [if_neg c36] at H
            exact absurd H (by simp)
          ·rw [if_neg c35] at H
           exact absurd H (by simp)
         ·rw [if_neg c34] at H
          exact absurd H (by simp)
        ·rw [if_neg c33] at H
         have c33b0 : (t214 == 0) = false := beq_eq_false_iff_ne.mpr c33
         have c33b1 : (t214 != 0) = true := bne_iff_ne.mpr c33
         obtain ⟨y227, hy227⟩ : ∃ y_ : List (S41), y_ = (([] : List (S41))) := ⟨_, rfl⟩
         replace H : (if 0 ≤ t212 then (if t212 < (x7_2.length : Int) then (if y227.length + (rd_L3 x7_2 t212).length < 8796093022208 then ((some (y227 ++ (rd_L3 x7_2 t212) : List (S41))).bind fun y231 => (if 0 ≤ (wrap64 (t212 + 1)) then (if (wrap64 (t212 + 1)) < (x7_2.length : Int) then (if y231.length + (rd_L3 x7_2 (wrap64 (t212 + 1))).length < 8796093022208 then ((some (y231 ++ (rd_L3 x7_2 (wrap64 (t212 + 1))) : List (S41))).bind fun y235 => ((spec_l20Rd_pick.f k2 s0_0 t215 3).bind fun bt238 => (if y235.length < 8796093022208 then ((some (([] : List (List (S41))) : List (List (S41)))).bind fun y243 => (if t212 ≤ (x7_2.length : Int) then ((some (x7_2.take (t212 : Int).toNat : List (List (S41)))).bind fun y246 => (if y243.length + y246.length < 5864062014805 then ((some (y243 ++ y246 : List (List (S41)))).bind fun y250 => (if y250.length < 5864062014805 then ((some (y250 ++ [(y235 ++ [(⟨wrap64 (3 + bt238.1), 0⟩ : S41)])] : List (List (S41)))).bind fun y253 => (if 0 ≤ (wrap64 (t212 + 2)) then (if (wrap64 (t212 + 2)) ≤ (x7_2.length : Int) then ((some (x7_2.drop ((wrap64 (t212 + 2)) : Int).toNat : List (List (S41)))).bind fun y256 => (if y253.length + y256.length < 5864062014805 then (spec_l20Term.l1 k2 a2 (y253 ++ y256) x9_2 s0_0 bt238.2) else (none))) else (none)) else (none))) else (none))) else (none))) else (none))) else (none)))) else (none)) else (none)) else (none))) else (none)) else (none)) else (none)) = some (r1, r2) := by first | (rw [hy227]; with_reducible exact H) | (have H2_ := (Option.bind_some _ _).symm.trans H; rw [hy227]; with_reducible exact H2_) | (have H2_ := (Option.bind_some _ _).symm.trans H; with_reducible exact H2_) | with_reducible exact H | (rw [hy227]; exact H) | exact H
         have Ny227 := Aside0.mk hy227
         clear hy227
         by_cases c48 : 0 ≤ t212
         ·rw [if_pos c48] at H
          have c48b0 : decide (0 ≤ t212) = true := decide_eq_true c48
          clear c48
          by_cases c49 : t212 < (x7_2.length : Int)
          ·rw [if_pos c49] at H
           have c49b0 : decide (t212 < (x7_2.length : Int)) = true := decide_eq_true c49
           clear c49
           by_cases c50 : y227.length + (rd_L3 x7_2 t212).length < 8796093022208
           ·rw [if_pos c50] at H
            have LMc50 := Aside0.mk c50
            clear c50
            obtain ⟨y231, hy231⟩ : ∃ y_ : List (S41), y_ = (y227 ++ (rd_L3 x7_2 t212)) := ⟨_, rfl⟩
            replace H : (if 0 ≤ (wrap64 (t212 + 1)) then (if (wrap64 (t212 + 1)) < (x7_2.length : Int) then (if y231.length + (rd_L3 x7_2 (wrap64 (t212 + 1))).length < 8796093022208 then ((some (y231 ++ (rd_L3 x7_2 (wrap64 (t212 + 1))) : List (S41))).bind fun y235 => ((spec_l20Rd_pick.f k2 s0_0 t215 3).bind fun bt238 => (if y235.length < 8796093022208 then ((some (([] : List (List (S41))) : List (List (S41)))).bind fun y243 => (if t212 ≤ (x7_2.length : Int) then ((some (x7_2.take (t212 : Int).toNat : List (List (S41)))).bind fun y246 => (if y243.length + y246.length < 5864062014805 then ((some (y243 ++ y246 : List (List (S41)))).bind fun y250 => (if y250.length < 5864062014805 then ((some (y250 ++ [(y235 ++ [(⟨wrap64 (3 + bt238.1), 0⟩ : S41)])] : List (List (S41)))).bind fun y253 => (if 0 ≤ (wrap64 (t212 + 2)) then (if (wrap64 (t212 + 2)) ≤ (x7_2.length : Int) then ((some (x7_2.drop ((wrap64 (t212 + 2)) : Int).toNat : List (List (S41)))).bind fun y256 => (if y253.length + y256.length < 5864062014805 then (spec_l20Term.l1 k2 a2 (y253 ++ y256) x9_2 s0_0 bt238.2) else (none))) else (none)) else (none))) else (none))) else (none))) else (none))) else (none)))) else (none)) else (none)) else (none)) = some (r1, r2) := by first | (rw [hy231]; with_reducible exact H) | (have H2_ := (Option.bind_some _ _).symm.trans H; rw [hy231]; with_reducible exact H2_) | (have H2_ := (Option.bind_some _ _).symm.trans H; with_reducible exact H2_) | with_reducible exact H | (rw [hy231]; exact H) | exact H
            have Ny231 := Aside0.mk hy231
            clear hy231
            obtain ⟨ji51, hji51⟩ : ∃ j_ : Int, (wrap64 (t212 + 1)) = j_ := ⟨_, rfl⟩
            replace H : (if 0 ≤ (ji51) then (if (ji51) < (x7_2.length : Int) then (if y231.length + (rd_L3 x7_2 (ji51)).length < 8796093022208 then ((some (y231 ++ (rd_L3 x7_2 (ji51)) : List (S41))).bind fun y235 => ((spec_l20Rd_pick.f k2 s0_0 t215 3).bind fun bt238 => (if y235.length < 8796093022208 then ((some (([] : List (List (S41))) : List (List (S41)))).bind fun y243 => (if t212 ≤ (x7_2.length : Int) then ((some (x7_2.take (t212 : Int).toNat : List (List (S41)))).bind fun y246 => (if y243.length + y246.length < 5864062014805 then ((some (y243 ++ y246 : List (List (S41)))).bind fun y250 => (if y250.length < 5864062014805 then ((some (y250 ++ [(y235 ++ [(⟨wrap64 (3 + bt238.1), 0⟩ : S41)])] : List (List (S41)))).bind fun y253 => (if 0 ≤ (wrap64 (t212 + 2)) then (if (wrap64 (t212 + 2)) ≤ (x7_2.length : Int) then ((some (x7_2.drop ((wrap64 (t212 + 2)) : Int).toNat : List (List (S41)))).bind fun y256 => (if y253.length + y256.length < 5864062014805 then (spec_l20Term.l1 k2 a2 (y253 ++ y256) x9_2 s0_0 bt238.2) else (none))) else (none)) else (none))) else (none))) else (none))) else (none))) else (none)))) else (none)) else (none)) else (none)) = some (r1, r2) := by first | (rw [hji51] at H; exact H) | (simp only [hji51] at H ⊢; exact H)
            (try rw [hji51] at A30)
            (try rw [hji51] at A32)
            have hji51w : (IntKind.i64.wrap (t212 + 1)) = ji51 := (i64_w _).trans hji51
            by_cases c52 : 0 ≤ (ji51)
            ·rw [if_pos c52] at H
             have c52b0 : decide (0 ≤ (ji51)) = true := decide_eq_true c52
             clear c52
             by_cases c53 : (ji51) < (x7_2.length : Int)
             ·rw [if_pos c53] at H
              have c53b0 : decide ((ji51) < (x7_2.length : Int)) = true := decide_eq_true c53
              clear c53
              by_cases c54 : y231.length + (rd_L3 x7_2 (ji51)).length < 8796093022208
              ·rw [if_pos c54] at H
               have LMc54 := Aside0.mk c54
               clear c54
               obtain ⟨y235, hy235⟩ : ∃ y_ : List (S41), y_ = (y231 ++ (rd_L3 x7_2 (ji51))) := ⟨_, rfl⟩
               replace H : ((spec_l20Rd_pick.f k2 s0_0 t215 3).bind fun bt238 => (if y235.length < 8796093022208 then ((some (([] : List (List (S41))) : List (List (S41)))).bind fun y243 => (if t212 ≤ (x7_2.length : Int) then ((some (x7_2.take (t212 : Int).toNat : List (List (S41)))).bind fun y246 => (if y243.length + y246.length < 5864062014805 then ((some (y243 ++ y246 : List (List (S41)))).bind fun y250 => (if y250.length < 5864062014805 then ((some (y250 ++ [(y235 ++ [(⟨wrap64 (3 + bt238.1), 0⟩ : S41)])] : List (List (S41)))).bind fun y253 => (if 0 ≤ (wrap64 (t212 + 2)) then (if (wrap64 (t212 + 2)) ≤ (x7_2.length : Int) then ((some (x7_2.drop ((wrap64 (t212 + 2)) : Int).toNat : List (List (S41)))).bind fun y256 => (if y253.length + y256.length < 5864062014805 then (spec_l20Term.l1 k2 a2 (y253 ++ y256) x9_2 s0_0 bt238.2) else (none))) else (none)) else (none))) else (none))) else (none))) else (none))) else (none))) = some (r1, r2) := by first | (rw [hy235]; with_reducible exact H) | (have H2_ := (Option.bind_some _ _).symm.trans H; rw [hy235]; with_reducible exact H2_) | (have H2_ := (Option.bind_some _ _).symm.trans H; with_reducible exact H2_) | with_reducible exact H | (rw [hy235]; exact H) | exact H
               have Ny235 := Aside0.mk hy235
               clear hy235
               replace H := Option.bind_eq_some_iff.mp H
               obtain ⟨⟨t238, t239⟩, A550, H⟩ := H
               replace H : (if y235.length < 8796093022208 then ((some (([] : List (List (S41))) : List (List (S41)))).bind fun y243 => (if t212 ≤ (x7_2.length : Int) then ((some (x7_2.take (t212 : Int).toNat : List (List (S41)))).bind fun y246 => (if y243.length + y246.length < 5864062014805 then ((some (y243 ++ y246 : List (List (S41)))).bind fun y250 => (if y250.length < 5864062014805 then ((some (y250 ++ [(y235 ++ [(⟨wrap64 (3 + t238), 0⟩ : S41)])] : List (List (S41)))).bind fun y253 => (if 0 ≤ (wrap64 (t212 + 2)) then (if (wrap64 (t212 + 2)) ≤ (x7_2.length : Int) then ((some (x7_2.drop ((wrap64 (t212 + 2)) : Int).toNat : List (List (S41)))).bind fun y256 => (if y253.length + y256.length < 5864062014805 then (spec_l20Term.l1 k2 a2 (y253 ++ y256) x9_2 s0_0 t239) else (none))) else (none)) else (none))) else (none))) else (none))) else (none))) else (none)) = some (r1, r2) := H
               have A55 := Aside0.mk A550
               clear A550
               by_cases c56 : y235.length < 8796093022208
               ·rw [if_pos c56] at H
                have LMc56 := Aside0.mk c56
                clear c56
                obtain ⟨y240, hy240⟩ : ∃ y_ : List (S41), y_ = (y235 ++ [(⟨wrap64 (3 + t238), 0⟩ : S41)]) := ⟨_, rfl⟩
                replace H : ((some (([] : List (List (S41))) : List (List (S41)))).bind fun y243 => (if t212 ≤ (x7_2.length : Int) then ((some (x7_2.take (t212 : Int).toNat : List (List (S41)))).bind fun y246 => (if y243.length + y246.length < 5864062014805 then ((some (y243 ++ y246 : List (List (S41)))).bind fun y250 => (if y250.length < 5864062014805 then ((some (y250 ++ [y240] : List (List (S41)))).bind fun y253 => (if 0 ≤ (wrap64 (t212 + 2)) then (if (wrap64 (t212 + 2)) ≤ (x7_2.length : Int) then ((some (x7_2.drop ((wrap64 (t212 + 2)) : Int).toNat : List (List (S41)))).bind fun y256 => (if y253.length + y256.length < 5864062014805 then (spec_l20Term.l1 k2 a2 (y253 ++ y256) x9_2 s0_0 t239) else (none))) else (none)) else (none))) else (none))) else (none))) else (none))) = some (r1, r2) := by first | (rw [hy240]; with_reducible exact H) | (have H2_ := (Option.bind_some _ _).symm.trans H; rw [hy240]; with_reducible exact H2_) | (have H2_ := (Option.bind_some _ _).symm.trans H; with_reducible exact H2_) | with_reducible exact H | (rw [hy240]; exact H) | exact H
                have Ny240 := Aside0.mk hy240
                clear hy240
                obtain ⟨y243, hy243⟩ : ∃ y_ : List (List (S41)), y_ = (([] : List (List (S41)))) := ⟨_, rfl⟩
                replace H : (if t212 ≤ (x7_2.length : Int) then ((some (x7_2.take (t212 : Int).toNat : List (List (S41)))).bind fun y246 => (if y243.length + y246.length < 5864062014805 then ((some (y243 ++ y246 : List (List (S41)))).bind fun y250 => (if y250.length < 5864062014805 then ((some (y250 ++ [y240] : List (List (S41)))).bind fun y253 => (if 0 ≤ (wrap64 (t212 + 2)) then (if (wrap64 (t212 + 2)) ≤ (x7_2.length : Int) then ((some (x7_2.drop ((wrap64 (t212 + 2)) : Int).toNat : List (List (S41)))).bind fun y256 => (if y253.length + y256.length < 5864062014805 then (spec_l20Term.l1 k2 a2 (y253 ++ y256) x9_2 s0_0 t239) else (none))) else (none)) else (none))) else (none))) else (none))) else (none)) = some (r1, r2) := by first | (rw [hy243]; with_reducible exact H) | (have H2_ := (Option.bind_some _ _).symm.trans H; rw [hy243]; with_reducible exact H2_) | (have H2_ := (Option.bind_some _ _).symm.trans H; with_reducible exact H2_) | with_reducible exact H | (rw [hy243]; exact H) | exact H
                have Ny243 := Aside0.mk hy243
                clear hy243
                have c57b0 := eq_true (of_decide_eq_true pwb_ : 0 ≤ t212)
                by_cases c58 : t212 ≤ (x7_2.length : Int)
                ·rw [if_pos c58] at H
                 have c58b0 := eq_true c58
                 have c58b1 : decide (t212 ≤ (x7_2.length : Int)) = true := decide_eq_true c58
                 clear c58
                 obtain ⟨y246, hy246⟩ : ∃ y_ : List (List (S41)), y_ = (x7_2.take (t212 : Int).toNat) := ⟨_, rfl⟩
                 replace H : (if y243.length + y246.length < 5864062014805 then ((some (y243 ++ y246 : List (List (S41)))).bind fun y250 => (if y250.length < 5864062014805 then ((some (y250 ++ [y240] : List (List (S41)))).bind fun y253 => (if 0 ≤ (wrap64 (t212 + 2)) then (if (wrap64 (t212 + 2)) ≤ (x7_2.length : Int) then ((some (x7_2.drop ((wrap64 (t212 + 2)) : Int).toNat : List (List (S41)))).bind fun y256 => (if y253.length + y256.length < 5864062014805 then (spec_l20Term.l1 k2 a2 (y253 ++ y256) x9_2 s0_0 t239) else (none))) else (none)) else (none))) else (none))) else (none)) = some (r1, r2) := by first | (rw [hy246]; with_reducible exact H) | (have H2_ := (Option.bind_some _ _).symm.trans H; rw [hy246]; with_reducible exact H2_) | (have H2_ := (Option.bind_some _ _).symm.trans H; with_reducible exact H2_) | with_reducible exact H | (rw [hy246]; exact H) | exact H
                 have Ny246 := Aside0.mk hy246
                 clear hy246
                 by_cases c59 : y243.length + y246.length < 5864062014805
                 ·rw [if_pos c59] at H
                  have LMc59 := Aside0.mk c59
                  clear c59
                  obtain ⟨y250, hy250⟩ : ∃ y_ : List (List (S41)), y_ = (y243 ++ y246) := ⟨_, rfl⟩
                  replace H : (if y250.length < 5864062014805 then ((some (y250 ++ [y240] : List (List (S41)))).bind fun y253 => (if 0 ≤ (wrap64 (t212 + 2)) then (if (wrap64 (t212 + 2)) ≤ (x7_2.length : Int) then ((some (x7_2.drop ((wrap64 (t212 + 2)) : Int).toNat : List (List (S41)))).bind fun y256 => (if y253.length + y256.length < 5864062014805 then (spec_l20Term.l1 k2 a2 (y253 ++ y256) x9_2 s0_0 t239) else (none))) else (none)) else (none))) else (none)) = some (r1, r2) := by first | (rw [hy250]; with_reducible exact H) | (have H2_ := (Option.bind_some _ _).symm.trans H; rw [hy250]; with_reducible exact H2_) | (have H2_ := (Option.bind_some _ _).symm.trans H; with_reducible exact H2_) | with_reducible exact H | (rw [hy250]; exact H) | exact H
                  have Ny250 := Aside0.mk hy250
                  clear hy250
                  by_cases c60 : y250.length < 5864062014805
                  ·rw [if_pos c60] at H
                   have LMc60 := Aside0.mk c60
                   clear c60
                   obtain ⟨y253, hy253⟩ : ∃ y_ : List (List (S41)), y_ = (y250 ++ [y240]) := ⟨_, rfl⟩
                   replace H : (if 0 ≤ (wrap64 (t212 + 2)) then (if (wrap64 (t212 + 2)) ≤ (x7_2.length : Int) then ((some (x7_2.drop ((wrap64 (t212 + 2)) : Int).toNat : List (List (S41)))).bind fun y256 => (if y253.length + y256.length < 5864062014805 then (spec_l20Term.l1 k2 a2 (y253 ++ y256) x9_2 s0_0 t239) else (none))) else (none)) else (none)) = some (r1, r2) := by first | (rw [hy253]; with_reducible exact H) | (have H2_ := (Option.bind_some _ _).symm.trans H; rw [hy253]; with_reducible exact H2_) | (have H2_ := (Option.bind_some _ _).symm.trans H; with_reducible exact H2_) | with_reducible exact H | (rw [hy253]; exact H) | exact H
                   have Ny253 := Aside0.mk hy253
                   clear hy253
                   by_cases c61 : 0 ≤ (wrap64 (t212 + 2))
                   ·rw [if_pos c61] at H
                    have c61b0 := eq_true c61
                    have c61b1 : decide (0 ≤ (wrap64 (t212 + 2))) = true := decide_eq_true c61
                    by_cases c62 : (wrap64 (t212 + 2)) ≤ (x7_2.length : Int)
                    ·rw [if_pos c62] at H
                     have c62b0 := eq_true c62
                     have c62b1 : decide ((wrap64 (t212 + 2)) ≤ (x7_2.length : Int)) = true := decide_eq_true c62
                     obtain ⟨y256, hy256⟩ : ∃ y_ : List (List (S41)), y_ = (x7_2.drop ((wrap64 (t212 + 2)) : Int).toNat) := ⟨_, rfl⟩
                     replace H : (if y253.length + y256.length < 5864062014805 then (spec_l20Term.l1 k2 a2 (y253 ++ y256) x9_2 s0_0 t239) else (none)) = some (r1, r2) := by first | (rw [hy256]; with_reducible exact H) | (have H2_ := (Option.bind_some _ _).symm.trans H; rw [hy256]; with_reducible exact H2_) | (have H2_ := (Option.bind_some _ _).symm.trans H; with_reducible exact H2_) | with_reducible exact H | (rw [hy256]; exact H) | exact H
                     have Ny256 := Aside0.mk hy256
                     clear hy256
                     by_cases c63 : y253.length + y256.length < 5864062014805
                     ·rw [if_pos c63] at H
                      have LMc63 := Aside0.mk c63
                      clear c63
                      obtain ⟨y260, hy260⟩ : ∃ y_ : List (List (S41)), y_ = (y253 ++ y256) := ⟨_, rfl⟩
                      replace H : (spec_l20Term.l1 k2 a2 y260 x9_2 s0_0 t239) = some (r1, r2) := by first | (rw [hy260]; with_reducible exact H) | (have H2_ := (Option.bind_some _ _).symm.trans H; rw [hy260]; with_reducible exact H2_) | (have H2_ := (Option.bind_some _ _).symm.trans H; with_reducible exact H2_) | with_reducible exact H | (rw [hy260]; exact H) | exact H
                      have Ny260 := Aside0.mk hy260
                      clear hy260
                      have H' := Aside0.mk H
                      clear H
                      obtain ⟨Ao64, co64, eo64⟩ := Kd.R_slice HO_7.out
                      subst eo64
                      try go_wp2_with (first | ((with_reducible refine gate_callee (f := 64) rfl ?_); refine goesL_ (some 52) rfl rfl Try.func64 (by kernel_rfl) rfl #[.pointer (some ⟨g, 0, none⟩), .int .i64 (wrap64 ((x7_2.length : Int) - 1))] rfl pwi_ ?_; (with_reducible refine (spec_l20Rd_pick.calls k2 g s0_0 x1001_2 (wrap64 ((x7_2.length : Int) - 1)) t212 t213 w0 _ ?side1 ?side2 A30.out).mono ?_); (case side1 => repeat (first | (with_reducible first | exact HI0.out | apply IsS68.alloc | apply IsS68.drewN | apply IsS68.drew | apply IsS68.set_1) | exact HI0.out)); (case side2 => repeat (first | (with_reducible first | exact HB.out | apply below_alloc | apply pw_below_drewN | apply below_drew1 | refine below_set ?_ (IsS68.ge HI0.out)) | exact HB.out)); rintro e w65 ⟨rfl, hi, hb, hk⟩; refine ⟨_, rfl, ?_⟩; have n0_ := Aside0.mk (Kd.R_mono (Kd.R_keep (IsS68.apart (show IsS68 w0 _ g s0_0 x1001_2 from by repeat (first | (with_reducible first | exact HI0.out | apply IsS68.alloc | apply IsS68.drewN | apply IsS68.drew | apply IsS68.set_1) | exact HI0.out)) pwe_ (by decide)) hk (fun _ h => h.2)) (fun _ h => h.1)); have n1_ := Aside0.mk (KeepBut.trans pwj_ hk (.inl rfl)); have n2_ := Aside0.mk (hb); have n3_ := Aside0.mk (hi); clear HO_7; clear HK; clear HB; clear HI0; have HO_7 := n0_; have HK := n1_; have HB := n2_; have HI0 := n3_; clear n0_ n1_ n2_ n3_; (try clear hb); (try clear hb2); (try clear hk); (try clear hi)) | (go_at_call 64; (with_reducible refine (spec_l20Rd_pick.calls k2 g s0_0 t213 4 t214 t215 w0 _ ?side1 ?side2 A32.out).mono ?_); (case side1 => repeat (first | (with_reducible first | exact HI0.out | apply IsS68.alloc | apply IsS68.drewN | apply IsS68.drew | apply IsS68.set_1) | exact HI0.out)); (case side2 => repeat (first | (with_reducible first | exact HB.out | apply below_alloc | apply pw_below_drewN | apply below_drew1 | refine below_set ?_ (IsS68.ge HI0.out)) | exact HB.out)); rintro e w66 ⟨rfl, hi, hb, hk⟩; have n0_ := Aside0.mk (Kd.R_mono (Kd.R_keep (IsS68.apart (show IsS68 w0 _ g s0_0 t213 from by repeat (first | (with_reducible first | exact HI0.out | apply IsS68.alloc | apply IsS68.drewN | apply IsS68.drew | apply IsS68.set_1) | exact HI0.out)) pwe_ (by decide)) hk (fun _ h => h.2)) (fun _ h => h.1)); have n1_ := Aside0.mk (KeepBut.trans pwj_ hk (.inl rfl)); have n2_ := Aside0.mk (hb); have n3_ := Aside0.mk (hi); clear HO_7; clear HK; clear HB; clear HI0; have HO_7 := n0_; have HK := n1_; have HB := n2_; have HI0 := n3_; clear n0_ n1_ n2_ n3_; (try clear hb); (try clear hb2); (try clear hk); (try clear hi)))
                      have n0_ := Aside0.mk (Kd.R_drew HO_7.out)
                      have n1_ := Aside0.mk (IsS68.drew HI0.out)
                      have n2_ := Aside0.mk (keep_drew HK.out)
                      have n3_ := Aside0.mk (below_drew1 HB.out)
                      clear HO_7
                      clear HI0
                      clear HK
                      clear HB
                      have HO_7 := n0_
                      have HI0 := n1_
                      have HK := n2_
                      have HB := n3_
                      clear n0_ n1_ n2_ n3_
                      have p230 : 0 ≤ (t212 : Int) := of_decide_eq_true pwb_
                      have q230 : t212 < (x7_2.length : Int) := of_decide_eq_true pwb_
                      obtain ⟨ad230, A230_0, c230_0, e230, hx230_0, hl230_0, hi230_0⟩ := at_L3 (Kd.R_reads' HO_7.out).2.2 t212 p230 q230
                      cases e230
                      obtain ⟨ce230, hce230, hMe230, hcc230⟩ := Kd.R_get HO_7.out [] t212 p230 (by first | exact q230 | exact of_decide_eq_true pwb_ | (have e_ := (Kd.R_reads' HO_7.out).1; omega))
                      obtain ⟨ve230_0, rfl, ge230_0⟩ := hMe230
                      have hv230_0 := hcc230 0 _ rfl
                      rw [Nat.add_zero, show ((Kd.slice 41 k41)).sz = 1 from rfl, Nat.mul_one] at hv230_0
                      replace hv230_0 := Option.some.inj (hv230_0.symm.trans hx230_0)
                      rw [hv230_0] at ge230_0
                      have HL230_0 := Aside0.mk (show Kd.R k41 41 _ _ _ _ (rd_L3 x7_2 t212) from ge230_0)
                      clear hv230_0 ge230_0
                      clear hcc230 hce230
                      have HR230_0 := Aside0.mk hi230_0
                      have HC230_0 := Aside0.mk hl230_0
                      clear hi230_0 hl230_0
                      replace p230 := eq_true p230
                      replace q230 := eq_true q230
                      have p234 : 0 ≤ ((ji51) : Int) := of_decide_eq_true pwb_
                      have q234 : (ji51) < (x7_2.length : Int) := of_decide_eq_true pwb_
                      obtain ⟨ad234, A234_0, c234_0, e234, hx234_0, hl234_0, hi234_0⟩ := at_L3 (Kd.R_reads' HO_7.out).2.2 (ji51) p234 q234
                      obtain rfl : ad230 = ad234 := (by injection e234)
                      obtain ⟨ce234, hce234, hMe234, hcc234⟩ := Kd.R_get HO_7.out [] (ji51) p234 (by first | exact q234 | exact of_decide_eq_true pwb_ | (have e_ := (Kd.R_reads' HO_7.out).1; omega))
                      obtain ⟨ve234_0, rfl, ge234_0⟩ := hMe234
                      have hv234_0 := hcc234 0 _ rfl
                      rw [Nat.add_zero, show ((Kd.slice 41 k41)).sz = 1 from rfl, Nat.mul_one] at hv234_0
                      replace hv234_0 := Option.some.inj (hv234_0.symm.trans hx234_0)
                      rw [hv234_0] at ge234_0
                      have HL234_0 := Aside0.mk (show Kd.R k41 41 _ _ _ _ (rd_L3 x7_2 (ji51)) from ge234_0)
                      clear hv234_0 ge234_0
                      clear hcc234 hce234
                      have HR234_0 := Aside0.mk hi234_0
                      have HC234_0 := Aside0.mk hl234_0
                      clear hi234_0 hl234_0
                      replace p234 := eq_true p234
                      replace q234 := eq_true q234
                      refine start_ (n := 19) (S := fun w' => w'.cell? (ad230.add (t212).toNat) = some (.slice A230_0 (rd_L3 x7_2 t212).length c230_0) ∧ w'.cell? (ad230.add ((ji51)).toNat) = some (.slice A234_0 (rd_L3 x7_2 (ji51)).length c234_0)) (ds := [16]) #[false, false, false, false, false, false, false, false, false, false, false, false, false, false, false, false, false, false, false] (by kernel_rfl) rfl rfl ⟨hx230_0, hx234_0⟩ (fun hHeld => ?_); refine with_tabW spec_l20Term.tab15 spec_l20Term.bits15 (fun HT_ HW_ => ?_)
                      generalize w66.drew = w67 at HO_7 HI0 HK HB HL230_0 HL234_0 HR230_0 HR234_0 hx230_0 hx234_0 hHeld ⊢
                      refine pure_ (i := 1) (N := some 75) (v := ?_) (a' := ?_) #[false, true, false, false, false, false, false, false, false, false, false, false, false, false, false, false, false, false, false] rfl rfl (any_of HT_.out (by kernel_rfl)) (fun _ _ _ h => h) (Or.inl ⟨by rfl, ?_⟩) ?_ ?_
                      rotate_left
                      ·intro w'
                       go_simp
                       with_reducible rfl
                      rotate_left
                      ·simp only [Act.put, List.setIfInBounds_toArray, List.set_cons_zero, List.set_cons_succ, i64_w, i32_w]
                       rfl
                      refine pure_ (i := 2) (N := some 76) (v := ?_) (a' := ?_) #[false, true, true, false, false, false, false, false, false, false, false, false, false, false, false, false, false, false, false] rfl rfl (any_of HT_.out (by kernel_rfl)) (fun _ _ _ h => h) (Or.inl ⟨by rfl, ?_⟩) ?_ ?_
                      rotate_left
                      ·intro w'
                       go_simp
                       with_reducible rfl
                      rotate_left
                      ·simp only [Act.put, List.setIfInBounds_toArray, List.set_cons_zero, List.set_cons_succ, i64_w, i32_w]
                       rfl
                      refine pure_ (i := 3) (N := some 77) (v := ?_) (a' := ?_) #[false, true, true, true, false, false, false, false, false, false, false, false, false, false, false, false, false, false, false] rfl rfl (any_of HT_.out (by kernel_rfl)) (fun _ _ _ h => h) (Or.inl ⟨by rfl, ?_⟩) ?_ ?_
                      rotate_left
                      ·intro w'
                       go_simp
                       with_reducible rfl
                      rotate_left
                      ·simp only [Act.put, List.setIfInBounds_toArray, List.set_cons_zero, List.set_cons_succ, i64_w, i32_w]
                       rfl
                      refine pure_ (i := 6) (N := some 80) (v := ?_) (a' := ?_) #[false, true, true, true, false, false, true, false, false, false, false, false, false, false, false, false, false, false, false] rfl rfl (any_of HT_.out (by kernel_rfl)) (fun _ _ _ h => h) (Or.inl ⟨by rfl, ?_⟩) ?_ ?_
                      rotate_left
                      ·intro w'
                       go_simp
                       with_reducible rfl
                      rotate_left
                      ·simp only [Act.put, List.setIfInBounds_toArray, List.set_cons_zero, List.set_cons_succ, i64_w, i32_w]
                       rfl
                      refine pure_ (i := 7) (N := some 81) (v := ?_) (a' := ?_) #[false, true, true, true, false, false, true, true, false, false, false, false, false, false, false, false, false, false, false] rfl rfl (any_of HT_.out (by kernel_rfl)) (fun _ _ _ h => h) (Or.inl ⟨by rfl, ?_⟩) ?_ ?_
                      rotate_left
                      ·intro w'
                       go_simp
                       with_reducible rfl
                      rotate_left
                      ·simp only [Act.put, List.setIfInBounds_toArray, List.set_cons_zero, List.set_cons_succ, i64_w, i32_w]
                       rfl
                      refine pure_ (i := 8) (N := some 82) (v := ?_) (a' := ?_) #[false, true, true, true, false, false, true, true, true, false, false, false, false, false, false, false, false, false, false] rfl rfl (any_of HT_.out (by kernel_rfl)) (fun _ _ _ h => h) (Or.inl ⟨by rfl, ?_⟩) ?_ ?_
                      rotate_left
                      ·intro w'
                       go_simp
                       with_reducible rfl
                      rotate_left
                      ·simp only [Act.put, List.setIfInBounds_toArray, List.set_cons_zero, List.set_cons_succ, i64_w, i32_w]
                       rfl
                      refine pure_ (i := 9) (N := some 83) (v := ?_) (a' := ?_) #[false, true, true, true, false, false, true, true, true, true, false, false, false, false, false, false, false, false, false] rfl rfl (any_of HT_.out (by kernel_rfl)) (fun _ _ _ h => h) (Or.inl ⟨by rfl, ?_⟩) ?_ ?_
                      rotate_left
                      ·intro w'
                       go_simp
                       with_reducible rfl
                      rotate_left
                      ·simp only [Act.put, List.setIfInBounds_toArray, List.set_cons_zero, List.set_cons_succ, i64_w, i32_w]
                       rfl
                      refine pure_ (i := 12) (N := some 86) (v := ?_) (a' := ?_) #[false, true, true, true, false, false, true, true, true, true, false, false, true, false, false, false, false, false, false] rfl rfl (any_of HT_.out (by kernel_rfl)) (fun _ _ _ h => h) (Or.inl ⟨by rfl, ?_⟩) ?_ ?_
                      rotate_left
                      ·intro w'
                       go_simp
                       with_reducible rfl
                      rotate_left
                      ·simp only [Act.put, List.setIfInBounds_toArray, List.set_cons_zero, List.set_cons_succ, i64_w, i32_w]
                       rfl
                      refine take_ (i := 4) (N := some 78) (v := ?_) (a' := ?_) #[false, true, true, true, true, false, true, true, true, true, false, false, true, false, false, false, false, false, false] rfl rfl (take_ofW HT_.out HW_.out (by kernel_rfl)) (fun _ _ _ h => h) (Or.inl ⟨by rfl, ?_⟩) hHeld ?_ ?_
                      rotate_left
                      ·rintro w' ⟨s0, s1⟩
                       go_simp
                       with_reducible rfl
                      rotate_left
                      ·simp only [Act.put, List.setIfInBounds_toArray, List.set_cons_zero, List.set_cons_succ, i64_w, i32_w]
                       rfl
                      refine take_ (i := 10) (N := some 84) (v := ?_) (a' := ?_) #[false, true, true, true, true, false, true, true, true, true, true, false, true, false, false, false, false, false, false] rfl rfl (take_ofW HT_.out HW_.out (by kernel_rfl)) (fun _ _ _ h => h) (Or.inl ⟨by rfl, ?_⟩) hHeld ?_ ?_
                      rotate_left
                      ·rintro w' ⟨s0, s1⟩
                       go_simp
                       with_reducible rfl
                      rotate_left
                      ·simp only [Act.put, List.setIfInBounds_toArray, List.set_cons_zero, List.set_cons_succ, i64_w, i32_w]
                       rfl
                      refine one_ (i := 0) (N := some 74) #[true, true, true, true, true, false, true, true, true, true, true, false, true, false, false, false, false, false, false] rfl rfl (one_of HT_.out (by kernel_rfl)) (by decide) (fun K hK => ?_)
                      refine Kd.R_lit_step k41 _ 41 ?hg (N := 74) ?hd (xs := ([] : List (S41))) (inner := []) (ok := fun _ => True) (okp := fun _ => True) ?hr ?hp (fun _ hk => hk) trivial (Below.refl _ _) (Nat.le_refl _) (by simp) ?_; (case hd => rfl); (case hg => rfl); (case hr => first | (go_simp; done) | (go_simp; rfl)); (case hp => exact (Reps.none _ _))
                      intro v228 w68 ho69 hb hg_ hnew_
                      have HS0_ := (hb.cell (World.block_lt_of_cell? _ _ (hHeld.1))).trans (hHeld.1)
                      have HS1_ := (hb.cell (World.block_lt_of_cell? _ _ (hHeld.2))).trans (hHeld.2)
                      clear hg_ hnew_
                      (first | rw [← Ny227.out] at ho69 | (simp only [Int.reduceToNat] at ho69; rw [← Ny227.out] at ho69))
                      have n0_ := Aside0.mk (Kd.R_elder' pwe_ (Kd.R_base ho69) hb)
                      have n1_ := Aside0.mk (Kd.R_elder' (by (with_reducible repeat apply Kd.R_alloc); exact HL230_0.out) (Kd.R_base ho69) hb)
                      have n2_ := Aside0.mk (Kd.R_elder' (by (with_reducible repeat apply Kd.R_alloc); exact HL234_0.out) (Kd.R_base ho69) hb)
                      have n3_ := Aside0.mk (Kd.R_lower (Kd.R_new' (Kd.R_new' ho69 (Kd.R_lt (by (with_reducible repeat apply Kd.R_alloc); exact HL230_0.out))) (Kd.R_lt (by (with_reducible repeat apply Kd.R_alloc); exact HL234_0.out))) (keep_size (w := w) (g := g) (row := none) pwj_))
                      have n4_ := Aside0.mk (IsS68.below pwk_ hb)
                      have n5_ := Aside0.mk (Kd.C_below (by repeat (first | (with_reducible exact HR230_0.out) | (with_reducible refine Kd.C_alloc ?_ _) | (with_reducible refine Kd.C_drewN ?_ _) | (with_reducible refine Kd.C_drew ?_) | exact HR230_0.out)) hb)
                      have n6_ := Aside0.mk (Kd.C_below (by repeat (first | (with_reducible exact HR234_0.out) | (with_reducible refine Kd.C_alloc ?_ _) | (with_reducible refine Kd.C_drewN ?_ _) | (with_reducible refine Kd.C_drew ?_) | exact HR234_0.out)) hb)
                      have n7_ := Aside0.mk (KeepBut.trans pwj_ (KeepBut.of_below hb g none) (.inl rfl))
                      have n8_ := Aside0.mk (below_step pwl_ hb)
                      clear HO_7
                      clear HL230_0
                      clear HL234_0
                      clear HI0
                      clear HR230_0
                      clear HR234_0
                      clear HK
                      clear HB
                      have HO_7 := n0_
                      have HL230_0 := n1_
                      have HL234_0 := n2_
                      have HO229 := n3_
                      have HI0 := n4_
                      have HR230_0 := n5_
                      have HR234_0 := n6_
                      have HK := n7_
                      have HB := n8_
                      clear n0_ n1_ n2_ n3_ n4_ n5_ n6_ n7_ n8_
                      clear hb ho69
                      refine hK.out _ _ ⟨HS0_, HS1_⟩ (fun hHeld => ?_)
                      clear hK K
                      refine norm_ (a' := ?_) ?_ ?_
                      rotate_left
                      ·show Act.put _ (some 74) _ = _
                       simp only [Act.put, List.setIfInBounds_toArray, List.set_cons_zero, List.set_cons_succ, i64_w, i32_w]
                       rfl
                      refine one_ (i := 5) (N := some 79) #[true, true, true, true, true, true, true, true, true, true, true, false, true, false, false, false, false, false, false] rfl rfl (one_of HT_.out (by kernel_rfl)) (by decide) (fun K hK => ?_)
                      refine Kd.R_append_rows_step k41 w.heap.size (by rfl) (.tmp 74) (.tmp 78) 23 41 (.agg #[(.int .i64 0), (.int .i64 0)]) 16 rfl Try.underlying23 info41 rfl (by decide) (by omega) v228 y227 (rd_L3 x7_2 t212) _ _ _ (fun k_ => some k_ ≠ (.slice A230_0 (rd_L3 x7_2 t212).length c230_0 : Value).ownBlock ∧ some k_ ≠ (.slice A234_0 (rd_L3 x7_2 (ji51)).length c234_0 : Value).ownBlock) (fun _ => False) rfl rfl ?aO ?aR (fun _ _ h => h) (fun _ h => h.elim) ?aF (Below.refl _ _) ?aS ?aL ?_
                      (case aR => repeat (first | exact (by repeat (first | (with_reducible exact HR230_0.out) | (with_reducible refine Kd.C_alloc ?_ _) | (with_reducible refine Kd.C_drewN ?_ _) | (with_reducible refine Kd.C_drew ?_) | exact HR230_0.out)) | (with_reducible refine Kd.C_alloc ?_ _) | (with_reducible refine Kd.C_drewN ?_ _) | (with_reducible refine Kd.C_drew ?_)))
                      (case aF => exact (fun k_ hk => ⟨Kd.fresh' (Kd.R_lt (by (with_reducible repeat apply Kd.R_alloc); exact HL230_0.out)) k_ hk, Kd.fresh' (Kd.R_lt (by (with_reducible repeat apply Kd.R_alloc); exact HL234_0.out)) k_ hk⟩))
                      (case aO => exact (by (with_reducible repeat apply Kd.R_alloc); exact Kd.R_mono HO229.out (fun _ hk => ⟨hk.1.2, hk.2⟩)))
                      (case aS => exact (keep_size (w := w) (g := g) (row := none) pwj_))
                      (case aL => have := LMc50.out; omega)
                      intro v232 w70 ho hb hg hat
                      have HS0_ := cell_grown hg (hHeld.1) (by first | (rw [add_block]; exact ((HO_7.out.1 _ rfl).2)) | (show some (Addr.add _ _).block ≠ _; rw [add_block]; exact ((HO_7.out.1 _ rfl).2)) | exact ((HO_7.out.1 _ rfl).2))
                      have HS1_ := cell_grown hg (hHeld.2) (by first | (rw [add_block]; exact ((HO_7.out.1 _ rfl).2)) | (show some (Addr.add _ _).block ≠ _; rw [add_block]; exact ((HO_7.out.1 _ rfl).2)) | exact ((HO_7.out.1 _ rfl).2))
                      rw [← Ny231.out] at ho
                      have n0_ := Aside0.mk (Kd.R_after (ok := (fun _ => True)) pwe_ hg hat)
                      have n1_ := Aside0.mk (IsS68.grown pwk_ hg (IsS68.own_ne HI0.out HO229.out (by decide)))
                      have n2_ := Aside0.mk (Kd.R_after (ok := (fun k_ => some k_ ≠ (.slice (some ad230) x7_2.length co64 : Value).ownBlock)) (by (with_reducible repeat apply Kd.R_alloc); exact Kd.R_mono HL230_0.out (fun _ hk => ⟨hk.1.2, hk.2⟩)) hg hat)
                      have n3_ := Aside0.mk (Kd.R_after (ok := (fun k_ => some k_ ≠ (.slice (some ad230) x7_2.length co64 : Value).ownBlock)) (by (with_reducible repeat apply Kd.R_alloc); exact Kd.R_mono HL234_0.out (fun _ hk => ⟨hk.1.2, hk.2⟩)) hg hat)
                      have n4_ := Aside0.mk (below_weaken pwl_ HL.out hb)
                      have n5_ := Aside0.mk (KeepBut.trans pwj_ (KeepBut.of_grown hg g) (Kd.R_base2 HO229.out))
                      have n6_ := Aside0.mk (ho)
                      clear HO_7
                      clear HI0
                      clear HL230_0
                      clear HL234_0
                      clear HB
                      clear HK
                      clear HO229
                      have HO_7 := n0_
                      have HI0 := n1_
                      have HL230_0 := n2_
                      have HL234_0 := n3_
                      have HB := n4_
                      have HK := n5_
                      have HO233 := n6_
                      clear n0_ n1_ n2_ n3_ n4_ n5_ n6_
                      clear ho hb hg hat
                      refine hK.out _ _ ⟨HS0_, HS1_⟩ (fun hHeld => ?_)
                      clear hK K
                      refine norm_ (a' := ?_) ?_ ?_
                      rotate_left
                      ·show Act.put _ (some 79) _ = _
                       simp only [Act.put, List.setIfInBounds_toArray, List.set_cons_zero, List.set_cons_succ, i64_w, i32_w]
                       rfl
                      refine one_ (i := 11) (N := some 85) #[true, true, true, true, true, true, true, true, true, true, true, true, true, false, false, false, false, false, false] rfl rfl (one_of HT_.out (by kernel_rfl)) (by decide) (fun K hK => ?_)
                      refine Kd.R_append_rows_step k41 w.heap.size (by rfl) (.tmp 79) (.tmp 84) 23 41 (.agg #[(.int .i64 0), (.int .i64 0)]) 16 rfl Try.underlying23 info41 rfl (by decide) (by omega) v232 y231 (rd_L3 x7_2 (ji51)) _ _ _ (fun k_ => some k_ ≠ (.slice A230_0 (rd_L3 x7_2 t212).length c230_0 : Value).ownBlock ∧ some k_ ≠ (.slice A234_0 (rd_L3 x7_2 (ji51)).length c234_0 : Value).ownBlock) (fun _ => False) rfl rfl ?aO ?aR (fun _ _ h => h) (fun _ h => h.elim) ?aF (Below.refl _ _) ?aS ?aL ?_
                      (case aR => repeat (first | exact ((Kd.R_reads' (by (with_reducible repeat apply Kd.R_alloc); exact HL234_0.out)).2.2) | (with_reducible refine Kd.C_alloc ?_ _) | (with_reducible refine Kd.C_drewN ?_ _) | (with_reducible refine Kd.C_drew ?_)))
                      (case aF => exact (fun k_ hk => ⟨Kd.fresh' (Kd.R_lt (by (with_reducible repeat apply Kd.R_alloc); exact HL230_0.out)) k_ hk, Kd.fresh' (Kd.R_lt (by (with_reducible repeat apply Kd.R_alloc); exact HL234_0.out)) k_ hk⟩))
                      (case aO => exact (by (with_reducible repeat apply Kd.R_alloc); exact HO233.out))
                      (case aS => exact (keep_size (w := w) (g := g) (row := none) pwj_))
                      (case aL => have := LMc54.out; omega)
                      intro v236 w71 ho hb hg hat
                      have HS0_ := cell_grown hg (hHeld.1) (by first | (rw [add_block]; exact ((HO_7.out.1 _ rfl).2)) | (show some (Addr.add _ _).block ≠ _; rw [add_block]; exact ((HO_7.out.1 _ rfl).2)) | exact ((HO_7.out.1 _ rfl).2))
                      have HS1_ := cell_grown hg (hHeld.2) (by first | (rw [add_block]; exact ((HO_7.out.1 _ rfl).2)) | (show some (Addr.add _ _).block ≠ _; rw [add_block]; exact ((HO_7.out.1 _ rfl).2)) | exact ((HO_7.out.1 _ rfl).2))
                      rw [← Ny235.out] at ho
                      have n0_ := Aside0.mk (Kd.R_after (ok := (fun _ => True)) pwe_ hg hat)
                      have n1_ := Aside0.mk (IsS68.grown pwk_ hg (IsS68.own_ne HI0.out HO233.out (by decide)))
                      have n2_ := Aside0.mk (Kd.R_after (ok := (fun k_ => some k_ ≠ (.slice (some ad230) x7_2.length co64 : Value).ownBlock)) (by (with_reducible repeat apply Kd.R_alloc); exact HL230_0.out) hg hat)
                      have n3_ := Aside0.mk (Kd.R_after (ok := (fun k_ => some k_ ≠ (.slice (some ad230) x7_2.length co64 : Value).ownBlock)) (by (with_reducible repeat apply Kd.R_alloc); exact HL234_0.out) hg hat)
                      have n4_ := Aside0.mk (below_weaken pwl_ HL.out hb)
                      have n5_ := Aside0.mk (KeepBut.trans pwj_ (KeepBut.of_grown hg g) (Kd.R_base2 HO233.out))
                      have n6_ := Aside0.mk (ho)
                      clear HO_7
                      clear HI0
                      clear HL230_0
                      clear HL234_0
                      clear HB
                      clear HK
                      clear HO233
                      have HO_7 := n0_
                      have HI0 := n1_
                      have HL230_0 := n2_
                      have HL234_0 := n3_
                      have HB := n4_
                      have HK := n5_
                      have HO237 := n6_
                      clear n0_ n1_ n2_ n3_ n4_ n5_ n6_
                      clear ho hb hg hat
                      refine hK.out _ _ ⟨HS0_, HS1_⟩ (fun hHeld => ?_)
                      clear hK K
                      refine norm_ (a' := ?_) ?_ ?_
                      rotate_left
                      ·show Act.put _ (some 85) _ = _
                       simp only [Act.put, List.setIfInBounds_toArray, List.set_cons_zero, List.set_cons_succ, i64_w, i32_w]
                       rfl
                      refine one_ (i := 13) (N := some 87) #[true, true, true, true, true, true, true, true, true, true, true, true, true, true, false, false, false, false, false] rfl rfl (one_of HT_.out (by kernel_rfl)) (by decide) (fun K hK => ?_)
                      refine goes_ Try.func64 (by kernel_rfl) rfl #[.pointer (some ⟨g, 0, none⟩), .int .i64 3] (by rfl) rfl rfl pwi_ ?_
                      with_reducible refine (spec_l20Rd_pick.calls k2 g s0_0 t215 3 t238 t239 w0 _ ?side1 ?side2 A55.out).mono ?_
                      (case side1 => repeat (first | (with_reducible first | exact HI0.out | apply IsS68.alloc | apply IsS68.drewN | apply IsS68.drew | apply IsS68.set_1) | exact HI0.out))
                      (case side2 => repeat (first | (with_reducible first | exact HB.out | apply below_alloc | apply pw_below_drewN | apply below_drew1 | refine below_set ?_ (IsS68.ge HI0.out)) | exact HB.out))
                      rintro e w72 ⟨rfl, hi, hb, hk⟩
                      have HS0_ := keep_cell hk (hHeld.1) (by first | (rw [add_block]; exact Kd.own_blk (IsS68.own_ne HI0.out HO_7.out (by decide))) | (show (Addr.add _ _).block ≠ _; rw [add_block]; exact Kd.own_blk (IsS68.own_ne HI0.out HO_7.out (by decide))) | exact Kd.own_blk (IsS68.own_ne HI0.out HO_7.out (by decide)))
                      have HS1_ := keep_cell hk (hHeld.2) (by first | (rw [add_block]; exact Kd.own_blk (IsS68.own_ne HI0.out HO_7.out (by decide))) | (show (Addr.add _ _).block ≠ _; rw [add_block]; exact Kd.own_blk (IsS68.own_ne HI0.out HO_7.out (by decide))) | exact Kd.own_blk (IsS68.own_ne HI0.out HO_7.out (by decide)))
                      refine ⟨_, rfl, ?_⟩
                      have n0_ := Aside0.mk (Kd.R_mono (Kd.R_keep (IsS68.apart (show IsS68 w0 _ g s0_0 t215 from by repeat (first | (with_reducible first | exact HI0.out | apply IsS68.alloc | apply IsS68.drewN | apply IsS68.drew | apply IsS68.set_1) | exact HI0.out)) pwe_ (by decide)) hk (fun _ h => h.2)) (fun _ h => h.1))
                      have n1_ := Aside0.mk (Kd.R_mono (Kd.R_keep (IsS68.apart (show IsS68 w0 _ g s0_0 t215 from by repeat (first | (with_reducible first | exact HI0.out | apply IsS68.alloc | apply IsS68.drewN | apply IsS68.drew | apply IsS68.set_1) | exact HI0.out)) (by (with_reducible repeat apply Kd.R_alloc); exact HL230_0.out) (by decide)) hk (fun _ h => h.2)) (fun _ h => h.1))
                      have n2_ := Aside0.mk (Kd.R_mono (Kd.R_keep (IsS68.apart (show IsS68 w0 _ g s0_0 t215 from by repeat (first | (with_reducible first | exact HI0.out | apply IsS68.alloc | apply IsS68.drewN | apply IsS68.drew | apply IsS68.set_1) | exact HI0.out)) (by (with_reducible repeat apply Kd.R_alloc); exact HL234_0.out) (by decide)) hk (fun _ h => h.2)) (fun _ h => h.1))
                      have n3_ := Aside0.mk (Kd.R_mono (Kd.R_keep (IsS68.apart (show IsS68 w0 _ g s0_0 t215 from by repeat (first | (with_reducible first | exact HI0.out | apply IsS68.alloc | apply IsS68.drewN | apply IsS68.drew | apply IsS68.set_1) | exact HI0.out)) (by (with_reducible repeat apply Kd.R_alloc); exact HO237.out) (by decide)) hk (fun _ h => h.2)) (fun _ h => h.1))
                      have n4_ := Aside0.mk (KeepBut.trans pwj_ hk (.inl rfl))
                      have n5_ := Aside0.mk (hb)
                      have n6_ := Aside0.mk (hi)
                      clear HO_7
                      clear HL230_0
                      clear HL234_0
                      clear HO237
                      clear HK
                      clear HB
                      clear HI0
                      have HO_7 := n0_
                      have HL230_0 := n1_
                      have HL234_0 := n2_
                      have HO237 := n3_
                      have HK := n4_
                      have HB := n5_
                      have HI0 := n6_
                      clear n0_ n1_ n2_ n3_ n4_ n5_ n6_
                      (try clear hb)
                      (try clear hb2)
                      (try clear hk)
                      (try clear hi)
                      refine hK.out _ _ ⟨HS0_, HS1_⟩ (fun hHeld => ?_)
                      clear hK K
                      refine norm_ (a' := ?_) ?_ ?_
                      rotate_left
                      ·show Act.put _ (some 87) _ = _
                       simp only [Act.put, List.setIfInBounds_toArray, List.set_cons_zero, List.set_cons_succ, i64_w, i32_w]
                       rfl
                      refine pure_ (i := 14) (N := some 88) (v := ?_) (a' := ?_) #[true, true, true, true, true, true, true, true, true, true, true, true, true, true, true, false, false, false, false] rfl rfl (any_of HT_.out (by kernel_rfl)) (fun _ _ _ h => h) (Or.inl ⟨by rfl, ?_⟩) ?_ ?_
                      rotate_left
                      ·intro w'
                       go_simp
                       with_reducible rfl
                      rotate_left
                      ·simp only [Act.put, List.setIfInBounds_toArray, List.set_cons_zero, List.set_cons_succ, i64_w, i32_w]
                       rfl
                      refine pure_ (i := 15) (N := some 89) (v := ?_) (a' := ?_) #[true, true, true, true, true, true, true, true, true, true, true, true, true, true, true, true, false, false, false] rfl rfl (any_of HT_.out (by kernel_rfl)) (fun _ _ _ h => h) (Or.inl ⟨by rfl, ?_⟩) ?_ ?_
                      rotate_left
                      ·intro w'
                       go_simp
                       with_reducible rfl
                      rotate_left
                      ·simp only [Act.put, List.setIfInBounds_toArray, List.set_cons_zero, List.set_cons_succ, i64_w, i32_w]
                       rfl
                      refine last_ (i := 16) (N := some 90) #[true, true, true, true, true, true, true, true, true, true, true, true, true, true, true, true, true, false, false] rfl rfl (one_of HT_.out (by kernel_rfl)) (by decide) (fun K hK => ?_)
                      refine value_ (w1 := ?_) (v := ?_) (by rfl) rfl ?_ ?_
                      rotate_left 2
                      ·go_simp
                       constructor
                       ·rfl
                       ·rfl
                      refine hK.out _ _ ?_
                      clear hK K
                      refine norm_ (a' := ?_) ?_ ?_
                      rotate_left
                      ·show Act.put _ (some 90) _ = _
                       simp only [Act.put, List.setIfInBounds_toArray, List.set_cons_zero, List.set_cons_succ, i64_w, i32_w]
                       rfl
                      refine one_ (i := 17) (N := some 91) #[true, true, true, true, true, true, true, true, true, true, true, true, true, true, true, true, true, true, false] rfl rfl (one_of HT_.out (by kernel_rfl)) (by decide) (fun K hK => ?_)
                      refine Kd.R_append_step k41 w.heap.size (by rfl) (.tmp 85) (.tmp 90) 23 41 (.agg #[(.int .i64 0), (.int .i64 0)]) 16 rfl Try.underlying23 info41 rfl (by decide) (by omega) v236 y235 (⟨wrap64 (3 + t238), 0⟩ : S41) [.int .i64 (wrap64 (3 + t238)), .int .i64 0] (fun k_ => some k_ ≠ (.slice A230_0 (rd_L3 x7_2 t212).length c230_0 : Value).ownBlock ∧ some k_ ≠ (.slice A234_0 (rd_L3 x7_2 (ji51)).length c234_0 : Value).ownBlock) (fun _ => False) rfl rfl ?aP (fun _ hk => hk.elim) ?aF ?aO (Below.refl _ _) ?aS ?aL ?_
                      (case aP => exact k41_mkM _ _ _ (⟨wrap64 (3 + t238), 0⟩ : S41))
                      (case aF => exact (fun k_ hk => ⟨Kd.fresh' (Kd.R_lt (by (with_reducible repeat apply Kd.R_alloc); exact HL230_0.out)) k_ hk, Kd.fresh' (Kd.R_lt (by (with_reducible repeat apply Kd.R_alloc); exact HL234_0.out)) k_ hk⟩))
                      (case aO => exact (by (with_reducible repeat apply Kd.R_alloc); exact HO237.out))
                      (case aS => exact (keep_size (w := w) (g := g) (row := none) pwj_))
                      (case aL => have := LMc56.out; omega)
                      intro v241 w73 ho hb hg hat
                      have HS0_ := cell_grown hg (hHeld.1) (by first | (rw [add_block]; exact ((HO_7.out.1 _ rfl).2)) | (show some (Addr.add _ _).block ≠ _; rw [add_block]; exact ((HO_7.out.1 _ rfl).2)) | exact ((HO_7.out.1 _ rfl).2))
                      have HS1_ := cell_grown hg (hHeld.2) (by first | (rw [add_block]; exact ((HO_7.out.1 _ rfl).2)) | (show some (Addr.add _ _).block ≠ _; rw [add_block]; exact ((HO_7.out.1 _ rfl).2)) | exact ((HO_7.out.1 _ rfl).2))
                      rw [← Ny240.out] at ho
                      have n0_ := Aside0.mk (Kd.R_after (ok := (fun _ => True)) pwe_ hg hat)
                      have n1_ := Aside0.mk (IsS68.grown pwk_ hg (IsS68.own_ne HI0.out HO237.out (by decide)))
                      have n2_ := Aside0.mk (Kd.R_after (ok := (fun k_ => some k_ ≠ (.slice (some ad230) x7_2.length co64 : Value).ownBlock)) (by (with_reducible repeat apply Kd.R_alloc); exact HL230_0.out) hg hat)
                      have n3_ := Aside0.mk (Kd.R_after (ok := (fun k_ => some k_ ≠ (.slice (some ad230) x7_2.length co64 : Value).ownBlock)) (by (with_reducible repeat apply Kd.R_alloc); exact HL234_0.out) hg hat)
                      have n4_ := Aside0.mk (below_weaken pwl_ HL.out hb)
                      have n5_ := Aside0.mk (KeepBut.trans pwj_ (KeepBut.of_grown hg g) (Kd.R_base2 HO237.out))
                      have n6_ := Aside0.mk (ho)
                      clear HO_7
                      clear HI0
                      clear HL230_0
                      clear HL234_0
                      clear HB
                      clear HK
                      clear HO237
                      have HO_7 := n0_
                      have HI0 := n1_
                      have HL230_0 := n2_
                      have HL234_0 := n3_
                      have HB := n4_
                      have HK := n5_
                      have HO242 := n6_
                      clear n0_ n1_ n2_ n3_ n4_ n5_ n6_
                      clear ho hb hg hat
                      refine hK.out _ _ ⟨HS0_, HS1_⟩ (fun hHeld => ?_)
                      clear hK K
                      refine norm_ (a' := ?_) ?_ ?_
                      rotate_left
                      ·show Act.put _ (some 91) _ = _
                       simp only [Act.put, List.setIfInBounds_toArray, List.set_cons_zero, List.set_cons_succ, i64_w, i32_w]
                       rfl
                      refine pure_ (i := 18) (N := some 11) (v := ?_) (a' := ?_) #[true, true, true, true, true, true, true, true, true, true, true, true, true, true, true, true, true, true, true] rfl rfl (any_of HT_.out (by kernel_rfl)) (fun _ _ _ h => h) (Or.inl ⟨by rfl, ?_⟩) ?_ ?_
                      rotate_left
                      ·intro w'
                       go_simp
                       with_reducible rfl
                      rotate_left
                      ·simp only [Act.put, List.setIfInBounds_toArray, List.set_cons_zero, List.set_cons_succ, i64_w, i32_w]
                       rfl
                      refine done_ (done_of HT_.out (by kernel_rfl)) ?_
                      try go_wp2_with (first | ((with_reducible refine gate_dst (N := 92) rfl ?_); refine Kd.R_lit (Kd.slice 41 k41) _ 23 ?hg (N := 92) ?hd (xs := ([] : List (List (S41)))) (inner := []) (ok := fun _ => True) (okp := fun _ => True) ?hr ?hp (fun _ hk => hk) trivial (Below.refl _ _) (Nat.le_refl _) (by simp) ?_; (case hd => rfl); (case hg => rfl); (case hr => first | (go_simp; done) | (go_simp; rfl)); (case hp => exact (Reps.none _ _)); intro v244 w74 ho75 hb hg_ hnew_; clear hg_ hnew_; (first | rw [← Ny243.out] at ho75 | (simp only [Int.reduceToNat] at ho75; rw [← Ny243.out] at ho75)); have n0_ := Aside0.mk (Kd.R_elder' pwe_ (Kd.R_base ho75) hb); have n1_ := Aside0.mk (Kd.R_below (by (with_reducible repeat apply Kd.R_alloc); exact HL230_0.out) hb); have n2_ := Aside0.mk (Kd.R_below (by (with_reducible repeat apply Kd.R_alloc); exact HL234_0.out) hb); have n3_ := Aside0.mk (Kd.R_below (by (with_reducible repeat apply Kd.R_alloc); exact HO242.out) hb); have n4_ := Aside0.mk (Kd.R_lower (Kd.R_new' (Kd.R_new' (Kd.R_new' (Kd.R_new' ho75 (Kd.R_lt pwe_)) (Kd.R_lt (by (with_reducible repeat apply Kd.R_alloc); exact HL230_0.out))) (Kd.R_lt (by (with_reducible repeat apply Kd.R_alloc); exact HL234_0.out))) (Kd.R_lt (by (with_reducible repeat apply Kd.R_alloc); exact HO242.out))) (keep_size (w := w) (g := g) (row := none) pwj_)); have n5_ := Aside0.mk (IsS68.below pwk_ hb); have n6_ := Aside0.mk (KeepBut.trans pwj_ (KeepBut.of_below hb g none) (.inl rfl)); have n7_ := Aside0.mk (below_step pwl_ hb); clear HO_7; clear HL230_0; clear HL234_0; clear HO242; clear HI0; clear HK; clear HB; have HO_7 := n0_; have HL230_0 := n1_; have HL234_0 := n2_; have HO242 := n3_; have HO245 := n4_; have HI0 := n5_; have HK := n6_; have HB := n7_; clear n0_ n1_ n2_ n3_ n4_ n5_ n6_ n7_; clear hb ho75; have q76 : (t212 : Int) ≤ ((x7_2.length : Int) : Int) := of_decide_eq_true pwb_; obtain ⟨i076, hi076, _, hsz76, _⟩ := info_parts info23; have hroom76 : x7_2.length ≤ co64 := (Kd.R_reads' HO_7.out).2.1; have hC76 : Kd.C (Kd.slice 41 k41) _ (some ad230) x7_2.length x7_2 := (Kd.R_reads' HO_7.out).2.2; have hcut76 := cut_to (P := Try.prog) 72 23 .i64 Try.underlying72 hi076 (some ad230) x7_2.length co64 t212 (of_decide_eq_true pwb_) q76 hroom76; have hr76 := Kd.C_take (m := (t212 : Int).toNat) hC76 (by omega); have hy76 : y246.length = (t212 : Int).toNat := (by rw [Ny246.out, List.length_take]; omega); rw [← Ny246.out] at hr76; rw [← hy76] at hcut76; have HR249 := Aside0.mk hr76; have HC249 := Aside0.mk (show y246.length ≤ co64 from by omega); clear hr76 hC76 hroom76 hi076 hsz76; have KY76 := Aside0.mk hy76; clear hy76; have KL76 := Aside0.mk (show (t212 : Int).toNat ≤ x7_2.length from by omega); replace q76 := eq_true q76) | ((with_reducible refine gate_builtin (b := .append) (xs := #[.tmp 92, .tmp 95]) rfl ?_); at_builtin; refine Kd.R_append_rows (Kd.slice 41 k41) w.heap.size rfl (.tmp 92) (.tmp 95) 72 23 (.slice none 0 0) 24 rfl Try.underlying72 info23 rfl (by decide) (by omega) v244 y243 y246 _ _ _ (fun k_ => some k_ ≠ (.slice (some ad230) x7_2.length co64 : Value).ownBlock ∧ some k_ ≠ (v241 : Value).ownBlock) (fun k_ => ((fun k_ => some k_ ≠ (.slice (some ad230) x7_2.length co64 : Value).ownBlock ∧ some k_ ≠ (v241 : Value).ownBlock)) k_ ∧ some k_ ≠ (v244 : Value).ownBlock) rfl rfl ?aO ?aR (fun _ _ h => h) (fun _ hk => hk) ?aF (Below.refl _ _) ?aS ?aL ?_; (case aR => rw [Ny246.out]; exact Kd.C_take (m := (t212 : Int).toNat) (Kd.R_frozen (okp := (fun k_ => ((fun k_ => some k_ ≠ (.slice (some ad230) x7_2.length co64 : Value).ownBlock ∧ some k_ ≠ (v241 : Value).ownBlock)) k_ ∧ some k_ ≠ (v244 : Value).ownBlock)) (HO_7.out) (fun k_ hk => ⟨⟨hk.2, hk.1.1.2⟩, hk.1.2⟩)).2.2 KL76.out); (case aF => exact (fun k_ hk => ⟨Kd.fresh' (Kd.R_lt pwe_) k_ hk, Kd.fresh' (Kd.R_lt (by (with_reducible repeat apply Kd.R_alloc); exact HO242.out)) k_ hk⟩)); (case aO => exact (by (with_reducible repeat apply Kd.R_alloc); exact Kd.R_mono HO245.out (fun _ hk => ⟨hk.1.1.1.2, hk.2⟩))); (case aS => exact (keep_size (w := w) (g := g) (row := none) pwj_)); (case aL => have := LMc59.out; omega); intro v251 w77 ho hb hg hat; rw [← Ny250.out] at ho; have n0_ := Aside0.mk (Kd.R_after (ok := (fun k_ => some k_ ≠ (v241 : Value).ownBlock)) (by (with_reducible repeat apply Kd.R_alloc); exact Kd.R_mono HO_7.out (fun _ hk => ⟨hk.1.2, hk.2⟩)) hg hat); have n1_ := Aside0.mk (IsS68.grown pwk_ hg (IsS68.own_ne HI0.out HO245.out (by decide))); have n2_ := Aside0.mk (Kd.R_over' (by (with_reducible repeat apply Kd.R_alloc); exact HO242.out) (Kd.R_typed (by (with_reducible repeat apply Kd.R_alloc); exact HO245.out)) (by decide) hg); have n3_ := Aside0.mk (below_weaken pwl_ HL.out hb); have n4_ := Aside0.mk (KeepBut.trans pwj_ (KeepBut.of_grown hg g) (Kd.R_base2 HO245.out)); have n5_ := Aside0.mk ((show Kd.C (Kd.slice 41 k41) w77 (some ad230) y246.length y246 from by rw [Ny246.out]; exact Kd.C_take (m := (t212 : Int).toNat) ((Kd.R_reads' (Kd.R_after (ok := (fun k_ => some k_ ≠ (v241 : Value).ownBlock)) (by (with_reducible repeat apply Kd.R_alloc); exact Kd.R_mono HO_7.out (fun _ hk => ⟨hk.1.2, hk.2⟩)) hg hat)).2.2) KL76.out)); have n6_ := Aside0.mk (ho); clear HO_7; clear HI0; clear HO242; clear HB; clear HK; clear HR249; clear HO245; have HO_7 := n0_; have HI0 := n1_; have HO242 := n2_; have HB := n3_; have HK := n4_; have HR249 := n5_; have HO252 := n6_; clear n0_ n1_ n2_ n3_ n4_ n5_ n6_; clear ho hb hg hat; obtain ⟨Ao79, co79, eo79⟩ := Kd.R_slice HO242.out; subst eo79) | ((with_reducible refine gate_builtin (b := .append) (xs := #[.tmp 97, .tmp 99]) rfl ?_); at_builtin; refine Kd.R_append (Kd.slice 41 k41) w.heap.size rfl (.tmp 97) (.tmp 99) 72 23 (.slice none 0 0) 24 rfl Try.underlying72 info23 rfl (by decide) (by omega) v251 y250 y240 [.slice Ao79 y240.length co79] (fun k_ => some k_ ≠ (.slice (some ad230) x7_2.length co64 : Value).ownBlock) (fun k_ => ((fun k_ => some k_ ≠ (.slice (some ad230) x7_2.length co64 : Value).ownBlock)) k_ ∧ some k_ ≠ (v251 : Value).ownBlock) rfl rfl ?aP (fun _ hk => hk) ?aF ?aO (Below.refl _ _) ?aS ?aL ?_; (case aP => exact Kd.M_row (Kd.R_mono (Kd.R_apart' (Kd.R_apart' (HO242.out) (Kd.R_typed HO_7.out) (by decide)) (Kd.R_typed HO252.out) (by decide)) (fun k_ hk => ⟨hk.1.2, hk.2⟩))); (case aF => exact (fun k_ hk => Kd.fresh' (Kd.R_lt pwe_) k_ hk)); (case aO => exact (by (with_reducible repeat apply Kd.R_alloc); exact Kd.R_mono HO252.out (fun _ hk => hk.1))); (case aS => exact (keep_size (w := w) (g := g) (row := none) pwj_)); (case aL => have := LMc60.out; omega); intro v254 w78 ho hb hg hat; rw [← Ny253.out] at ho; have n0_ := Aside0.mk (Kd.R_after (ok := (fun k_ => some k_ ≠ (.slice Ao79 y240.length co79 : Value).ownBlock)) pwe_ hg hat); have n1_ := Aside0.mk (IsS68.grown pwk_ hg (IsS68.own_ne HI0.out HO252.out (by decide))); have n2_ := Aside0.mk (below_weaken pwl_ HL.out hb); have n3_ := Aside0.mk (KeepBut.trans pwj_ (KeepBut.of_grown hg g) (Kd.R_base2 HO252.out)); have n4_ := Aside0.mk ((show Kd.C (Kd.slice 41 k41) w78 (some ad230) y246.length y246 from by rw [Ny246.out]; exact Kd.C_take (m := (t212 : Int).toNat) ((Kd.R_reads' (Kd.R_after (ok := (fun k_ => some k_ ≠ (.slice Ao79 y240.length co79 : Value).ownBlock)) pwe_ hg hat)).2.2) KL76.out)); have n5_ := Aside0.mk (ho); clear HO_7; clear HI0; clear HB; clear HK; clear HR249; clear HO252; clear HO242; have HO_7 := n0_; have HI0 := n1_; have HB := n2_; have HK := n3_; have HR249 := n4_; have HO255 := n5_; clear n0_ n1_ n2_ n3_ n4_ n5_; clear ho hb hg hat; have q80 : ((wrap64 (t212 + 2)) : Int) ≤ ((x7_2.length : Int) : Int) := of_decide_eq_true pwb_; obtain ⟨i080, hi080, _, hsz80, _⟩ := info_parts info23; have hroom80 : x7_2.length ≤ co64 := (Kd.R_reads' HO_7.out).2.1; have hC80 : Kd.C (Kd.slice 41 k41) _ (some ad230) x7_2.length x7_2 := (Kd.R_reads' HO_7.out).2.2; have q080 : (0 : Int) ≤ ((wrap64 (t212 + 2)) : Int) := of_decide_eq_true pwb_; have hcut80 := cut_from (P := Try.prog) 72 23 .i64 Try.underlying72 hi080 1 hsz80 (some ad230) x7_2.length co64 (wrap64 (t212 + 2)) q080 q80; have hr80 := Kd.C_drop (m := ((wrap64 (t212 + 2)) : Int).toNat) (c := co64) hC80 (by omega) hroom80; obtain ⟨A80, hA80⟩ : ∃ A1, A1 = (if co64 = ((wrap64 (t212 + 2)) : Int).toNat then (some ad230) else ((some ad230) : Option Addr).map (·.add (((wrap64 (t212 + 2)) : Int).toNat * 1))) := ⟨_, rfl⟩; obtain ⟨c80, hc80⟩ : ∃ c1, c1 = co64 - ((wrap64 (t212 + 2)) : Int).toNat := ⟨_, rfl⟩; have hy80 : y256.length = x7_2.length - ((wrap64 (t212 + 2)) : Int).toNat := (by rw [Ny256.out, List.length_drop] <;> omega); rw [show (x7_2).drop ((wrap64 (t212 + 2)) : Int).toNat = y256 from Ny256.out.symm] at hr80; replace hr80 : Kd.C (Kd.slice 41 k41) _ A80 y256.length y256 := (by rw [hA80]; exact hr80); rw [← hy80, ← hA80, ← hc80] at hcut80; have HR259 := Aside0.mk hr80; have HC259 := Aside0.mk (show y256.length ≤ c80 from by rw [hy80, hc80]; exact Nat.sub_le_sub_right hroom80 _); clear hr80 hC80 hroom80 hi080 hsz80 hc80; have KY80 := Aside0.mk hy80; have KA80 := Aside0.mk hA80; clear hy80 hA80; have KL80 := Aside0.mk (show ((wrap64 (t212 + 2)) : Int).toNat ≤ x7_2.length from by omega); replace q80 := eq_true q80) | ((with_reducible refine gate_builtin (b := .append) (xs := #[.tmp 101, .tmp 105]) rfl ?_); at_builtin; refine Kd.R_append_rows (Kd.slice 41 k41) w.heap.size rfl (.tmp 101) (.tmp 105) 72 23 (.slice none 0 0) 24 rfl Try.underlying72 info23 rfl (by decide) (by omega) v254 y253 y256 _ _ _ (fun k_ => some k_ ≠ (.slice (some ad230) x7_2.length co64 : Value).ownBlock) (fun k_ => ((fun k_ => some k_ ≠ (.slice (some ad230) x7_2.length co64 : Value).ownBlock)) k_ ∧ some k_ ≠ (v254 : Value).ownBlock) rfl rfl ?aO ?aR (fun _ _ h => h) (fun _ hk => hk) ?aF (Below.refl _ _) ?aS ?aL ?_; (case aR => rw [Ny256.out, KA80.out]; exact Kd.C_drop (m := ((wrap64 (t212 + 2)) : Int).toNat) (c := co64) (Kd.R_frozen (okp := (fun k_ => ((fun k_ => some k_ ≠ (.slice (some ad230) x7_2.length co64 : Value).ownBlock)) k_ ∧ some k_ ≠ (v254 : Value).ownBlock)) (HO_7.out) (fun k_ hk => ⟨hk.2, hk.1.2⟩)).2.2 KL80.out (Kd.R_frozen (okp := (fun k_ => ((fun k_ => some k_ ≠ (.slice (some ad230) x7_2.length co64 : Value).ownBlock)) k_ ∧ some k_ ≠ (v254 : Value).ownBlock)) (HO_7.out) (fun k_ hk => ⟨hk.2, hk.1.2⟩)).2.1); (case aF => exact (fun k_ hk => Kd.fresh' (Kd.R_lt pwe_) k_ hk)); (case aO => exact (by (with_reducible repeat apply Kd.R_alloc); exact HO255.out)); (case aS => exact (keep_size (w := w) (g := g) (row := none) pwj_)); (case aL => have := LMc63.out; omega); intro v261 w81 ho hb hg hat; rw [← Ny260.out] at ho; have n0_ := Aside0.mk (Kd.R_after (ok := (fun _ => True)) (by (with_reducible repeat apply Kd.R_alloc); exact Kd.R_mono HO_7.out (fun _ hk => ⟨trivial, hk.2⟩)) hg hat); have n1_ := Aside0.mk (IsS68.grown pwk_ hg (IsS68.own_ne HI0.out HO255.out (by decide))); have n2_ := Aside0.mk (below_weaken pwl_ HL.out hb); have n3_ := Aside0.mk (KeepBut.trans pwj_ (KeepBut.of_grown hg g) (Kd.R_base2 HO255.out)); have n4_ := Aside0.mk ((show Kd.C (Kd.slice 41 k41) w81 (some ad230) y246.length y246 from by rw [Ny246.out]; exact Kd.C_take (m := (t212 : Int).toNat) ((Kd.R_reads' (Kd.R_after (ok := (fun _ => True)) (by (with_reducible repeat apply Kd.R_alloc); exact Kd.R_mono HO_7.out (fun _ hk => ⟨trivial, hk.2⟩)) hg hat)).2.2) KL76.out)); have n5_ := Aside0.mk ((show Kd.C (Kd.slice 41 k41) w81 A80 y256.length y256 from by rw [Ny256.out, KA80.out]; exact Kd.C_drop (m := ((wrap64 (t212 + 2)) : Int).toNat) (c := co64) ((Kd.R_reads' (Kd.R_after (ok := (fun _ => True)) (by (with_reducible repeat apply Kd.R_alloc); exact Kd.R_mono HO_7.out (fun _ hk => ⟨trivial, hk.2⟩)) hg hat)).2.2) KL80.out ((Kd.R_reads' (Kd.R_after (ok := (fun _ => True)) (by (with_reducible repeat apply Kd.R_alloc); exact Kd.R_mono HO_7.out (fun _ hk => ⟨trivial, hk.2⟩)) hg hat)).2.1))); have n6_ := Aside0.mk (ho); clear HO_7; clear HI0; clear HB; clear HK; clear HR249; clear HR259; clear HO255; have HO_7 := n0_; have HI0 := n1_; have HB := n2_; have HK := n3_; have HR249 := n4_; have HR259 := n5_; have HO262 := n6_; clear n0_ n1_ n2_ n3_ n4_ n5_ n6_; clear ho hb hg hat))
                      go_roundg k2
                      case measure => have := HK1.out; have := HK2.out; omega
                      case rel => exact ⟨(y260), (x9_2), (t239), pwa_, H', ⟨by have := HK1.out; have := HK2.out; omega⟩, ⟨by (with_reducible repeat apply Kd.R_alloc); exact Kd.R_mono HO262.out (fun _ hk => trivial)⟩, ⟨pwk_⟩, ⟨pwj_⟩, ⟨pwl_⟩⟩
                     ·rw [if_neg c63] at H
                      exact absurd H (by simp)
                    ·rw [if_neg c62] at H
                     exact absurd H (by simp)
                   ·rw [if_neg c61] at H
                    exact absurd H (by simp)
                  ·rw [if_neg c60] at H
                   exact absurd H (by simp)
                 ·rw [if_neg c59] at H
                  exact absurd H (by simp)
                ·rw [if_neg c58] at H
                 exact absurd H (by simp)
               ·rw [if_neg c56] at H
                exact absurd H (by simp)
              ·rw [if_neg c54] at H
               exact absurd H (by simp)
             ·rw [if_neg c53] at H
              exact absurd H (by simp)
            ·rw [if_neg c52] at H
             exact absurd H (by simp)
           ·rw [if_neg c50] at H
            exact absurd H (by simp)
          ·rw [if_neg c49] at H
           exact absurd H (by simp)
         ·rw [if_neg c48] at H
          exact absurd H (by simp)
       ·rw [if_neg c31] at H
        have c31b0 : decide (0 < x9_2) = false := decide_eq_false c31
        clear c31
        obtain ⟨y263, hy263⟩ : ∃ y_ : List (S41), y_ = (([] : List (S41))) := ⟨_, rfl⟩
        replace H : (if 0 ≤ t212 then (if t212 < (x7_2.length : Int) then (if y263.length + (rd_L3 x7_2 t212).length < 8796093022208 then ((some (y263 ++ (rd_L3 x7_2 t212) : List (S41))).bind fun y267 => (if 0 ≤ (wrap64 (t212 + 1)) then (if (wrap64 (t212 + 1)) < (x7_2.length : Int) then (if y267.length + (rd_L3 x7_2 (wrap64 (t212 + 1))).length < 8796093022208 then ((some (y267 ++ (rd_L3 x7_2 (wrap64 (t212 + 1))) : List (S41))).bind fun y271 => ((spec_l20Rd_pick.f k2 s0_0 t213 3).bind fun bt274 => (if y271.length < 8796093022208 then ((some (([] : List (List (S41))) : List (List (S41)))).bind fun y279 => (if t212 ≤ (x7_2.length : Int) then ((some (x7_2.take (t212 : Int).toNat : List (List (S41)))).bind fun y282 => (if y279.length + y282.length < 5864062014805 then ((some (y279 ++ y282 : List (List (S41)))).bind fun y286 => (if y286.length < 5864062014805 then ((some (y286 ++ [(y271 ++ [(⟨wrap64 (3 + bt274.1), 0⟩ : S41)])] : List (List (S41)))).bind fun y289 => (if 0 ≤ (wrap64 (t212 + 2)) then (if (wrap64 (t212 + 2)) ≤ (x7_2.length : Int) then ((some (x7_2.drop ((wrap64 (t212 + 2)) : Int).toNat : List (List (S41)))).bind fun y292 => (if y289.length + y292.length < 5864062014805 then (spec_l20Term.l1 k2 a2 (y289 ++ y292) x9_2 s0_0 bt274.2) else (none))) else (none)) else (none))) else (none))) else (none))) else (none))) else (none)))) else (none)) else (none)) else (none))) else (none)) else (none)) else (none)) = some (r1, r2) := by first | (rw [hy263]; with_reducible exact H) | (have H2_ := (Option.bind_some _ _).symm.trans H; rw [hy263]; with_reducible exact H2_) | (have H2_ := (Option.bind_some _ _).symm.trans H; with_reducible exact H2_) | with_reducible exact H | (rw [hy263]; exact H) | exact H
        have Ny263 := Aside0.mk hy263
        clear hy263
        by_cases c82 : 0 ≤ t212
        ·rw [if_pos c82] at H
         have c82b0 : decide (0 ≤ t212) = true := decide_eq_true c82
         clear c82
         by_cases c83 : t212 < (x7_2.length : Int)
         ·rw [if_pos c83] at H
          have c83b0 : decide (t212 < (x7_2.length : Int)) = true := decide_eq_true c83
          clear c83
          by_cases c84 : y263.length + (rd_L3 x7_2 t212).length < 8796093022208
          ·rw [if_pos c84] at H
           have LMc84 := Aside0.mk c84
           clear c84
           obtain ⟨y267, hy267⟩ : ∃ y_ : List (S41), y_ = (y263 ++ (rd_L3 x7_2 t212)) := ⟨_, rfl⟩
           replace H : (if 0 ≤ (wrap64 (t212 + 1)) then (if (wrap64 (t212 + 1)) < (x7_2.length : Int) then (if y267.length + (rd_L3 x7_2 (wrap64 (t212 + 1))).length < 8796093022208 then ((some (y267 ++ (rd_L3 x7_2 (wrap64 (t212 + 1))) : List (S41))).bind fun y271 => ((spec_l20Rd_pick.f k2 s0_0 t213 3).bind fun bt274 => (if y271.length < 8796093022208 then ((some (([] : List (List (S41))) : List (List (S41)))).bind fun y279 => (if t212 ≤ (x7_2.length : Int) then ((some (x7_2.take (t212 : Int).toNat : List (List (S41)))).bind fun y282 => (if y279.length + y282.length < 5864062014805 then ((some (y279 ++ y282 : List (List (S41)))).bind fun y286 => (if y286.length < 5864062014805 then ((some (y286 ++ [(y271 ++ [(⟨wrap64 (3 + bt274.1), 0⟩ : S41)])] : List (List (S41)))).bind fun y289 => (if 0 ≤ (wrap64 (t212 + 2)) then (if (wrap64 (t212 + 2)) ≤ (x7_2.length : Int) then ((some (x7_2.drop ((wrap64 (t212 + 2)) : Int).toNat : List (List (S41)))).bind fun y292 => (if y289.length + y292.length < 5864062014805 then (spec_l20Term.l1 k2 a2 (y289 ++ y292) x9_2 s0_0 bt274.2) else (none))) else (none)) else (none))) else (none))) else (none))) else (none))) else (none)))) else (none)) else (none)) else (none)) = some (r1, r2) := by first | (rw [hy267]; with_reducible exact H) | (have H2_ := (Option.bind_some _ _).symm.trans H; rw [hy267]; with_reducible exact H2_) | (have H2_ := (Option.bind_some _ _).symm.trans H; with_reducible exact H2_) | with_reducible exact H | (rw [hy267]; exact H) | exact H
           have Ny267 := Aside0.mk hy267
           clear hy267
           obtain ⟨ji85, hji85⟩ : ∃ j_ : Int, (wrap64 (t212 + 1)) = j_ := ⟨_, rfl⟩
           replace H : (if 0 ≤ (ji85) then (if (ji85) < (x7_2.length : Int) then (if y267.length + (rd_L3 x7_2 (ji85)).length < 8796093022208 then ((some (y267 ++ (rd_L3 x7_2 (ji85)) : List (S41))).bind fun y271 => ((spec_l20Rd_pick.f k2 s0_0 t213 3).bind fun bt274 => (if y271.length < 8796093022208 then ((some (([] : List (List (S41))) : List (List (S41)))).bind fun y279 => (if t212 ≤ (x7_2.length : Int) then ((some (x7_2.take (t212 : Int).toNat : List (List (S41)))).bind fun y282 => (if y279.length + y282.length < 5864062014805 then ((some (y279 ++ y282 : List (List (S41)))).bind fun y286 => (if y286.length < 5864062014805 then ((some (y286 ++ [(y271 ++ [(⟨wrap64 (3 + bt274.1), 0⟩ : S41)])] : List (List (S41)))).bind fun y289 => (if 0 ≤ (wrap64 (t212 + 2)) then (if (wrap64 (t212 + 2)) ≤ (x7_2.length : Int) then ((some (x7_2.drop ((wrap64 (t212 + 2)) : Int).toNat : List (List (S41)))).bind fun y292 => (if y289.length + y292.length < 5864062014805 then (spec_l20Term.l1 k2 a2 (y289 ++ y292) x9_2 s0_0 bt274.2) else (none))) else (none)) else (none))) else (none))) else (none))) else (none))) else (none)))) else (none)) else (none)) else (none)) = some (r1, r2) := by first | (rw [hji85] at H; exact H) | (simp only [hji85] at H ⊢; exact H)
           (try rw [hji85] at A30)
           have hji85w : (IntKind.i64.wrap (t212 + 1)) = ji85 := (i64_w _).trans hji85
           by_cases c86 : 0 ≤ (ji85)
           ·rw [if_pos c86] at H
            have c86b0 : decide (0 ≤ (ji85)) = true := decide_eq_true c86
            clear c86
            by_cases c87 : (ji85) < (x7_2.length : Int)
            ·rw [if_pos c87] at H
             have c87b0 : decide ((ji85) < (x7_2.length : Int)) = true := decide_eq_true c87
             clear c87
             by_cases c88 : y267.length + (rd_L3 x7_2 (ji85)).length < 8796093022208
             ·rw [if_pos c88] at H
              have LMc88 := Aside0.mk c88
              clear c88
              obtain ⟨y271, hy271⟩ : ∃ y_ : List (S41), y_ = (y267 ++ (rd_L3 x7_2 (ji85))) := ⟨_, rfl⟩
              replace H : ((spec_l20Rd_pick.f k2 s0_0 t213 3).bind fun bt274 => (if y271.length < 8796093022208 then ((some (([] : List (List (S41))) : List (List (S41)))).bind fun y279 => (if t212 ≤ (x7_2.length : Int) then ((some (x7_2.take (t212 : Int).toNat : List (List (S41)))).bind fun y282 => (if y279.length + y282.length < 5864062014805 then ((some (y279 ++ y282 : List (List (S41)))).bind fun y286 => (if y286.length < 5864062014805 then ((some (y286 ++ [(y271 ++ [(⟨wrap64 (3 + bt274.1), 0⟩ : S41)])] : List (List (S41)))).bind fun y289 => (if 0 ≤ (wrap64 (t212 + 2)) then (if (wrap64 (t212 + 2)) ≤ (x7_2.length : Int) then ((some (x7_2.drop ((wrap64 (t212 + 2)) : Int).toNat : List (List (S41)))).bind fun y292 => (if y289.length + y292.length < 5864062014805 then (spec_l20Term.l1 k2 a2 (y289 ++ y292) x9_2 s0_0 bt274.2) else (none))) else (none)) else (none))) else (none))) else (none))) else (none))) else (none))) = some (r1, r2) := by first | (rw [hy271]; with_reducible exact H) | (have H2_ := (Option.bind_some _ _).symm.trans H; rw [hy271]; with_reducible exact H2_) | (have H2_ := (Option.bind_some _ _).symm.trans H; with_reducible exact H2_) | with_reducible exact H | (rw [hy271]; exact H) | exact H
              have Ny271 := Aside0.mk hy271
              clear hy271
              replace H := Option.bind_eq_some_iff.mp H
              obtain ⟨⟨t274, t275⟩, A890, H⟩ := H
              replace H : (if y271.length < 8796093022208 then ((some (([] : List (List (S41))) : List (List (S41)))).bind fun y279 => (if t212 ≤ (x7_2.length : Int) then ((some (x7_2.take (t212 : Int).toNat : List (List (S41)))).bind fun y282 => (if y279.length + y282.length < 5864062014805 then ((some (y279 ++ y282 : List (List (S41)))).bind fun y286 => (if y286.length < 5864062014805 then ((some (y286 ++ [(y271 ++ [(⟨wrap64 (3 + t274), 0⟩ : S41)])] : List (List (S41)))).bind fun y289 => (if 0 ≤ (wrap64 (t212 + 2)) then (if (wrap64 (t212 + 2)) ≤ (x7_2.length : Int) then ((some (x7_2.drop ((wrap64 (t212 + 2)) : Int).toNat : List (List (S41)))).bind fun y292 => (if y289.length + y292.length < 5864062014805 then (spec_l20Term.l1 k2 a2 (y289 ++ y292) x9_2 s0_0 t275) else (none))) else (none)) else (none))) else (none))) else (none))) else (none))) else (none)) = some (r1, r2) := H
              have A89 := Aside0.mk A890
              clear A890
              by_cases c90 : y271.length < 8796093022208
              ·rw [if_pos c90] at H
               have LMc90 := Aside0.mk c90
               clear c90
               obtain ⟨y276, hy276⟩ : ∃ y_ : List (S41), y_ = (y271 ++ [(⟨wrap64 (3 + t274), 0⟩ : S41)]) := ⟨_, rfl⟩
               replace H : ((some (([] : List (List (S41))) : List (List (S41)))).bind fun y279 => (if t212 ≤ (x7_2.length : Int) then ((some (x7_2.take (t212 : Int).toNat : List (List (S41)))).bind fun y282 => (if y279.length + y282.length < 5864062014805 then ((some (y279 ++ y282 : List (List (S41)))).bind fun y286 => (if y286.length < 5864062014805 then ((some (y286 ++ [y276] : List (List (S41)))).bind fun y289 => (if 0 ≤ (wrap64 (t212 + 2)) then (if (wrap64 (t212 + 2)) ≤ (x7_2.length : Int) then ((some (x7_2.drop ((wrap64 (t212 + 2)) : Int).toNat : List (List (S41)))).bind fun y292 => (if y289.length + y292.length < 5864062014805 then (spec_l20Term.l1 k2 a2 (y289 ++ y292) x9_2 s0_0 t275) else (none))) else (none)) else (none))) else (none))) else (none))) else (none))) = some (r1, r2) := by first | (rw [hy276]; with_reducible exact H) | (have H2_ := (Option.bind_some _ _).symm.trans H; rw [hy276]; with_reducible exact H2_) | (have H2_ := (Option.bind_some _ _).symm.trans H; with_reducible exact H2_) | with_reducible exact H | (rw [hy276]; exact H) | exact H
               have Ny276 := Aside0.mk hy276
               clear hy276
               obtain ⟨y279, hy279⟩ : ∃ y_ : List (List (S41)), y_ = (([] : List (List (S41)))) := ⟨_, rfl⟩
               replace H : (if t212 ≤ (x7_2.length : Int) then ((some (x7_2.take (t212 : Int).toNat : List (List (S41)))).bind fun y282 => (if y279.length + y282.length < 5864062014805 then ((some (y279 ++ y282 : List (List (S41)))).bind fun y286 => (if y286.length < 5864062014805 then ((some (y286 ++ [y276] : List (List (S41)))).bind fun y289 => (if 0 ≤ (wrap64 (t212 + 2)) then (if (wrap64 (t212 + 2)) ≤ (x7_2.length : Int) then ((some (x7_2.drop ((wrap64 (t212 + 2)) : Int).toNat : List (List (S41)))).bind fun y292 => (if y289.length + y292.length < 5864062014805 then (spec_l20Term.l1 k2 a2 (y289 ++ y292) x9_2 s0_0 t275) else (none))) else (none)) else (none))) else (none))) else (none))) else (none)) = some (r1, r2) := by first | (rw [hy279]; with_reducible exact H) | (have H2_ := (Option.bind_some _ _).symm.trans H; rw [hy279]; with_reducible exact H2_) | (have H2_ := (Option.bind_some _ _).symm.trans H; with_reducible exact H2_) | with_reducible exact H | (rw [hy279]; exact H) | exact H
               have Ny279 := Aside0.mk hy279
               clear hy279
               have c91b0 := eq_true (of_decide_eq_true pwb_ : 0 ≤ t212)
               by_cases c92 : t212 ≤ (x7_2.length : Int)
               ·rw [if_pos c92] at H
                have c92b0 := eq_true c92
                have c92b1 : decide (t212 ≤ (x7_2.length : Int)) = true := decide_eq_true c92
                clear c92
                obtain ⟨y282, hy282⟩ : ∃ y_ : List (List (S41)), y_ = (x7_2.take (t212 : Int).toNat) := ⟨_, rfl⟩
                replace H : (if y279.length + y282.length < 5864062014805 then ((some (y279 ++ y282 : List (List (S41)))).bind fun y286 => (if y286.length < 5864062014805 then ((some (y286 ++ [y276] : List (List (S41)))).bind fun y289 => (if 0 ≤ (wrap64 (t212 + 2)) then (if (wrap64 (t212 + 2)) ≤ (x7_2.length : Int) then ((some (x7_2.drop ((wrap64 (t212 + 2)) : Int).toNat : List (List (S41)))).bind fun y292 => (if y289.length + y292.length < 5864062014805 then (spec_l20Term.l1 k2 a2 (y289 ++ y292) x9_2 s0_0 t275) else (none))) else (none)) else (none))) else (none))) else (none)) = some (r1, r2) := by first | (rw [hy282]; with_reducible exact H) | (have H2_ := (Option.bind_some _ _).symm.trans H; rw [hy282]; with_reducible exact H2_) | (have H2_ := (Option.bind_some _ _).symm.trans H; with_reducible exact H2_) | with_reducible exact H | (rw [hy282]; exact H) | exact H
                have Ny282 := Aside0.mk hy282
                clear hy282
                by_cases c93 : y279.length + y282.length < 5864062014805
                ·rw [if_pos c93] at H
                 have LMc93 := Aside0.mk c93
                 clear c93
                 obtain ⟨y286, hy286⟩ : ∃ y_ : List (List (S41)), y_ = (y279 ++ y282) := ⟨_, rfl⟩
                 replace H : (if y286.length < 5864062014805 then ((some (y286 ++ [y276] : List (List (S41)))).bind fun y289 => (if 0 ≤ (wrap64 (t212 + 2)) then (if (wrap64 (t212 + 2)) ≤ (x7_2.length : Int) then ((some (x7_2.drop ((wrap64 (t212 + 2)) : Int).toNat : List (List (S41)))).bind fun y292 => (if y289.length + y292.length < 5864062014805 then (spec_l20Term.l1 k2 a2 (y289 ++ y292) x9_2 s0_0 t275) else (none))) else (none)) else (none))) else (none)) = some (r1, r2) := by first | (rw [hy286]; with_reducible exact H) | (have H2_ := (Option.bind_some _ _).symm.trans H; rw [hy286]; with_reducible exact H2_) | (have H2_ := (Option.bind_some _ _).symm.trans H; with_reducible exact H2_) | with_reducible exact H | (rw [hy286]; exact H) | exact H
                 have Ny286 := Aside0.mk hy286
                 clear hy286
                 by_cases c94 : y286.length < 5864062014805
                 ·rw [if_pos c94] at H
                  have LMc94 := Aside0.mk c94
                  clear c94
                  obtain ⟨y289, hy289⟩ : ∃ y_ : List (List (S41)), y_ = (y286 ++ [y276]) := ⟨_, rfl⟩
                  replace H : (if 0 ≤ (wrap64 (t212 + 2)) then (if (wrap64 (t212 + 2)) ≤ (x7_2.length : Int) then ((some (x7_2.drop ((wrap64 (t212 + 2)) : Int).toNat : List (List (S41)))).bind fun y292 => (if y289.length + y292.length < 5864062014805 then (spec_l20Term.l1 k2 a2 (y289 ++ y292) x9_2 s0_0 t275) else (none))) else (none)) else (none)) = some (r1, r2) := by first | (rw [hy289]; with_reducible exact H) | (have H2_ := (Option.bind_some _ _).symm.trans H; rw [hy289]; with_reducible exact H2_) | (have H2_ := (Option.bind_some _ _).symm.trans H; with_reducible exact H2_) | with_reducible exact H | (rw [hy289]; exact H) | exact H
                  have Ny289 := Aside0.mk hy289
                  clear hy289
                  by_cases c95 : 0 ≤ (wrap64 (t212 + 2))
                  ·rw [if_pos c95] at H
                   have c95b0 := eq_true c95
                   have c95b1 : decide (0 ≤ (wrap64 (t212 + 2))) = true := decide_eq_true c95
                   by_cases c96 : (wrap64 (t212 + 2)) ≤ (x7_2.length : Int)
                   ·rw [if_pos c96] at H
                    have c96b0 := eq_true c96
                    have c96b1 : decide ((wrap64 (t212 + 2)) ≤ (x7_2.length : Int)) = true := decide_eq_true c96
                    obtain ⟨y292, hy292⟩ : ∃ y_ : List (List (S41)), y_ = (x7_2.drop ((wrap64 (t212 + 2)) : Int).toNat) := ⟨_, rfl⟩
                    replace H : (if y289.length + y292.length < 5864062014805 then (spec_l20Term.l1 k2 a2 (y289 ++ y292) x9_2 s0_0 t275) else (none)) = some (r1, r2) := by first | (rw [hy292]; with_reducible exact H) | (have H2_ := (Option.bind_some _ _).symm.trans H; rw [hy292]; with_reducible exact H2_) | (have H2_ := (Option.bind_some _ _).symm.trans H; with_reducible exact H2_) | with_reducible exact H | (rw [hy292]; exact H) | exact H
                    have Ny292 := Aside0.mk hy292
                    clear hy292
                    by_cases c97 : y289.length + y292.length < 5864062014805
                    ·rw [if_pos c97] at H
                     have LMc97 := Aside0.mk c97
                     clear c97
                     obtain ⟨y296, hy296⟩ : ∃ y_ : List (List (S41)), y_ = (y289 ++ y292) := ⟨_, rfl⟩
                     replace H : (spec_l20Term.l1 k2 a2 y296 x9_2 s0_0 t275) = some (r1, r2) := by first | (rw [hy296]; with_reducible exact H) | (have H2_ := (Option.bind_some _ _).symm.trans H; rw [hy296]; with_reducible exact H2_) | (have H2_ := (Option.bind_some _ _).symm.trans H; with_reducible exact H2_) | with_reducible exact H | (rw [hy296]; exact H) | exact H
                     have Ny296 := Aside0.mk hy296
                     clear hy296
                     have H' := Aside0.mk H
                     clear H
                     obtain ⟨Ao98, co98, eo98⟩ := Kd.R_slice HO_7.out
                     subst eo98
                     try go_wp2_with (first | ((with_reducible refine gate_callee (f := 64) rfl ?_); refine goesL_ (some 52) rfl rfl Try.func64 (by kernel_rfl) rfl #[.pointer (some ⟨g, 0, none⟩), .int .i64 (wrap64 ((x7_2.length : Int) - 1))] rfl pwi_ ?_; (with_reducible refine (spec_l20Rd_pick.calls k2 g s0_0 x1001_2 (wrap64 ((x7_2.length : Int) - 1)) t212 t213 w0 _ ?side1 ?side2 A30.out).mono ?_); (case side1 => repeat (first | (with_reducible first | exact HI0.out | apply IsS68.alloc | apply IsS68.drewN | apply IsS68.drew | apply IsS68.set_1) | exact HI0.out)); (case side2 => repeat (first | (with_reducible first | exact HB.out | apply below_alloc | apply pw_below_drewN | apply below_drew1 | refine below_set ?_ (IsS68.ge HI0.out)) | exact HB.out)); rintro e w99 ⟨rfl, hi, hb, hk⟩; refine ⟨_, rfl, ?_⟩; have n0_ := Aside0.mk (Kd.R_mono (Kd.R_keep (IsS68.apart (show IsS68 w0 _ g s0_0 x1001_2 from by repeat (first | (with_reducible first | exact HI0.out | apply IsS68.alloc | apply IsS68.drewN | apply IsS68.drew | apply IsS68.set_1) | exact HI0.out)) pwe_ (by decide)) hk (fun _ h => h.2)) (fun _ h => h.1)); have n1_ := Aside0.mk (KeepBut.trans pwj_ hk (.inl rfl)); have n2_ := Aside0.mk (hb); have n3_ := Aside0.mk (hi); clear HO_7; clear HK; clear HB; clear HI0; have HO_7 := n0_; have HK := n1_; have HB := n2_; have HI0 := n3_; clear n0_ n1_ n2_ n3_; (try clear hb); (try clear hb2); (try clear hk); (try clear hi)))
                     have n0_ := Aside0.mk (Kd.R_drew HO_7.out)
                     have n1_ := Aside0.mk (IsS68.drew HI0.out)
                     have n2_ := Aside0.mk (keep_drew HK.out)
                     have n3_ := Aside0.mk (below_drew1 HB.out)
                     clear HO_7
                     clear HI0
                     clear HK
                     clear HB
                     have HO_7 := n0_
                     have HI0 := n1_
                     have HK := n2_
                     have HB := n3_
                     clear n0_ n1_ n2_ n3_
                     have p266 : 0 ≤ (t212 : Int) := of_decide_eq_true pwb_
                     have q266 : t212 < (x7_2.length : Int) := of_decide_eq_true pwb_
                     obtain ⟨ad266, A266_0, c266_0, e266, hx266_0, hl266_0, hi266_0⟩ := at_L3 (Kd.R_reads' HO_7.out).2.2 t212 p266 q266
                     cases e266
                     obtain ⟨ce266, hce266, hMe266, hcc266⟩ := Kd.R_get HO_7.out [] t212 p266 (by first | exact q266 | exact of_decide_eq_true pwb_ | (have e_ := (Kd.R_reads' HO_7.out).1; omega))
                     obtain ⟨ve266_0, rfl, ge266_0⟩ := hMe266
                     have hv266_0 := hcc266 0 _ rfl
                     rw [Nat.add_zero, show ((Kd.slice 41 k41)).sz = 1 from rfl, Nat.mul_one] at hv266_0
                     replace hv266_0 := Option.some.inj (hv266_0.symm.trans hx266_0)
                     rw [hv266_0] at ge266_0
                     have HL266_0 := Aside0.mk (show Kd.R k41 41 _ _ _ _ (rd_L3 x7_2 t212) from ge266_0)
                     clear hv266_0 ge266_0
                     clear hcc266 hce266
                     have HR266_0 := Aside0.mk hi266_0
                     have HC266_0 := Aside0.mk hl266_0
                     clear hi266_0 hl266_0
                     replace p266 := eq_true p266
                     replace q266 := eq_true q266
                     have p270 : 0 ≤ ((ji85) : Int) := of_decide_eq_true pwb_
                     have q270 : (ji85) < (x7_2.length : Int) := of_decide_eq_true pwb_
                     obtain ⟨ad270, A270_0, c270_0, e270, hx270_0, hl270_0, hi270_0⟩ := at_L3 (Kd.R_reads' HO_7.out).2.2 (ji85) p270 q270
                     obtain rfl : ad266 = ad270 := (by injection e270)
                     obtain ⟨ce270, hce270, hMe270, hcc270⟩ := Kd.R_get HO_7.out [] (ji85) p270 (by first | exact q270 | exact of_decide_eq_true pwb_ | (have e_ := (Kd.R_reads' HO_7.out).1; omega))
                     obtain ⟨ve270_0, rfl, ge270_0⟩ := hMe270
                     have hv270_0 := hcc270 0 _ rfl
                     rw [Nat.add_zero, show ((Kd.slice 41 k41)).sz = 1 from rfl, Nat.mul_one] at hv270_0
                     replace hv270_0 := Option.some.inj (hv270_0.symm.trans hx270_0)
                     rw [hv270_0] at ge270_0
                     have HL270_0 := Aside0.mk (show Kd.R k41 41 _ _ _ _ (rd_L3 x7_2 (ji85)) from ge270_0)
                     clear hv270_0 ge270_0
                     clear hcc270 hce270
                     have HR270_0 := Aside0.mk hi270_0
                     have HC270_0 := Aside0.mk hl270_0
                     clear hi270_0 hl270_0
                     replace p270 := eq_true p270
                     replace q270 := eq_true q270
                     refine start_ (n := 19) (S := fun w' => w'.cell? (ad266.add (t212).toNat) = some (.slice A266_0 (rd_L3 x7_2 t212).length c266_0) ∧ w'.cell? (ad266.add ((ji85)).toNat) = some (.slice A270_0 (rd_L3 x7_2 (ji85)).length c270_0)) (ds := [16]) #[false, false, false, false, false, false, false, false, false, false, false, false, false, false, false, false, false, false, false] (by kernel_rfl) rfl rfl ⟨hx266_0, hx270_0⟩ (fun hHeld => ?_); refine with_tabW spec_l20Term.tab15 spec_l20Term.bits15 (fun HT_ HW_ => ?_)
                     generalize w99.drew = w100 at HO_7 HI0 HK HB HL266_0 HL270_0 HR266_0 HR270_0 hx266_0 hx270_0 hHeld ⊢
                     refine pure_ (i := 1) (N := some 75) (v := ?_) (a' := ?_) #[false, true, false, false, false, false, false, false, false, false, false, false, false, false, false, false, false, false, false] rfl rfl (any_of HT_.out (by kernel_rfl)) (fun _ _ _ h => h) (Or.inl ⟨by rfl, ?_⟩) ?_ ?_
                     rotate_left
                     ·intro w'
                      go_simp
                      with_reducible rfl
                     rotate_left
                     ·simp only [Act.put, List.setIfInBounds_toArray, List.set_cons_zero, List.set_cons_succ, i64_w, i32_w]
                      rfl
                     refine pure_ (i := 2) (N := some 76) (v := ?_) (a' := ?_) #[false, true, true, false, false, false, false, false, false, false, false, false, false, false, false, false, false, false, false] rfl rfl (any_of HT_.out (by kernel_rfl)) (fun _ _ _ h => h) (Or.inl ⟨by rfl, ?_⟩) ?_ ?_
                     rotate_left
                     ·intro w'
                      go_simp
                      with_reducible rfl
                     rotate_left
                     ·simp only [Act.put, List.setIfInBounds_toArray, List.set_cons_zero, List.set_cons_succ, i64_w, i32_w]
                      rfl
                     refine pure_ (i := 3) (N := some 77) (v := ?_) (a' := ?_) #[false, true, true, true, false, false, false, false, false, false, false, false, false, false, false, false, false, false, false] rfl rfl (any_of HT_.out (by kernel_rfl)) (fun _ _ _ h => h) (Or.inl ⟨by rfl, ?_⟩) ?_ ?_
                     rotate_left
                     ·intro w'
                      go_simp
                      with_reducible rfl
                     rotate_left
                     ·simp only [Act.put, List.setIfInBounds_toArray, List.set_cons_zero, List.set_cons_succ, i64_w, i32_w]
                      rfl
                     refine pure_ (i := 6) (N := some 80) (v := ?_) (a' := ?_) #[false, true, true, true, false, false, true, false, false, false, false, false, false, false, false, false, false, false, false] rfl rfl (any_of HT_.out (by kernel_rfl)) (fun _ _ _ h => h) (Or.inl ⟨by rfl, ?_⟩) ?_ ?_
                     rotate_left
                     ·intro w'
                      go_simp
                      with_reducible rfl
                     rotate_left
                     ·simp only [Act.put, List.setIfInBounds_toArray, List.set_cons_zero, List.set_cons_succ, i64_w, i32_w]
                      rfl
                     refine pure_ (i := 7) (N := some 81) (v := ?_) (a' := ?_) #[false, true, true, true, false, false, true, true, false, false, false, false, false, false, false, false, false, false, false] rfl rfl (any_of HT_.out (by kernel_rfl)) (fun _ _ _ h => h) (Or.inl ⟨by rfl, ?_⟩) ?_ ?_
                     rotate_left
                     ·intro w'
                      go_simp
                      with_reducible rfl
                     rotate_left
                     ·simp only [Act.put, List.setIfInBounds_toArray, List.set_cons_zero, List.set_cons_succ, i64_w, i32_w]
                      rfl
                     refine pure_ (i := 8) (N := some 82) (v := ?_) (a' := ?_) #[false, true, true, true, false, false, true, true, true, false, false, false, false, false, false, false, false, false, false] rfl rfl (any_of HT_.out (by kernel_rfl)) (fun _ _ _ h => h) (Or.inl ⟨by rfl, ?_⟩) ?_ ?_
                     rotate_left
                     ·intro w'
                      go_simp
                      with_reducible rfl
                     rotate_left
                     ·simp only [Act.put, List.setIfInBounds_toArray, List.set_cons_zero, List.set_cons_succ, i64_w, i32_w]
                      rfl
                     refine pure_ (i := 9) (N := some 83) (v := ?_) (a' := ?_) #[false, true, true, true, false, false, true, true, true, true, false, false, false, false, false, false, false, false, false] rfl rfl (any_of HT_.out (by kernel_rfl)) (fun _ _ _ h => h) (Or.inl ⟨by rfl, ?_⟩) ?_ ?_
                     rotate_left
                     ·intro w'
                      go_simp
                      with_reducible rfl
                     rotate_left
                     ·simp only [Act.put, List.setIfInBounds_toArray, List.set_cons_zero, List.set_cons_succ, i64_w, i32_w]
                      rfl
                     refine pure_ (i := 12) (N := some 86) (v := ?_) (a' := ?_) #[false, true, true, true, false, false, true, true, true, true, false, false, true, false, false, false, false, false, false] rfl rfl (any_of HT_.out (by kernel_rfl)) (fun _ _ _ h => h) (Or.inl ⟨by rfl, ?_⟩) ?_ ?_
                     rotate_left
                     ·intro w'
                      go_simp
                      with_reducible rfl
                     rotate_left
                     ·simp only [Act.put, List.setIfInBounds_toArray, List.set_cons_zero, List.set_cons_succ, i64_w, i32_w]
                      rfl
                     refine take_ (i := 4) (N := some 78) (v := ?_) (a' := ?_) #[false, true, true, true, true, false, true, true, true, true, false, false, true, false, false, false, false, false, false] rfl rfl (take_ofW HT_.out HW_.out (by kernel_rfl)) (fun _ _ _ h => h) (Or.inl ⟨by rfl, ?_⟩) hHeld ?_ ?_
                     rotate_left
                     ·rintro w' ⟨s0, s1⟩
                      go_simp
                      with_reducible rfl
                     rotate_left
                     ·simp only [Act.put, List.setIfInBounds_toArray, List.set_cons_zero, List.set_cons_succ, i64_w, i32_w]
                      rfl
                     refine take_ (i := 10) (N := some 84) (v := ?_) (a' := ?_) #[false, true, true, true, true, false, true, true, true, true, true, false, true, false, false, false, false, false, false] rfl rfl (take_ofW HT_.out HW_.out (by kernel_rfl)) (fun _ _ _ h => h) (Or.inl ⟨by rfl, ?_⟩) hHeld ?_ ?_
                     rotate_left
                     ·rintro w' ⟨s0, s1⟩
                      go_simp
                      with_reducible rfl
                     rotate_left
                     ·simp only [Act.put, List.setIfInBounds_toArray, List.set_cons_zero, List.set_cons_succ, i64_w, i32_w]
                      rfl
                     refine one_ (i := 0) (N := some 74) #[true, true, true, true, true, false, true, true, true, true, true, false, true, false, false, false, false, false, false] rfl rfl (one_of HT_.out (by kernel_rfl)) (by decide) (fun K hK => ?_)
                     refine Kd.R_lit_step k41 _ 41 ?hg (N := 74) ?hd (xs := ([] : List (S41))) (inner := []) (ok := fun _ => True) (okp := fun _ => True) ?hr ?hp (fun _ hk => hk) trivial (Below.refl _ _) (Nat.le_refl _) (by simp) ?_; (case hd => rfl); (case hg => rfl); (case hr => first | (go_simp; done) | (go_simp; rfl)); (case hp => exact (Reps.none _ _))
                     intro v264 w101 ho102 hb hg_ hnew_
                     have HS0_ := (hb.cell (World.block_lt_of_cell? _ _ (hHeld.1))).trans (hHeld.1)
                     have HS1_ := (hb.cell (World.block_lt_of_cell? _ _ (hHeld.2))).trans (hHeld.2)
                     clear hg_ hnew_
                     (first | rw [← Ny263.out] at ho102 | (simp only [Int.reduceToNat] at ho102; rw [← Ny263.out] at ho102))
                     have n0_ := Aside0.mk (Kd.R_elder' pwe_ (Kd.R_base ho102) hb)
                     have n1_ := Aside0.mk (Kd.R_elder' (by (with_reducible repeat apply Kd.R_alloc); exact HL266_0.out) (Kd.R_base ho102) hb)
                     have n2_ := Aside0.mk (Kd.R_elder' (by (with_reducible repeat apply Kd.R_alloc); exact HL270_0.out) (Kd.R_base ho102) hb)
                     have n3_ := Aside0.mk (Kd.R_lower (Kd.R_new' (Kd.R_new' ho102 (Kd.R_lt (by (with_reducible repeat apply Kd.R_alloc); exact HL266_0.out))) (Kd.R_lt (by (with_reducible repeat apply Kd.R_alloc); exact HL270_0.out))) (keep_size (w := w) (g := g) (row := none) pwj_))
                     have n4_ := Aside0.mk (IsS68.below pwk_ hb)
                     have n5_ := Aside0.mk (Kd.C_below (by repeat (first | (with_reducible exact HR266_0.out) | (with_reducible refine Kd.C_alloc ?_ _) | (with_reducible refine Kd.C_drewN ?_ _) | (with_reducible refine Kd.C_drew ?_) | exact HR266_0.out)) hb)
                     have n6_ := Aside0.mk (Kd.C_below (by repeat (first | (with_reducible exact HR270_0.out) | (with_reducible refine Kd.C_alloc ?_ _) | (with_reducible refine Kd.C_drewN ?_ _) | (with_reducible refine Kd.C_drew ?_) | exact HR270_0.out)) hb)
                     have n7_ := Aside0.mk (KeepBut.trans pwj_ (KeepBut.of_below hb g none) (.inl rfl))
                     have n8_ := Aside0.mk (below_step pwl_ hb)
                     clear HO_7
                     clear HL266_0
                     clear HL270_0
                     clear HI0
                     clear HR266_0
                     clear HR270_0
                     clear HK
                     clear HB
                     have HO_7 := n0_
                     have HL266_0 := n1_
                     have HL270_0 := n2_
                     have HO265 := n3_
                     have HI0 := n4_
                     have HR266_0 := n5_
                     have HR270_0 := n6_
                     have HK := n7_
                     have HB := n8_
                     clear n0_ n1_ n2_ n3_ n4_ n5_ n6_ n7_ n8_
                     clear hb ho102
                     refine hK.out _ _ ⟨HS0_, HS1_⟩ (fun hHeld => ?_)
                     clear hK K
                     refine norm_ (a' := ?_) ?_ ?_
                     rotate_left
                     ·show Act.put _ (some 74) _ = _
                      simp only [Act.put, List.setIfInBounds_toArray, List.set_cons_zero, List.set_cons_succ, i64_w, i32_w]
                      rfl
                     refine one_ (i := 5) (N := some 79) #[true, true, true, true, true, true, true, true, true, true, true, false, true, false, false, false, false, false, false] rfl rfl (one_of HT_.out (by kernel_rfl)) (by decide) (fun K hK => ?_)
                     refine Kd.R_append_rows_step k41 w.heap.size (by rfl) (.tmp 74) (.tmp 78) 23 41 (.agg #[(.int .i64 0), (.int .i64 0)]) 16 rfl Try.underlying23 info41 rfl (by decide) (by omega) v264 y263 (rd_L3 x7_2 t212) _ _ _ (fun k_ => some k_ ≠ (.slice A266_0 (rd_L3 x7_2 t212).length c266_0 : Value).ownBlock ∧ some k_ ≠ (.slice A270_0 (rd_L3 x7_2 (ji85)).length c270_0 : Value).ownBlock) (fun _ => False) rfl rfl ?aO ?aR (fun _ _ h => h) (fun _ h => h.elim) ?aF (Below.refl _ _) ?aS ?aL ?_
                     (case aR => repeat (first | exact (by repeat (first | (with_reducible exact HR266_0.out) | (with_reducible refine Kd.C_alloc ?_ _) | (with_reducible refine Kd.C_drewN ?_ _) | (with_reducible refine Kd.C_drew ?_) | exact HR266_0.out)) | (with_reducible refine Kd.C_alloc ?_ _) | (with_reducible refine Kd.C_drewN ?_ _) | (with_reducible refine Kd.C_drew ?_)))
                     (case aF => exact (fun k_ hk => ⟨Kd.fresh' (Kd.R_lt (by (with_reducible repeat apply Kd.R_alloc); exact HL266_0.out)) k_ hk, Kd.fresh' (Kd.R_lt (by (with_reducible repeat apply Kd.R_alloc); exact HL270_0.out)) k_ hk⟩))
                     (case aO => exact (by (with_reducible repeat apply Kd.R_alloc); exact Kd.R_mono HO265.out (fun _ hk => ⟨hk.1.2, hk.2⟩)))
                     (case aS => exact (keep_size (w := w) (g := g) (row := none) pwj_))
                     (case aL => have := LMc84.out; omega)
                     intro v268 w103 ho hb hg hat
                     have HS0_ := cell_grown hg (hHeld.1) (by first | (rw [add_block]; exact ((HO_7.out.1 _ rfl).2)) | (show some (Addr.add _ _).block ≠ _; rw [add_block]; exact ((HO_7.out.1 _ rfl).2)) | exact ((HO_7.out.1 _ rfl).2))
                     have HS1_ := cell_grown hg (hHeld.2) (by first | (rw [add_block]; exact ((HO_7.out.1 _ rfl).2)) | (show some (Addr.add _ _).block ≠ _; rw [add_block]; exact ((HO_7.out.1 _ rfl).2)) | exact ((HO_7.out.1 _ rfl).2))
                     rw [← Ny267.out] at ho
                     have n0_ := Aside0.mk (Kd.R_after (ok := (fun _ => True)) pwe_ hg hat)
                     have n1_ := Aside0.mk (IsS68.grown pwk_ hg (IsS68.own_ne HI0.out HO265.out (by decide)))
                     have n2_ := Aside0.mk (Kd.R_after (ok := (fun k_ => some k_ ≠ (.slice (some ad266) x7_2.length co98 : Value).ownBlock)) (by (with_reducible repeat apply Kd.R_alloc); exact Kd.R_mono HL266_0.out (fun _ hk => ⟨hk.1.2, hk.2⟩)) hg hat)
                     have n3_ := Aside0.mk (Kd.R_after (ok := (fun k_ => some k_ ≠ (.slice (some ad266) x7_2.length co98 : Value).ownBlock)) (by (with_reducible repeat apply Kd.R_alloc); exact Kd.R_mono HL270_0.out (fun _ hk => ⟨hk.1.2, hk.2⟩)) hg hat)
                     have n4_ := Aside0.mk (below_weaken pwl_ HL.out hb)
                     have n5_ := Aside0.mk (KeepBut.trans pwj_ (KeepBut.of_grown hg g) (Kd.R_base2 HO265.out))
                     have n6_ := Aside0.mk (ho)
                     clear HO_7
                     clear HI0
                     clear HL266_0
                     clear HL270_0
                     clear HB
                     clear HK
                     clear HO265
                     have HO_7 := n0_
                     have HI0 := n1_
                     have HL266_0 := n2_
                     have HL270_0 := n3_
                     have HB := n4_
                     have HK := n5_
                     have HO269 := n6_
                     clear n0_ n1_ n2_ n3_ n4_ n5_ n6_
                     clear ho hb hg hat
                     refine hK.out _ _ ⟨HS0_, HS1_⟩ (fun hHeld => ?_)
                     clear hK K
                     refine norm_ (a' := ?_) ?_ ?_
                     rotate_left
                     ·show Act.put _ (some 79) _ = _
                      simp only [Act.put, List.setIfInBounds_toArray, List.set_cons_zero, List.set_cons_succ, i64_w, i32_w]
                      rfl
                     refine one_ (i := 11) (N := some 85) #[true, true, true, true, true, true, true, true, true, true, true, true, true, false, false, false, false, false, false] rfl rfl (one_of HT_.out (by kernel_rfl)) (by decide) (fun K hK => ?_)
                     refine Kd.R_append_rows_step k41 w.heap.size (by rfl) (.tmp 79) (.tmp 84) 23 41 (.agg #[(.int .i64 0), (.int .i64 0)]) 16 rfl Try.underlying23 info41 rfl (by decide) (by omega) v268 y267 (rd_L3 x7_2 (ji85)) _ _ _ (fun k_ => some k_ ≠ (.slice A266_0 (rd_L3 x7_2 t212).length c266_0 : Value).ownBlock ∧ some k_ ≠ (.slice A270_0 (rd_L3 x7_2 (ji85)).length c270_0 : Value).ownBlock) (fun _ => False) rfl rfl ?aO ?aR (fun _ _ h => h) (fun _ h => h.elim) ?aF (Below.refl _ _) ?aS ?aL ?_
                     (case aR => repeat (first | exact ((Kd.R_reads' (by (with_reducible repeat apply Kd.R_alloc); exact HL270_0.out)).2.2) | (with_reducible refine Kd.C_alloc ?_ _) | (with_reducible refine Kd.C_drewN ?_ _) | (with_reducible refine Kd.C_drew ?_)))
                     (case aF => exact (fun k_ hk => ⟨Kd.fresh' (Kd.R_lt (by (with_reducible repeat apply Kd.R_alloc); exact HL266_0.out)) k_ hk, Kd.fresh' (Kd.R_lt (by (with_reducible repeat apply Kd.R_alloc); exact HL270_0.out)) k_ hk⟩))
                     (case aO => exact (by (with_reducible repeat apply Kd.R_alloc); exact HO269.out))
                     (case aS => exact (keep_size (w := w) (g := g) (row := none) pwj_))
                     (case aL => have := LMc88.out; omega)
                     intro v272 w104 ho hb hg hat
                     have HS0_ := cell_grown hg (hHeld.1) (by first | (rw [add_block]; exact ((HO_7.out.1 _ rfl).2)) | (show some (Addr.add _ _).block ≠ _; rw [add_block]; exact ((HO_7.out.1 _ rfl).2)) | exact ((HO_7.out.1 _ rfl).2))
                     have HS1_ := cell_grown hg (hHeld.2) (by first | (rw [add_block]; exact ((HO_7.out.1 _ rfl).2)) | (show some (Addr.add _ _).block ≠ _; rw [add_block]; exact ((HO_7.out.1 _ rfl).2)) | exact ((HO_7.out.1 _ rfl).2))
                     rw [← Ny271.out] at ho
                     have n0_ := Aside0.mk (Kd.R_after (ok := (fun _ => True)) pwe_ hg hat)
                     have n1_ := Aside0.mk (IsS68.grown pwk_ hg (IsS68.own_ne HI0.out HO269.out (by decide)))
                     have n2_ := Aside0.mk (Kd.R_after (ok := (fun k_ => some k_ ≠ (.slice (some ad266) x7_2.length co98 : Value).ownBlock)) (by (with_reducible repeat apply Kd.R_alloc); exact HL266_0.out) hg hat)
                     have n3_ := Aside0.mk (Kd.R_after (ok := (fun k_ => some k_ ≠ (.slice (some ad266) x7_2.length co98 : Value).ownBlock)) (by (with_reducible repeat apply Kd.R_alloc); exact HL270_0.out) hg hat)
                     have n4_ := Aside0.mk (below_weaken pwl_ HL.out hb)
                     have n5_ := Aside0.mk (KeepBut.trans pwj_ (KeepBut.of_grown hg g) (Kd.R_base2 HO269.out))
                     have n6_ := Aside0.mk (ho)
                     clear HO_7
                     clear HI0
                     clear HL266_0
                     clear HL270_0
                     clear HB
                     clear HK
                     clear HO269
                     have HO_7 := n0_
                     have HI0 := n1_
                     have HL266_0 := n2_
                     have HL270_0 := n3_
                     have HB := n4_
                     have HK := n5_
                     have HO273 := n6_
                     clear n0_ n1_ n2_ n3_ n4_ n5_ n6_
                     clear ho hb hg hat
                     refine hK.out _ _ ⟨HS0_, HS1_⟩ (fun hHeld => ?_)
                     clear hK K
                     refine norm_ (a' := ?_) ?_ ?_
                     rotate_left
                     ·show Act.put _ (some 85) _ = _
                      simp only [Act.put, List.setIfInBounds_toArray, List.set_cons_zero, List.set_cons_succ, i64_w, i32_w]
                      rfl
                     refine one_ (i := 13) (N := some 87) #[true, true, true, true, true, true, true, true, true, true, true, true, true, true, false, false, false, false, false] rfl rfl (one_of HT_.out (by kernel_rfl)) (by decide) (fun K hK => ?_)
                     refine goes_ Try.func64 (by kernel_rfl) rfl #[.pointer (some ⟨g, 0, none⟩), .int .i64 3] (by rfl) rfl rfl pwi_ ?_
                     with_reducible refine (spec_l20Rd_pick.calls k2 g s0_0 t213 3 t274 t275 w0 _ ?side1 ?side2 A89.out).mono ?_
                     (case side1 => repeat (first | (with_reducible first | exact HI0.out | apply IsS68.alloc | apply IsS68.drewN | apply IsS68.drew | apply IsS68.set_1) | exact HI0.out))
                     (case side2 => repeat (first | (with_reducible first | exact HB.out | apply below_alloc | apply pw_below_drewN | apply below_drew1 | refine below_set ?_ (IsS68.ge HI0.out)) | exact HB.out))
                     rintro e w105 ⟨rfl, hi, hb, hk⟩
                     have HS0_ := keep_cell hk (hHeld.1) (by first | (rw [add_block]; exact Kd.own_blk (IsS68.own_ne HI0.out HO_7.out (by decide))) | (show (Addr.add _ _).block ≠ _; rw [add_block]; exact Kd.own_blk (IsS68.own_ne HI0.out HO_7.out (by decide))) | exact Kd.own_blk (IsS68.own_ne HI0.out HO_7.out (by decide)))
                     have HS1_ := keep_cell hk (hHeld.2) (by first | (rw [add_block]; exact Kd.own_blk (IsS68.own_ne HI0.out HO_7.out (by decide))) | (show (Addr.add _ _).block ≠ _; rw [add_block]; exact Kd.own_blk (IsS68.own_ne HI0.out HO_7.out (by decide))) | exact Kd.own_blk (IsS68.own_ne HI0.out HO_7.out (by decide)))
                     refine ⟨_, rfl, ?_⟩
                     have n0_ := Aside0.mk (Kd.R_mono (Kd.R_keep (IsS68.apart (show IsS68 w0 _ g s0_0 t213 from by repeat (first | (with_reducible first | exact HI0.out | apply IsS68.alloc | apply IsS68.drewN | apply IsS68.drew | apply IsS68.set_1) | exact HI0.out)) pwe_ (by decide)) hk (fun _ h => h.2)) (fun _ h => h.1))
                     have n1_ := Aside0.mk (Kd.R_mono (Kd.R_keep (IsS68.apart (show IsS68 w0 _ g s0_0 t213 from by repeat (first | (with_reducible first | exact HI0.out | apply IsS68.alloc | apply IsS68.drewN | apply IsS68.drew | apply IsS68.set_1) | exact HI0.out)) (by (with_reducible repeat apply Kd.R_alloc); exact HL266_0.out) (by decide)) hk (fun _ h => h.2)) (fun _ h => h.1))
                     have n2_ := Aside0.mk (Kd.R_mono (Kd.R_keep (IsS68.apart (show IsS68 w0 _ g s0_0 t213 from by repeat (first | (with_reducible first | exact HI0.out | apply IsS68.alloc | apply IsS68.drewN | apply IsS68.drew | apply IsS68.set_1) | exact HI0.out)) (by (with_reducible repeat apply Kd.R_alloc); exact HL270_0.out) (by decide)) hk (fun _ h => h.2)) (fun _ h => h.1))
                     have n3_ := Aside0.mk (Kd.R_mono (Kd.R_keep (IsS68.apart (show IsS68 w0 _ g s0_0 t213 from by repeat (first | (with_reducible first | exact HI0.out | apply IsS68.alloc | apply IsS68.drewN | apply IsS68.drew | apply IsS68.set_1) | exact HI0.out)) (by (with_reducible repeat apply Kd.R_alloc); exact HO273.out) (by decide)) hk (fun _ h => h.2)) (fun _ h => h.1))
                     have n4_ := Aside0.mk (KeepBut.trans pwj_ hk (.inl rfl))
                     have n5_ := Aside0.mk (hb)
                     have n6_ := Aside0.mk (hi)
                     clear HO_7
                     clear HL266_0
                     clear HL270_0
                     clear HO273
                     clear HK
                     clear HB
                     clear HI0
                     have HO_7 := n0_
                     have HL266_0 := n1_
                     have HL270_0 := n2_
                     have HO273 := n3_
                     have HK := n4_
                     have HB := n5_
                     have HI0 := n6_
                     clear n0_ n1_ n2_ n3_ n4_ n5_ n6_
                     (try clear hb)
                     (try clear hb2)
                     (try clear hk)
                     (try clear hi)
                     refine hK.out _ _ ⟨HS0_, HS1_⟩ (fun hHeld => ?_)
                     clear hK K
                     refine norm_ (a' := ?_) ?_ ?_
                     rotate_left
                     ·show Act.put _ (some 87) _ = _
                      simp only [Act.put, List.setIfInBounds_toArray, List.set_cons_zero, List.set_cons_succ, i64_w, i32_w]
                      rfl
                     refine pure_ (i := 14) (N := some 88) (v := ?_) (a' := ?_) #[true, true, true, true, true, true, true, true, true, true, true, true, true, true, true, false, false, false, false] rfl rfl (any_of HT_.out (by kernel_rfl)) (fun _ _ _ h => h) (Or.inl ⟨by rfl, ?_⟩) ?_ ?_
                     rotate_left
                     ·intro w'
                      go_simp
                      with_reducible rfl
                     rotate_left
                     ·simp only [Act.put, List.setIfInBounds_toArray, List.set_cons_zero, List.set_cons_succ, i64_w, i32_w]
                      rfl
                     refine pure_ (i := 15) (N := some 89) (v := ?_) (a' := ?_) #[true, true, true, true, true, true, true, true, true, true, true, true, true, true, true, true, false, false, false] rfl rfl (any_of HT_.out (by kernel_rfl)) (fun _ _ _ h => h) (Or.inl ⟨by rfl, ?_⟩) ?_ ?_
                     rotate_left
                     ·intro w'
                      go_simp
                      with_reducible rfl
                     rotate_left
                     ·simp only [Act.put, List.setIfInBounds_toArray, List.set_cons_zero, List.set_cons_succ, i64_w, i32_w]
                      rfl
                     refine last_ (i := 16) (N := some 90) #[true, true, true, true, true, true, true, true, true, true, true, true, true, true, true, true, true, false, false] rfl rfl (one_of HT_.out (by kernel_rfl)) (by decide) (fun K hK => ?_)
                     refine value_ (w1 := ?_) (v := ?_) (by rfl) rfl ?_ ?_
                     rotate_left 2
                     ·go_simp
                      constructor
                      ·rfl
                      ·rfl
                     refine hK.out _ _ ?_
                     clear hK K
                     refine norm_ (a' := ?_) ?_ ?_
                     rotate_left
                     ·show Act.put _ (some 90) _ = _
                      simp only [Act.put, List.setIfInBounds_toArray, List.set_cons_zero, List.set_cons_succ, i64_w, i32_w]
                      rfl
                     refine one_ (i := 17) (N := some 91) #[true, true, true, true, true, true, true, true, true, true, true, true, true, true, true, true, true, true, false] rfl rfl (one_of HT_.out (by kernel_rfl)) (by decide) (fun K hK => ?_)
                     refine Kd.R_append_step k41 w.heap.size (by rfl) (.tmp 85) (.tmp 90) 23 41 (.agg #[(.int .i64 0), (.int .i64 0)]) 16 rfl Try.underlying23 info41 rfl (by decide) (by omega) v272 y271 (⟨wrap64 (3 + t274), 0⟩ : S41) [.int .i64 (wrap64 (3 + t274)), .int .i64 0] (fun k_ => some k_ ≠ (.slice A266_0 (rd_L3 x7_2 t212).length c266_0 : Value).ownBlock ∧ some k_ ≠ (.slice A270_0 (rd_L3 x7_2 (ji85)).length c270_0 : Value).ownBlock) (fun _ => False) rfl rfl ?aP (fun _ hk => hk.elim) ?aF ?aO (Below.refl _ _) ?aS ?aL ?_
                     (case aP => exact k41_mkM _ _ _ (⟨wrap64 (3 + t274), 0⟩ : S41))
                     (case aF => exact (fun k_ hk => ⟨Kd.fresh' (Kd.R_lt (by (with_reducible repeat apply Kd.R_alloc); exact HL266_0.out)) k_ hk, Kd.fresh' (Kd.R_lt (by (with_reducible repeat apply Kd.R_alloc); exact HL270_0.out)) k_ hk⟩))
                     (case aO => exact (by (with_reducible repeat apply Kd.R_alloc); exact HO273.out))
                     (case aS => exact (keep_size (w := w) (g := g) (row := none) pwj_))
                     (case aL => have := LMc90.out; omega)
                     intro v277 w106 ho hb hg hat
                     have HS0_ := cell_grown hg (hHeld.1) (by first | (rw [add_block]; exact ((HO_7.out.1 _ rfl).2)) | (show some (Addr.add _ _).block ≠ _; rw [add_block]; exact ((HO_7.out.1 _ rfl).2)) | exact ((HO_7.out.1 _ rfl).2))
                     have HS1_ := cell_grown hg (hHeld.2) (by first | (rw [add_block]; exact ((HO_7.out.1 _ rfl).2)) | (show some (Addr.add _ _).block ≠ _; rw [add_block]; exact ((HO_7.out.1 _ rfl).2)) | exact ((HO_7.out.1 _ rfl).2))
                     rw [← Ny276.out] at ho
                     have n0_ := Aside0.mk (Kd.R_after (ok := (fun _ => True)) pwe_ hg hat)
                     have n1_ := Aside0.mk (IsS68.grown pwk_ hg (IsS68.own_ne HI0.out HO273.out (by decide)))
                     have n2_ := Aside0.mk (Kd.R_after (ok := (fun k_ => some k_ ≠ (.slice (some ad266) x7_2.length co98 : Value).ownBlock)) (by (with_reducible repeat apply Kd.R_alloc); exact HL266_0.out) hg hat)
                     have n3_ := Aside0.mk (Kd.R_after (ok := (fun k_ => some k_ ≠ (.slice (some ad266) x7_2.length co98 : Value).ownBlock)) (by (with_reducible repeat apply Kd.R_alloc); exact HL270_0.out) hg hat)
                     have n4_ := Aside0.mk (below_weaken pwl_ HL.out hb)
                     have n5_ := Aside0.mk (KeepBut.trans pwj_ (KeepBut.of_grown hg g) (Kd.R_base2 HO273.out))
                     have n6_ := Aside0.mk (ho)
                     clear HO_7
                     clear HI0
                     clear HL266_0
                     clear HL270_0
                     clear HB
                     clear HK
                     clear HO273
                     have HO_7 := n0_
                     have HI0 := n1_
                     have HL266_0 := n2_
                     have HL270_0 := n3_
                     have HB := n4_
                     have HK := n5_
                     have HO278 := n6_
                     clear n0_ n1_ n2_ n3_ n4_ n5_ n6_
                     clear ho hb hg hat
                     refine hK.out _ _ ⟨HS0_, HS1_⟩ (fun hHeld => ?_)
                     clear hK K
                     refine norm_ (a' := ?_) ?_ ?_
                     rotate_left
                     ·show Act.put _ (some 91) _ = _
                      simp only [Act.put, List.setIfInBounds_toArray, List.set_cons_zero, List.set_cons_succ, i64_w, i32_w]
                      rfl
                     refine pure_ (i := 18) (N := some 11) (v := ?_) (a' := ?_) #[true, true, true, true, true, true, true, true, true, true, true, true, true, true, true, true, true, true, true] rfl rfl (any_of HT_.out (by kernel_rfl)) (fun _ _ _ h => h) (Or.inl ⟨by rfl, ?_⟩) ?_ ?_
                     rotate_left
                     ·intro w'
                      go_simp
                      with_reducible rfl
                     rotate_left
                     ·simp only [Act.put, List.setIfInBounds_toArray, List.set_cons_zero, List.set_cons_succ, i64_w, i32_w]
                      rfl
                     refine done_ (done_of HT_.out (by kernel_rfl)) ?_
                     try go_wp2_with (first | ((with_reducible refine gate_dst (N := 92) rfl ?_); refine Kd.R_lit (Kd.slice 41 k41) _ 23 ?hg (N := 92) ?hd (xs := ([] : List (List (S41)))) (inner := []) (ok := fun _ => True) (okp := fun _ => True) ?hr ?hp (fun _ hk => hk) trivial (Below.refl _ _) (Nat.le_refl _) (by simp) ?_; (case hd => rfl); (case hg => rfl); (case hr => first | (go_simp; done) | (go_simp; rfl)); (case hp => exact (Reps.none _ _)); intro v280 w107 ho108 hb hg_ hnew_; clear hg_ hnew_; (first | rw [← Ny279.out] at ho108 | (simp only [Int.reduceToNat] at ho108; rw [← Ny279.out] at ho108)); have n0_ := Aside0.mk (Kd.R_elder' pwe_ (Kd.R_base ho108) hb); have n1_ := Aside0.mk (Kd.R_below (by (with_reducible repeat apply Kd.R_alloc); exact HL266_0.out) hb); have n2_ := Aside0.mk (Kd.R_below (by (with_reducible repeat apply Kd.R_alloc); exact HL270_0.out) hb); have n3_ := Aside0.mk (Kd.R_below (by (with_reducible repeat apply Kd.R_alloc); exact HO278.out) hb); have n4_ := Aside0.mk (Kd.R_lower (Kd.R_new' (Kd.R_new' (Kd.R_new' (Kd.R_new' ho108 (Kd.R_lt pwe_)) (Kd.R_lt (by (with_reducible repeat apply Kd.R_alloc); exact HL266_0.out))) (Kd.R_lt (by (with_reducible repeat apply Kd.R_alloc); exact HL270_0.out))) (Kd.R_lt (by (with_reducible repeat apply Kd.R_alloc); exact HO278.out))) (keep_size (w := w) (g := g) (row := none) pwj_)); have n5_ := Aside0.mk (IsS68.below pwk_ hb); have n6_ := Aside0.mk (KeepBut.trans pwj_ (KeepBut.of_below hb g none) (.inl rfl)); have n7_ := Aside0.mk (below_step pwl_ hb); clear HO_7; clear HL266_0; clear HL270_0; clear HO278; clear HI0; clear HK; clear HB; have HO_7 := n0_; have HL266_0 := n1_; have HL270_0 := n2_; have HO278 := n3_; have HO281 := n4_; have HI0 := n5_; have HK := n6_; have HB := n7_; clear n0_ n1_ n2_ n3_ n4_ n5_ n6_ n7_; clear hb ho108; have q109 : (t212 : Int) ≤ ((x7_2.length : Int) : Int) := of_decide_eq_true pwb_; obtain ⟨i0109, hi0109, _, hsz109, _⟩ := info_parts info23; have hroom109 : x7_2.length ≤ co98 := (Kd.R_reads' HO_7.out).2.1; have hC109 : Kd.C (Kd.slice 41 k41) _ (some ad266) x7_2.length x7_2 := (Kd.R_reads' HO_7.out).2.2; have hcut109 := cut_to (P := Try.prog) 72 23 .i64 Try.underlying72 hi0109 (some ad266) x7_2.length co98 t212 (of_decide_eq_true pwb_) q109 hroom109; have hr109 := Kd.C_take (m := (t212 : Int).toNat) hC109 (by omega); have hy109 : y282.length = (t212 : Int).toNat := (by rw [Ny282.out, List.length_take]; omega); rw [← Ny282.out] at hr109; rw [← hy109] at hcut109; have HR285 := Aside0.mk hr109; have HC285 := Aside0.mk (show y282.length ≤ co98 from by omega); clear hr109 hC109 hroom109 hi0109 hsz109; have KY109 := Aside0.mk hy109; clear hy109; have KL109 := Aside0.mk (show (t212 : Int).toNat ≤ x7_2.length from by omega); replace q109 := eq_true q109) | ((with_reducible refine gate_builtin (b := .append) (xs := #[.tmp 92, .tmp 95]) rfl ?_); at_builtin; refine Kd.R_append_rows (Kd.slice 41 k41) w.heap.size rfl (.tmp 92) (.tmp 95) 72 23 (.slice none 0 0) 24 rfl Try.underlying72 info23 rfl (by decide) (by omega) v280 y279 y282 _ _ _ (fun k_ => some k_ ≠ (.slice (some ad266) x7_2.length co98 : Value).ownBlock ∧ some k_ ≠ (v277 : Value).ownBlock) (fun k_ => ((fun k_ => some k_ ≠ (.slice (some ad266) x7_2.length co98 : Value).ownBlock ∧ some k_ ≠ (v277 : Value).ownBlock)) k_ ∧ some k_ ≠ (v280 : Value).ownBlock) rfl rfl ?aO ?aR (fun _ _ h => h) (fun _ hk => hk) ?aF (Below.refl _ _) ?aS ?aL ?_; (case aR => rw [Ny282.out]; exact Kd.C_take (m := (t212 : Int).toNat) (Kd.R_frozen (okp := (fun k_ => ((fun k_ => some k_ ≠ (.slice (some ad266) x7_2.length co98 : Value).ownBlock ∧ some k_ ≠ (v277 : Value).ownBlock)) k_ ∧ some k_ ≠ (v280 : Value).ownBlock)) (HO_7.out) (fun k_ hk => ⟨⟨hk.2, hk.1.1.2⟩, hk.1.2⟩)).2.2 KL109.out); (case aF => exact (fun k_ hk => ⟨Kd.fresh' (Kd.R_lt pwe_) k_ hk, Kd.fresh' (Kd.R_lt (by (with_reducible repeat apply Kd.R_alloc); exact HO278.out)) k_ hk⟩)); (case aO => exact (by (with_reducible repeat apply Kd.R_alloc); exact Kd.R_mono HO281.out (fun _ hk => ⟨hk.1.1.1.2, hk.2⟩))); (case aS => exact (keep_size (w := w) (g := g) (row := none) pwj_)); (case aL => have := LMc93.out; omega); intro v287 w110 ho hb hg hat; rw [← Ny286.out] at ho; have n0_ := Aside0.mk (Kd.R_after (ok := (fun k_ => some k_ ≠ (v277 : Value).ownBlock)) (by (with_reducible repeat apply Kd.R_alloc); exact Kd.R_mono HO_7.out (fun _ hk => ⟨hk.1.2, hk.2⟩)) hg hat); have n1_ := Aside0.mk (IsS68.grown pwk_ hg (IsS68.own_ne HI0.out HO281.out (by decide))); have n2_ := Aside0.mk (Kd.R_over' (by (with_reducible repeat apply Kd.R_alloc); exact HO278.out) (Kd.R_typed (by (with_reducible repeat apply Kd.R_alloc); exact HO281.out)) (by decide) hg); have n3_ := Aside0.mk (below_weaken pwl_ HL.out hb); have n4_ := Aside0.mk (KeepBut.trans pwj_ (KeepBut.of_grown hg g) (Kd.R_base2 HO281.out)); have n5_ := Aside0.mk ((show Kd.C (Kd.slice 41 k41) w110 (some ad266) y282.length y282 from by rw [Ny282.out]; exact Kd.C_take (m := (t212 : Int).toNat) ((Kd.R_reads' (Kd.R_after (ok := (fun k_ => some k_ ≠ (v277 : Value).ownBlock)) (by (with_reducible repeat apply Kd.R_alloc); exact Kd.R_mono HO_7.out (fun _ hk => ⟨hk.1.2, hk.2⟩)) hg hat)).2.2) KL109.out)); have n6_ := Aside0.mk (ho); clear HO_7; clear HI0; clear HO278; clear HB; clear HK; clear HR285; clear HO281; have HO_7 := n0_; have HI0 := n1_; have HO278 := n2_; have HB := n3_; have HK := n4_; have HR285 := n5_; have HO288 := n6_; clear n0_ n1_ n2_ n3_ n4_ n5_ n6_; clear ho hb hg hat; obtain ⟨Ao112, co112, eo112⟩ := Kd.R_slice HO278.out; subst eo112) | ((with_reducible refine gate_builtin (b := .append) (xs := #[.tmp 97, .tmp 99]) rfl ?_); at_builtin; refine Kd.R_append (Kd.slice 41 k41) w.heap.size rfl (.tmp 97) (.tmp 99) 72 23 (.slice none 0 0) 24 rfl Try.underlying72 info23 rfl (by decide) (by omega) v287 y286 y276 [.slice Ao112 y276.length co112] (fun k_ => some k_ ≠ (.slice (some ad266) x7_2.length co98 : Value).ownBlock) (fun k_ => ((fun k_ => some k_ ≠ (.slice (some ad266) x7_2.length co98 : Value).ownBlock)) k_ ∧ some k_ ≠ (v287 : Value).ownBlock) rfl rfl ?aP (fun _ hk => hk) ?aF ?aO (Below.refl _ _) ?aS ?aL ?_; (case aP => exact Kd.M_row (Kd.R_mono (Kd.R_apart' (Kd.R_apart' (HO278.out) (Kd.R_typed HO_7.out) (by decide)) (Kd.R_typed HO288.out) (by decide)) (fun k_ hk => ⟨hk.1.2, hk.2⟩))); (case aF => exact (fun k_ hk => Kd.fresh' (Kd.R_lt pwe_) k_ hk)); (case aO => exact (by (with_reducible repeat apply Kd.R_alloc); exact Kd.R_mono HO288.out (fun _ hk => hk.1))); (case aS => exact (keep_size (w := w) (g := g) (row := none) pwj_)); (case aL => have := LMc94.out; omega); intro v290 w111 ho hb hg hat; rw [← Ny289.out] at ho; have n0_ := Aside0.mk (Kd.R_after (ok := (fun k_ => some k_ ≠ (.slice Ao112 y276.length co112 : Value).ownBlock)) pwe_ hg hat); have n1_ := Aside0.mk (IsS68.grown pwk_ hg (IsS68.own_ne HI0.out HO288.out (by decide))); have n2_ := Aside0.mk (below_weaken pwl_ HL.out hb); have n3_ := Aside0.mk (KeepBut.trans pwj_ (KeepBut.of_grown hg g) (Kd.R_base2 HO288.out)); have n4_ := Aside0.mk ((show Kd.C (Kd.slice 41 k41) w111 (some ad266) y282.length y282 from by rw [Ny282.out]; exact Kd.C_take (m := (t212 : Int).toNat) ((Kd.R_reads' (Kd.R_after (ok := (fun k_ => some k_ ≠ (.slice Ao112 y276.length co112 : Value).ownBlock)) pwe_ hg hat)).2.2) KL109.out)); have n5_ := Aside0.mk (ho); clear HO_7; clear HI0; clear HB; clear HK; clear HR285; clear HO288; clear HO278; have HO_7 := n0_; have HI0 := n1_; have HB := n2_; have HK := n3_; have HR285 := n4_; have HO291 := n5_; clear n0_ n1_ n2_ n3_ n4_ n5_; clear ho hb hg hat; have q113 : ((wrap64 (t212 + 2)) : Int) ≤ ((x7_2.length : Int) : Int) := of_decide_eq_true pwb_; obtain ⟨i0113, hi0113, _, hsz113, _⟩ := info_parts info23; have hroom113 : x7_2.length ≤ co98 := (Kd.R_reads' HO_7.out).2.1; have hC113 : Kd.C (Kd.slice 41 k41) _ (some ad266) x7_2.length x7_2 := (Kd.R_reads' HO_7.out).2.2; have q0113 : (0 : Int) ≤ ((wrap64 (t212 + 2)) : Int) := of_decide_eq_true pwb_; have hcut113 := cut_from (P := Try.prog) 72 23 .i64 Try.underlying72 hi0113 1 hsz113 (some ad266) x7_2.length co98 (wrap64 (t212 + 2)) q0113 q113; have hr113 := Kd.C_drop (m := ((wrap64 (t212 + 2)) : Int).toNat) (c := co98) hC113 (by omega) hroom113; obtain ⟨A113, hA113⟩ : ∃ A1, A1 = (if co98 = ((wrap64 (t212 + 2)) : Int).toNat then (some ad266) else ((some ad266) : Option Addr).map (·.add (((wrap64 (t212 + 2)) : Int).toNat * 1))) := ⟨_, rfl⟩; obtain ⟨c113, hc113⟩ : ∃ c1, c1 = co98 - ((wrap64 (t212 + 2)) : Int).toNat := ⟨_, rfl⟩; have hy113 : y292.length = x7_2.length - ((wrap64 (t212 + 2)) : Int).toNat := (by rw [Ny292.out, List.length_drop] <;> omega); rw [show (x7_2).drop ((wrap64 (t212 + 2)) : Int).toNat = y292 from Ny292.out.symm] at hr113; replace hr113 : Kd.C (Kd.slice 41 k41) _ A113 y292.length y292 := (by rw [hA113]; exact hr113); rw [← hy113, ← hA113, ← hc113] at hcut113; have HR295 := Aside0.mk hr113; have HC295 := Aside0.mk (show y292.length ≤ c113 from by rw [hy113, hc113]; exact Nat.sub_le_sub_right hroom113 _); clear hr113 hC113 hroom113 hi0113 hsz113 hc113; have KY113 := Aside0.mk hy113; have KA113 := Aside0.mk hA113; clear hy113 hA113; have KL113 := Aside0.mk (show ((wrap64 (t212 + 2)) : Int).toNat ≤ x7_2.length from by omega); replace q113 := eq_true q113) | ((with_reducible refine gate_builtin (b := .append) (xs := #[.tmp 101, .tmp 105]) rfl ?_); at_builtin; refine Kd.R_append_rows (Kd.slice 41 k41) w.heap.size rfl (.tmp 101) (.tmp 105) 72 23 (.slice none 0 0) 24 rfl Try.underlying72 info23 rfl (by decide) (by omega) v290 y289 y292 _ _ _ (fun k_ => some k_ ≠ (.slice (some ad266) x7_2.length co98 : Value).ownBlock) (fun k_ => ((fun k_ => some k_ ≠ (.slice (some ad266) x7_2.length co98 : Value).ownBlock)) k_ ∧ some k_ ≠ (v290 : Value).ownBlock) rfl rfl ?aO ?aR (fun _ _ h => h) (fun _ hk => hk) ?aF (Below.refl _ _) ?aS ?aL ?_; (case aR => rw [Ny292.out, KA113.out]; exact Kd.C_drop (m := ((wrap64 (t212 + 2)) : Int).toNat) (c := co98) (Kd.R_frozen (okp := (fun k_ => ((fun k_ => some k_ ≠ (.slice (some ad266) x7_2.length co98 : Value).ownBlock)) k_ ∧ some k_ ≠ (v290 : Value).ownBlock)) (HO_7.out) (fun k_ hk => ⟨hk.2, hk.1.2⟩)).2.2 KL113.out (Kd.R_frozen (okp := (fun k_ => ((fun k_ => some k_ ≠ (.slice (some ad266) x7_2.length co98 : Value).ownBlock)) k_ ∧ some k_ ≠ (v290 : Value).ownBlock)) (HO_7.out) (fun k_ hk => ⟨hk.2, hk.1.2⟩)).2.1); (case aF => exact (fun k_ hk => Kd.fresh' (Kd.R_lt pwe_) k_ hk)); (case aO => exact (by (with_reducible repeat apply Kd.R_alloc); exact HO291.out)); (case aS => exact (keep_size (w := w) (g := g) (row := none) pwj_)); (case aL => have := LMc97.out; omega); intro v297 w114 ho hb hg hat; rw [← Ny296.out] at ho; have n0_ := Aside0.mk (Kd.R_after (ok := (fun _ => True)) (by (with_reducible repeat apply Kd.R_alloc); exact Kd.R_mono HO_7.out (fun _ hk => ⟨trivial, hk.2⟩)) hg hat); have n1_ := Aside0.mk (IsS68.grown pwk_ hg (IsS68.own_ne HI0.out HO291.out (by decide))); have n2_ := Aside0.mk (below_weaken pwl_ HL.out hb); have n3_ := Aside0.mk (KeepBut.trans pwj_ (KeepBut.of_grown hg g) (Kd.R_base2 HO291.out)); have n4_ := Aside0.mk ((show Kd.C (Kd.slice 41 k41) w114 (some ad266) y282.length y282 from by rw [Ny282.out]; exact Kd.C_take (m := (t212 : Int).toNat) ((Kd.R_reads' (Kd.R_after (ok := (fun _ => True)) (by (with_reducible repeat apply Kd.R_alloc); exact Kd.R_mono HO_7.out (fun _ hk => ⟨trivial, hk.2⟩)) hg hat)).2.2) KL109.out)); have n5_ := Aside0.mk ((show Kd.C (Kd.slice 41 k41) w114 A113 y292.length y292 from by rw [Ny292.out, KA113.out]; exact Kd.C_drop (m := ((wrap64 (t212 + 2)) : Int).toNat) (c := co98) ((Kd.R_reads' (Kd.R_after (ok := (fun _ => True)) (by (with_reducible repeat apply Kd.R_alloc); exact Kd.R_mono HO_7.out (fun _ hk => ⟨trivial, hk.2⟩)) hg hat)).2.2) KL113.out ((Kd.R_reads' (Kd.R_after (ok := (fun _ => True)) (by (with_reducible repeat apply Kd.R_alloc); exact Kd.R_mono HO_7.out (fun _ hk => ⟨trivial, hk.2⟩)) hg hat)).2.1))); have n6_ := Aside0.mk (ho); clear HO_7; clear HI0; clear HB; clear HK; clear HR285; clear HR295; clear HO291; have HO_7 := n0_; have HI0 := n1_; have HB := n2_; have HK := n3_; have HR285 := n4_; have HR295 := n5_; have HO298 := n6_; clear n0_ n1_ n2_ n3_ n4_ n5_ n6_; clear ho hb hg hat))
                     go_roundg k2
                     case measure => have := HK1.out; have := HK2.out; omega
                     case rel => exact ⟨(y296), (x9_2), (t275), pwa_, H', ⟨by have := HK1.out; have := HK2.out; omega⟩, ⟨by (with_reducible repeat apply Kd.R_alloc); exact Kd.R_mono HO298.out (fun _ hk => trivial)⟩, ⟨pwk_⟩, ⟨pwj_⟩, ⟨pwl_⟩⟩
                    ·rw [if_neg c97] at H
                     exact absurd H (by simp)
                   ·rw [if_neg c96] at H
                    exact absurd H (by simp)
                  ·rw [if_neg c95] at H
                   exact absurd H (by simp)
                 ·rw [if_neg c94] at H
                  exact absurd H (by simp)
                ·rw [if_neg c93] at H
                 exact absurd H (by simp)
               ·rw [if_neg c92] at H
                exact absurd H (by simp)
              ·rw [if_neg c90] at H
               exact absurd H (by simp)
             ·rw [if_neg c88] at H
              exact absurd H (by simp)
            ·rw [if_neg c87] at H
             exact absurd H (by simp)
           ·rw [if_neg c86] at H
            exact absurd H (by simp)
          ·rw [if_neg c84] at H
           exact absurd H (by simp)
         ·rw [if_neg c83] at H
          exact absurd H (by simp)
        ·rw [if_neg c82] at H
         exact absurd H (by simp)
      ·rw [if_neg c29] at H
       have c29b0 : decide (1 < (x7_2.length : Int)) = false := decide_eq_false c29
       have c29b1 : decide (1 < x7_2.length) = false := decide_eq_false (by omega)
       clear c29
       by_cases c115 : 0 < (x7_2.length : Int)
       ·rw [if_pos c115] at H
        have c115b0 : decide (0 < (x7_2.length : Int)) = true := decide_eq_true c115
        have c115b1 : decide (0 < x7_2.length) = true := decide_eq_true (by omega)
        clear c115
        replace H := Option.bind_eq_some_iff.mp H
        obtain ⟨⟨t300, t301⟩, A1160, H⟩ := H
        replace H : (if t300 = 0 then (if (rd_L3 x7_2 0).length < 8796093022208 then (spec_l20Term.j2 k2 a2 ((rd_L3 x7_2 0) ++ [(⟨2, 0⟩ : S41)]) s0_0 t301) else (none)) else (spec_l20Term.j2 k2 a2 (rd_L3 x7_2 0) s0_0 t301)) = some (r1, r2) := H
        have A116 := Aside0.mk A1160
        clear A1160
        have HC117 := Aside0.mk H
        clear H
        obtain ⟨Ao118, co118, eo118⟩ := Kd.R_slice HO_7.out
        subst eo118
        have p299 : 0 ≤ (0 : Int) := (by omega)
        have q299 : 0 < (x7_2.length : Int) := of_decide_eq_true pwb_
        obtain ⟨ad299, A299_0, c299_0, e299, hx299_0, hl299_0, hi299_0⟩ := at_L3 (Kd.R_reads' HO_7.out).2.2 0 p299 q299
        cases e299
        obtain ⟨ce299, hce299, hMe299, hcc299⟩ := Kd.R_get HO_7.out [] 0 p299 (by first | exact q299 | exact of_decide_eq_true pwb_ | (have e_ := (Kd.R_reads' HO_7.out).1; omega))
        obtain ⟨ve299_0, rfl, ge299_0⟩ := hMe299
        have hv299_0 := hcc299 0 _ rfl
        rw [Nat.add_zero, show ((Kd.slice 41 k41)).sz = 1 from rfl, Nat.mul_one] at hv299_0
        replace hv299_0 := Option.some.inj (hv299_0.symm.trans hx299_0)
        rw [hv299_0] at ge299_0
        have HL299_0 := Aside0.mk (show Kd.R k41 41 _ _ _ _ (rd_L3 x7_2 0) from ge299_0)
        clear hv299_0 ge299_0
        clear hcc299 hce299
        have qi299 : (0 < x7_2.length) = True := eq_true (by omega)
        (try rw [show ((0 : Int)).toNat = 0 from rfl] at hx299_0)
        (try rw [Addr.add_zero'] at hx299_0)
        have HR299_0 := Aside0.mk hi299_0
        have HC299_0 := Aside0.mk hl299_0
        clear hi299_0 hl299_0
        replace p299 := eq_true p299
        replace q299 := eq_true q299
        replace HL299_0 := Aside0.mk (show Kd.R k41 41 _ _ (fun _ => True) _ (rd_L3 x7_2 0) from Kd.R_mono HL299_0.out (fun _ hk => trivial))
        go_upto_if 112 with (first | ((with_reducible refine gate_callee (f := 64) rfl ?_); refine goesL_ (some 111) rfl rfl Try.func64 (by kernel_rfl) rfl #[.pointer (some ⟨g, 0, none⟩), .int .i64 5] rfl pwi_ ?_; (with_reducible refine (spec_l20Rd_pick.calls k2 g s0_0 x1001_2 5 t300 t301 w0 _ ?side1 ?side2 A116.out).mono ?_); (case side1 => repeat (first | (with_reducible first | exact HI0.out | apply IsS68.alloc | apply IsS68.drewN | apply IsS68.drew | apply IsS68.set_1) | exact HI0.out)); (case side2 => repeat (first | (with_reducible first | exact HB.out | apply below_alloc | apply pw_below_drewN | apply below_drew1 | refine below_set ?_ (IsS68.ge HI0.out)) | exact HB.out)); rintro e w119 ⟨rfl, hi, hb, hk⟩; refine ⟨_, rfl, ?_⟩; have n0_ := Aside0.mk (Kd.R_mono (Kd.R_keep (IsS68.apart (show IsS68 w0 _ g s0_0 x1001_2 from by repeat (first | (with_reducible first | exact HI0.out | apply IsS68.alloc | apply IsS68.drewN | apply IsS68.drew | apply IsS68.set_1) | exact HI0.out)) (by (with_reducible repeat apply Kd.R_alloc); exact HL299_0.out) (by decide)) hk (fun _ h => h.2)) (fun _ h => h.1)); have n1_ := Aside0.mk (KeepBut.trans pwj_ hk (.inl rfl)); have n2_ := Aside0.mk (hb); have n3_ := Aside0.mk (hi); clear HL299_0; clear HK; clear HB; clear HI0; have HL299_0 := n0_; have HK := n1_; have HB := n2_; have HI0 := n3_; clear n0_ n1_ n2_ n3_; (try clear hb); (try clear hb2); (try clear hk); (try clear hi)))
        (try simp only [Act.put, List.setIfInBounds_toArray, List.set_cons_zero, List.set_cons_succ])
        go_cut [13] (fun v13 wc => ∃ (kq : Nat) (x13_116 : List (S41)), Aside0 (spec_l20Term.j2 kq a2 x13_116 s0_0 t301 = some (r1, r2)) ∧ Aside0 (kq ≤ k2) ∧ Aside0 (Kd.R k41 41 wc w.heap.size (fun _ => True) v13 x13_116) ∧ Aside0 (IsS68 w0 wc g s0_0 t301) ∧ Aside0 (KeepBut w wc g none) ∧ Aside0 (Below w0.heap.size w0 wc))
        case first =>
         have H := HC117.out
         clear HC117
         by_cases c120 : t300 = 0
         ·rw [if_pos c120] at H
          have c120b0 : (t300 == 0) = true := beq_iff_eq.mpr c120
          have c120b1 : (t300 != 0) = false := bne_eq_false_iff_eq.mpr c120
          clear c120
          (first | rw [c120b0] | (simp only [i64_w, i32_w]; rw [c120b0]) | skip)
          by_cases c121 : (rd_L3 x7_2 0).length < 8796093022208
          ·rw [if_pos c121] at H
           have LMc121 := Aside0.mk c121
           clear c121
           obtain ⟨y302, hy302⟩ : ∃ y_ : List (S41), y_ = ((rd_L3 x7_2 0) ++ [(⟨2, 0⟩ : S41)]) := ⟨_, rfl⟩
           replace H : (spec_l20Term.j2 k2 a2 y302 s0_0 t301) = some (r1, r2) := by first | (rw [hy302]; with_reducible exact H) | (have H2_ := (Option.bind_some _ _).symm.trans H; rw [hy302]; with_reducible exact H2_) | (have H2_ := (Option.bind_some _ _).symm.trans H; with_reducible exact H2_) | with_reducible exact H | (rw [hy302]; exact H) | exact H
           have Ny302 := Aside0.mk hy302
           clear hy302
           have H' := Aside0.mk H
           clear H
           go_wp2_with (first | ((with_reducible refine gate_builtin (b := .append) (xs := #[.tmp 113, .tmp 115]) rfl ?_); at_builtin; refine Kd.R_append k41 w.heap.size rfl (.tmp 113) (.tmp 115) 23 41 (.agg #[(.int .i64 0), (.int .i64 0)]) 16 rfl Try.underlying23 info41 rfl (by decide) (by omega) (.slice A299_0 (rd_L3 x7_2 0).length c299_0) (rd_L3 x7_2 0) (⟨2, 0⟩ : S41) [.int .i64 2, .int .i64 0] (fun _ => True) (fun _ => False) rfl rfl ?aP (fun _ hk => hk.elim) ?aF ?aO (Below.refl _ _) ?aS ?aL ?_; (case aP => exact k41_mkM _ _ _ (⟨2, 0⟩ : S41)); (case aF => exact (fun _ _ => trivial)); (case aO => exact (by (with_reducible repeat apply Kd.R_alloc); exact HL299_0.out)); (case aS => exact (keep_size (w := w) (g := g) (row := none) pwj_)); (case aL => have := LMc121.out; omega); intro v303 w122 ho hb hg hat; rw [← Ny302.out] at ho; have n0_ := Aside0.mk (IsS68.grown pwk_ hg (IsS68.own_ne HI0.out HL299_0.out (by decide))); have n1_ := Aside0.mk (below_weaken pwl_ HL.out hb); have n2_ := Aside0.mk (KeepBut.trans pwj_ (KeepBut.of_grown hg g) (Kd.R_base2 HL299_0.out)); have n3_ := Aside0.mk (ho); clear HI0; clear HB; clear HK; clear HL299_0; have HI0 := n0_; have HB := n1_; have HK := n2_; have HO304 := n3_; clear n0_ n1_ n2_ n3_; clear ho hb hg hat))
           go_meet
           case rel => exact ⟨_, (y302), H', ⟨by have := HK1.out; have := HK2.out; first | omega | exact Nat.le_refl _⟩, ⟨by (with_reducible repeat apply Kd.R_alloc); exact HO304.out⟩, ⟨pwk_⟩, ⟨pwj_⟩, ⟨pwl_⟩⟩
          ·rw [if_neg c121] at H
           exact absurd H (by simp)
         ·rw [if_neg c120] at H
          have c120b0 : (t300 == 0) = false := beq_eq_false_iff_ne.mpr c120
          have c120b1 : (t300 != 0) = true := bne_iff_ne.mpr c120
          (first | rw [c120b0] | (simp only [i64_w, i32_w]; rw [c120b0]) | skip)
          have H' := Aside0.mk H
          clear H
          go_wp2
          go_meet
          case rel => exact ⟨_, (rd_L3 x7_2 0), H', ⟨by have := HK1.out; have := HK2.out; first | omega | exact Nat.le_refl _⟩, ⟨by (with_reducible repeat apply Kd.R_alloc); exact HL299_0.out⟩, ⟨pwk_⟩, ⟨pwj_⟩, ⟨pwl_⟩⟩
        case rest =>
         clear HC117
         try clear c1
         try clear q1
         try clear c2
         try clear p2
         try clear q2
         try clear hx2
         try clear qi2
         try clear c3
         try clear c4
         try clear c6
         try clear p6
         try clear c8
         try clear c9
         try clear q10
         try clear c11
         try clear q11
         try clear c12
         try clear c26
         try clear p26
         try clear q26
         try clear hx26
         try clear c27
         try clear p27
         try clear q27
         try clear hx27
         try clear c29
         try clear c29b0
         try clear c29b1
         try clear p29
         try clear q29
         try clear hx29
         try clear qi29
         try clear c31
         try clear c31b0
         try clear c48
         try clear c49
         try clear c64
         try clear p64
         try clear c82
         try clear c82b0
         try clear c83
         try clear c83b0
         try clear c84
         try clear c86
         try clear c86b0
         try clear c87
         try clear c87b0
         try clear c88
         try clear c90
         try clear c91
         try clear c91b0
         try clear c92
         try clear c92b0
         try clear c92b1
         try clear c93
         try clear c94
         try clear c95
         try clear c95b0
         try clear c95b1
         try clear c96
         try clear c96b0
         try clear c96b1
         try clear c97
         try clear q109
         try clear c113
         try clear q113
         try clear c115
         try clear c115b0
         try clear c115b1
         try clear c120
         try clear c120b0
         try clear c120b1
         try clear c121
         try clear hx266_0
         try clear hx270_0
         try clear hx299_0
         try clear p266
         try clear p270
         try clear p299
         try clear q0113
         try clear q109
         try clear q113
         try clear q266
         try clear q270
         try clear q299
         obtain ⟨kq, x13_116, HA, HJ116, HO_13, HI0, HK, HB⟩ := hcut
         cases kq with
         | zero => exact absurd HA.out (by simp [spec_l20Term.j2])
         | succ kj116 =>
          have H := HA.out
          clear HA
          simp only [spec_l20Term.j2] at H
          replace H := Option.bind_eq_some_iff.mp H
          obtain ⟨⟨t305, t306⟩, A1230, H⟩ := H
          replace H : (if t305 = true then ((spec_l20Rd_pick.f kj116 s0_0 t306 3).bind fun bt307 => (if bt307.1 = 0 then (some ((([] : List (S41))), bt307.2)) else (if bt307.1 = 1 then (if x13_116.length < 8796093022208 then (some ((x13_116 ++ [(⟨5, 0⟩ : S41)]), bt307.2)) else (none)) else ((spec_l20Rd_pick.f kj116 s0_0 bt307.2 2).bind fun bt315 => (if 0 < (x13_116.length : Int) then (some ((x13_116.set (0 : Int).toNat (⟨bt315.1, 6⟩ : S41)), bt315.2)) else (none)))))) else (some (x13_116, t306))) = some (r1, r2) := H
          have A123 := Aside0.mk A1230
          clear A1230
          by_cases c124 : t305 = true
          ·subst c124
           have H1 : ((spec_l20Rd_pick.f kj116 s0_0 t306 3).bind fun bt307 => (if bt307.1 = 0 then (some ((([] : List (S41))), bt307.2)) else (if bt307.1 = 1 then (if x13_116.length < 8796093022208 then (some ((x13_116 ++ [(⟨5, 0⟩ : S41)]), bt307.2)) else (none)) else ((spec_l20Rd_pick.f kj116 s0_0 bt307.2 2).bind fun bt315 => (if 0 < (x13_116.length : Int) then (some ((x13_116.set (0 : Int).toNat (⟨bt315.1, 6⟩ : S41)), bt315.2)) else (none)))))) = some (r1, r2) := by rw [if_pos rfl] at H; exact H
           clear H
           have H := H1
           clear H1
           replace H := Option.bind_eq_some_iff.mp H
           obtain ⟨⟨t307, t308⟩, A1250, H⟩ := H
           replace H : (if t307 = 0 then (some ((([] : List (S41))), t308)) else (if t307 = 1 then (if x13_116.length < 8796093022208 then (some ((x13_116 ++ [(⟨5, 0⟩ : S41)]), t308)) else (none)) else ((spec_l20Rd_pick.f kj116 s0_0 t308 2).bind fun bt315 => (if 0 < (x13_116.length : Int) then (some ((x13_116.set (0 : Int).toNat (⟨bt315.1, 6⟩ : S41)), bt315.2)) else (none))))) = some (r1, r2) := H
           have A125 := Aside0.mk A1250
           clear A1250
           by_cases c126 : t307 = 0
           ·rw [if_pos c126] at H
            have c126b0 : (t307 == 0) = true := beq_iff_eq.mpr c126
            have c126b1 : (t307 != 0) = false := bne_eq_false_iff_eq.mpr c126
            clear c126
            obtain ⟨y309, hy309⟩ : ∃ y_ : List (S41), y_ = (([] : List (S41))) := ⟨_, rfl⟩
            replace H : (some (y309, t308)) = some (r1, r2) := by first | (rw [hy309]; with_reducible exact H) | (have H2_ := (Option.bind_some _ _).symm.trans H; rw [hy309]; with_reducible exact H2_) | (have H2_ := (Option.bind_some _ _).symm.trans H; with_reducible exact H2_) | with_reducible exact H | (rw [hy309]; exact H) | exact H
            have Ny309 := Aside0.mk hy309
            clear hy309
            simp only [Option.some.injEq, Prod.mk.injEq] at H
            obtain ⟨rfl, rfl⟩ := H
            go_wp2_with (first | ((with_reducible refine gate_callee (f := 69) rfl ?_); refine goesL_ (some 119) rfl rfl Try.func69 (by kernel_rfl) rfl #[.pointer (some ⟨g, 0, none⟩), .int .i64 a2] rfl pwi_ ?_; (with_reducible refine (spec_l20Rd_odd.calls kj116 g s0_0 t301 a2 true t306 w0 _ ?side1 ?side2 A123.out).mono ?_); (case side1 => repeat (first | (with_reducible first | exact HI0.out | apply IsS68.alloc | apply IsS68.drewN | apply IsS68.drew | apply IsS68.set_1) | exact HI0.out)); (case side2 => repeat (first | (with_reducible first | exact HB.out | apply below_alloc | apply pw_below_drewN | apply below_drew1 | refine below_set ?_ (IsS68.ge HI0.out)) | exact HB.out)); rintro e w127 ⟨rfl, hi, hb, hk⟩; refine ⟨_, rfl, ?_⟩; have n0_ := Aside0.mk (Kd.R_mono (Kd.R_keep (IsS68.apart (show IsS68 w0 _ g s0_0 t301 from by repeat (first | (with_reducible first | exact HI0.out | apply IsS68.alloc | apply IsS68.drewN | apply IsS68.drew | apply IsS68.set_1) | exact HI0.out)) pwf_ (by decide)) hk (fun _ h => h.2)) (fun _ h => h.1)); have n1_ := Aside0.mk (KeepBut.trans pwj_ hk (.inl rfl)); have n2_ := Aside0.mk (hb); have n3_ := Aside0.mk (hi); clear HO_13; clear HK; clear HB; clear HI0; have HO_13 := n0_; have HK := n1_; have HB := n2_; have HI0 := n3_; clear n0_ n1_ n2_ n3_; (try clear hb); (try clear hb2); (try clear hk); (try clear hi)) | ((with_reducible refine gate_callee (f := 64) rfl ?_); refine goesL_ (some 121) rfl rfl Try.func64 (by kernel_rfl) rfl #[.pointer (some ⟨g, 0, none⟩), .int .i64 3] rfl pwi_ ?_; (with_reducible refine (spec_l20Rd_pick.calls kj116 g s0_0 t306 3 t307 t308 w0 _ ?side1 ?side2 A125.out).mono ?_); (case side1 => repeat (first | (with_reducible first | exact HI0.out | apply IsS68.alloc | apply IsS68.drewN | apply IsS68.drew | apply IsS68.set_1) | exact HI0.out)); (case side2 => repeat (first | (with_reducible first | exact HB.out | apply below_alloc | apply pw_below_drewN | apply below_drew1 | refine below_set ?_ (IsS68.ge HI0.out)) | exact HB.out)); rintro e w128 ⟨rfl, hi, hb, hk⟩; refine ⟨_, rfl, ?_⟩; have n0_ := Aside0.mk (Kd.R_mono (Kd.R_keep (IsS68.apart (show IsS68 w0 _ g s0_0 t306 from by repeat (first | (with_reducible first | exact HI0.out | apply IsS68.alloc | apply IsS68.drewN | apply IsS68.drew | apply IsS68.set_1) | exact HI0.out)) pwf_ (by decide)) hk (fun _ h => h.2)) (fun _ h => h.1)); have n1_ := Aside0.mk (KeepBut.trans pwj_ hk (.inl rfl)); have n2_ := Aside0.mk (hb); have n3_ := Aside0.mk (hi); clear HO_13; clear HK; clear HB; clear HI0; have HO_13 := n0_; have HK := n1_; have HB := n2_; have HI0 := n3_; clear n0_ n1_ n2_ n3_; (try clear hb); (try clear hb2); (try clear hk); (try clear hi)) | ((with_reducible refine gate_dst (N := 129) rfl ?_); refine Kd.R_lit k41 _ 41 ?hg (N := 129) ?hd (xs := ([] : List (S41))) (inner := []) (ok := fun _ => True) (okp := fun _ => True) ?hr ?hp (fun _ hk => hk) trivial (Below.refl _ _) (Nat.le_refl _) (by simp) ?_; (case hd => rfl); (case hg => rfl); (case hr => first | (go_simp; done) | (go_simp; rfl)); (case hp => exact (Reps.none _ _)); intro v310 w129 ho130 hb hg_ hnew_; clear hg_ hnew_; (first | rw [← Ny309.out] at ho130 | (simp only [Int.reduceToNat] at ho130; rw [← Ny309.out] at ho130)); have n0_ := Aside0.mk (Kd.R_elder' pwf_ (Kd.R_base ho130) hb); have n1_ := Aside0.mk (Kd.R_lower (Kd.R_new' ho130 (Kd.R_lt pwf_)) (keep_size (w := w) (g := g) (row := none) pwj_)); have n2_ := Aside0.mk (IsS68.below pwk_ hb); have n3_ := Aside0.mk (KeepBut.trans pwj_ (KeepBut.of_below hb g none) (.inl rfl)); have n4_ := Aside0.mk (below_step pwl_ hb); clear HO_13; clear HI0; clear HK; clear HB; have HO_13 := n0_; have HO311 := n1_; have HI0 := n2_; have HK := n3_; have HB := n4_; clear n0_ n1_ n2_ n3_ n4_; clear hb ho130))
            go_ret
            exact ⟨_, by first | rfl | (simp [errW_none, errW_some] <;> rfl) | (simp only [← hji4, ← hji5]; first | rfl | (simp [errW_none, errW_some] <;> rfl)) | (simp [*, errW_none, errW_some] <;> rfl), by (with_reducible repeat apply Kd.R_alloc); exact Kd.R_mono HO311.out (fun _ hk => trivial), pwk_, pwl_, pwj_⟩
           ·rw [if_neg c126] at H
            have c126b0 : (t307 == 0) = false := beq_eq_false_iff_ne.mpr c126
            have c126b1 : (t307 != 0) = true := bne_iff_ne.mpr c126
            by_cases c131 : t307 = 1
            ·rw [if_pos c131] at H
             have c131b0 : (t307 == 1) = true := beq_iff_eq.mpr c131
             have c131b1 : (t307 != 1) = false := bne_eq_false_iff_eq.mpr c131
             clear c131
             by_cases c132 : x13_116.length < 8796093022208
             ·rw [if_pos c132] at H
              have LMc132 := Aside0.mk c132
              clear c132
              obtain ⟨y312, hy312⟩ : ∃ y_ : List (S41), y_ = (x13_116 ++ [(⟨5, 0⟩ : S41)]) := ⟨_, rfl⟩
              replace H : (some (y312, t308)) = some (r1, r2) := by first | (rw [hy312]; with_reducible exact H) | (have H2_ := (Option.bind_some _ _).symm.trans H; rw [hy312]; with_reducible exact H2_) | (have H2_ := (Option.bind_some _ _).symm.trans H; with_reducible exact H2_) | with_reducible exact H | (rw [hy312]; exact H) | exact H
              have Ny312 := Aside0.mk hy312
              clear hy312
              simp only [Option.some.injEq, Prod.mk.injEq] at H
              obtain ⟨rfl, rfl⟩ := H
              go_wp2_with (first | ((with_reducible refine gate_callee (f := 69) rfl ?_); refine goesL_ (some 119) rfl rfl Try.func69 (by kernel_rfl) rfl #[.pointer (some ⟨g, 0, none⟩), .int .i64 a2] rfl pwi_ ?_; (with_reducible refine (spec_l20Rd_odd.calls kj116 g s0_0 t301 a2 true t306 w0 _ ?side1 ?side2 A123.out).mono ?_); (case side1 => repeat (first | (with_reducible first | exact HI0.out | apply IsS68.alloc | apply IsS68.drewN | apply IsS68.drew | apply IsS68.set_1) | exact HI0.out)); (case side2 => repeat (first | (with_reducible first | exact HB.out | apply below_alloc | apply pw_below_drewN | apply below_drew1 | refine below_set ?_ (IsS68.ge HI0.out)) | exact HB.out)); rintro e w133 ⟨rfl, hi, hb, hk⟩; refine ⟨_, rfl, ?_⟩; have n0_ := Aside0.mk (Kd.R_mono (Kd.R_keep (IsS68.apart (show IsS68 w0 _ g s0_0 t301 from by repeat (first | (with_reducible first | exact HI0.out | apply IsS68.alloc | apply IsS68.drewN | apply IsS68.drew | apply IsS68.set_1) | exact HI0.out)) pwf_ (by decide)) hk (fun _ h => h.2)) (fun _ h => h.1)); have n1_ := Aside0.mk (KeepBut.trans pwj_ hk (.inl rfl)); have n2_ := Aside0.mk (hb); have n3_ := Aside0.mk (hi); clear HO_13; clear HK; clear HB; clear HI0; have HO_13 := n0_; have HK := n1_; have HB := n2_; have HI0 := n3_; clear n0_ n1_ n2_ n3_; (try clear hb); (try clear hb2); (try clear hk); (try clear hi)) | ((with_reducible refine gate_callee (f := 64) rfl ?_); refine goesL_ (some 121) rfl rfl Try.func64 (by kernel_rfl) rfl #[.pointer (some ⟨g, 0, none⟩), .int .i64 3] rfl pwi_ ?_; (with_reducible refine (spec_l20Rd_pick.calls kj116 g s0_0 t306 3 t307 t308 w0 _ ?side1 ?side2 A125.out).mono ?_); (case side1 => repeat (first | (with_reducible first | exact HI0.out | apply IsS68.alloc | apply IsS68.drewN | apply IsS68.drew | apply IsS68.set_1) | exact HI0.out)); (case side2 => repeat (first | (with_reducible first | exact HB.out | apply below_alloc | apply pw_below_drewN | apply below_drew1 | refine below_set ?_ (IsS68.ge HI0.out)) | exact HB.out)); rintro e w134 ⟨rfl, hi, hb, hk⟩; refine ⟨_, rfl, ?_⟩; have n0_ := Aside0.mk (Kd.R_mono (Kd.R_keep (IsS68.apart (show IsS68 w0 _ g s0_0 t306 from by repeat (first | (with_reducible first | exact HI0.out | apply IsS68.alloc | apply IsS68.drewN | apply IsS68.drew | apply IsS68.set_1) | exact HI0.out)) pwf_ (by decide)) hk (fun _ h => h.2)) (fun _ h => h.1)); have n1_ := Aside0.mk (KeepBut.trans pwj_ hk (.inl rfl)); have n2_ := Aside0.mk (hb); have n3_ := Aside0.mk (hi); clear HO_13; clear HK; clear HB; clear HI0; have HO_13 := n0_; have HK := n1_; have HB := n2_; have HI0 := n3_; clear n0_ n1_ n2_ n3_; (try clear hb); (try clear hb2); (try clear hk); (try clear hi)) | ((with_reducible refine gate_builtin (b := .append) (xs := #[.tmp 132, .tmp 134]) rfl ?_); at_builtin; refine Kd.R_append k41 w.heap.size rfl (.tmp 132) (.tmp 134) 23 41 (.agg #[(.int .i64 0), (.int .i64 0)]) 16 rfl Try.underlying23 info41 rfl (by decide) (by omega) u13 x13_116 (⟨5, 0⟩ : S41) [.int .i64 5, .int .i64 0] (fun _ => True) (fun _ => False) rfl rfl ?aP (fun _ hk => hk.elim) ?aF ?aO (Below.refl _ _) ?aS ?aL ?_; (case aP => exact k41_mkM _ _ _ (⟨5, 0⟩ : S41)); (case aF => exact (fun _ _ => trivial)); (case aO => exact pwf_); (case aS => exact (keep_size (w := w) (g := g) (row := none) pwj_)); (case aL => have := LMc132.out; omega); intro v313 w135 ho hb hg hat; rw [← Ny312.out] at ho; have n0_ := Aside0.mk (IsS68.grown pwk_ hg (IsS68.own_ne HI0.out HO_13.out (by decide))); have n1_ := Aside0.mk (below_weaken pwl_ HL.out hb); have n2_ := Aside0.mk (KeepBut.trans pwj_ (KeepBut.of_grown hg g) (Kd.R_base2 HO_13.out)); have n3_ := Aside0.mk (ho); clear HI0; clear HB; clear HK; clear HO_13; have HI0 := n0_; have HB := n1_; have HK := n2_; have HO314 := n3_; clear n0_ n1_ n2_ n3_; clear ho hb hg hat))
              go_ret
              exact ⟨_, by first | rfl | (simp [errW_none, errW_some] <;> rfl) | (simp only [← hji4, ← hji5]; first | rfl | (simp [errW_none, errW_some] <;> rfl)) | (simp [*, errW_none, errW_some] <;> rfl), by (with_reducible repeat apply Kd.R_alloc); exact HO314.out, pwk_, pwl_, pwj_⟩
             ·rw [if_neg c132] at H
              exact absurd H (by simp)
            ·rw [if_neg c131] at H
             have c131b0 : (t307 == 1) = false := beq_eq_false_iff_ne.mpr c131
             have c131b1 : (t307 != 1) = true := bne_iff_ne.mpr c131
             replace H := Option.bind_eq_some_iff.mp H
             obtain ⟨⟨t315, t316⟩, A1360, H⟩ := H
             replace H : (if 0 < (x13_116.length : Int) then (some ((x13_116.set (0 : Int).toNat (⟨t315, 6⟩ : S41)), t316)) else (none)) = some (r1, r2) := H
             have A136 := Aside0.mk A1360
             clear A1360
             by_cases c137 : 0 < (x13_116.length : Int)
             ·rw [if_pos c137] at H
              have c137b0 : decide (0 < (x13_116.length : Int)) = true := decide_eq_true c137
              have c137b1 : decide (0 < x13_116.length) = true := decide_eq_true (by omega)
              clear c137
              obtain ⟨y317, hy317⟩ : ∃ y_ : List (S41), y_ = (x13_116.set (0 : Int).toNat (⟨t315, 6⟩ : S41)) := ⟨_, rfl⟩
              replace H : (some (y317, t316)) = some (r1, r2) := by first | (rw [hy317]; with_reducible exact H) | (have H2_ := (Option.bind_some _ _).symm.trans H; rw [hy317]; with_reducible exact H2_) | (have H2_ := (Option.bind_some _ _).symm.trans H; with_reducible exact H2_) | with_reducible exact H | (rw [hy317]; exact H) | exact H
              have Ny317 := Aside0.mk hy317
              clear hy317
              simp only [Option.some.injEq, Prod.mk.injEq] at H
              obtain ⟨rfl, rfl⟩ := H
              go_wp2_with (first | ((with_reducible refine gate_callee (f := 69) rfl ?_); refine goesL_ (some 119) rfl rfl Try.func69 (by kernel_rfl) rfl #[.pointer (some ⟨g, 0, none⟩), .int .i64 a2] rfl pwi_ ?_; (with_reducible refine (spec_l20Rd_odd.calls kj116 g s0_0 t301 a2 true t306 w0 _ ?side1 ?side2 A123.out).mono ?_); (case side1 => repeat (first | (with_reducible first | exact HI0.out | apply IsS68.alloc | apply IsS68.drewN | apply IsS68.drew | apply IsS68.set_1) | exact HI0.out)); (case side2 => repeat (first | (with_reducible first | exact HB.out | apply below_alloc | apply pw_below_drewN | apply below_drew1 | refine below_set ?_ (IsS68.ge HI0.out)) | exact HB.out)); rintro e w139 ⟨rfl, hi, hb, hk⟩; refine ⟨_, rfl, ?_⟩; have n0_ := Aside0.mk (Kd.R_mono (Kd.R_keep (IsS68.apart (show IsS68 w0 _ g s0_0 t301 from by repeat (first | (with_reducible first | exact HI0.out | apply IsS68.alloc | apply IsS68.drewN | apply IsS68.drew | apply IsS68.set_1) | exact HI0.out)) pwf_ (by decide)) hk (fun _ h => h.2)) (fun _ h => h.1)); have n1_ := Aside0.mk (KeepBut.trans pwj_ hk (.inl rfl)); have n2_ := Aside0.mk (hb); have n3_ := Aside0.mk (hi); clear HO_13; clear HK; clear HB; clear HI0; have HO_13 := n0_; have HK := n1_; have HB := n2_; have HI0 := n3_; clear n0_ n1_ n2_ n3_; (try clear hb); (try clear hb2); (try clear hk); (try clear hi)) | ((with_reducible refine gate_callee (f := 64) rfl ?_); refine goesL_ (some 121) rfl rfl Try.func64 (by kernel_rfl) rfl #[.pointer (some ⟨g, 0, none⟩), .int .i64 3] rfl pwi_ ?_; (with_reducible refine (spec_l20Rd_pick.calls kj116 g s0_0 t306 3 t307 t308 w0 _ ?side1 ?side2 A125.out).mono ?_); (case side1 => repeat (first | (with_reducible first | exact HI0.out | apply IsS68.alloc | apply IsS68.drewN | apply IsS68.drew | apply IsS68.set_1) | exact HI0.out)); (case side2 => repeat (first | (with_reducible first | exact HB.out | apply below_alloc | apply pw_below_drewN | apply below_drew1 | refine below_set ?_ (IsS68.ge HI0.out)) | exact HB.out)); rintro e w140 ⟨rfl, hi, hb, hk⟩; refine ⟨_, rfl, ?_⟩; have n0_ := Aside0.mk (Kd.R_mono (Kd.R_keep (IsS68.apart (show IsS68 w0 _ g s0_0 t306 from by repeat (first | (with_reducible first | exact HI0.out | apply IsS68.alloc | apply IsS68.drewN | apply IsS68.drew | apply IsS68.set_1) | exact HI0.out)) pwf_ (by decide)) hk (fun _ h => h.2)) (fun _ h => h.1)); have n1_ := Aside0.mk (KeepBut.trans pwj_ hk (.inl rfl)); have n2_ := Aside0.mk (hb); have n3_ := Aside0.mk (hi); clear HO_13; clear HK; clear HB; clear HI0; have HO_13 := n0_; have HK := n1_; have HB := n2_; have HI0 := n3_; clear n0_ n1_ n2_ n3_; (try clear hb); (try clear hb2); (try clear hk); (try clear hi)) | ((with_reducible refine gate_callee (f := 64) rfl ?_); refine goesL_ (some 124) rfl rfl Try.func64 (by kernel_rfl) rfl #[.pointer (some ⟨g, 0, none⟩), .int .i64 2] rfl pwi_ ?_; (with_reducible refine (spec_l20Rd_pick.calls kj116 g s0_0 t308 2 t315 t316 w0 _ ?side1 ?side2 A136.out).mono ?_); (case side1 => repeat (first | (with_reducible first | exact HI0.out | apply IsS68.alloc | apply IsS68.drewN | apply IsS68.drew | apply IsS68.set_1) | exact HI0.out)); (case side2 => repeat (first | (with_reducible first | exact HB.out | apply below_alloc | apply pw_below_drewN | apply below_drew1 | refine below_set ?_ (IsS68.ge HI0.out)) | exact HB.out)); rintro e w141 ⟨rfl, hi, hb, hk⟩; refine ⟨_, rfl, ?_⟩; have n0_ := Aside0.mk (Kd.R_mono (Kd.R_keep (IsS68.apart (show IsS68 w0 _ g s0_0 t308 from by repeat (first | (with_reducible first | exact HI0.out | apply IsS68.alloc | apply IsS68.drewN | apply IsS68.drew | apply IsS68.set_1) | exact HI0.out)) pwf_ (by decide)) hk (fun _ h => h.2)) (fun _ h => h.1)); have n1_ := Aside0.mk (KeepBut.trans pwj_ hk (.inl rfl)); have n2_ := Aside0.mk (hb); have n3_ := Aside0.mk (hi); clear HO_13; clear HK; clear HB; clear HI0; have HO_13 := n0_; have HK := n1_; have HB := n2_; have HI0 := n3_; clear n0_ n1_ n2_ n3_; (try clear hb); (try clear hb2); (try clear hk); (try clear hi); have p138 : 0 ≤ (0 : Int) := (by omega); have q138 : (0 : Int) < ((x13_116.length : Int) : Int) := of_decide_eq_true pwb_; have qi138 : (0 < x13_116.length) = True := eq_true (by omega); obtain ⟨go138, co138, eo138, gb138, gl138, cl138, HG138⟩ := Kd.R_form HO_13.out (by omega); (first | cases eo138 | (injection eo138 with ea_ en_ ec_; (first | subst ea_ | (injection ea_ with ea_; subst ea_)); subst ec_; clear en_)); have GB138 := Aside0.mk gb138; have GG138 := Aside0.mk HG138; clear gb138 gl138 HG138; obtain ⟨ce138, hcl138, hM138, hcc138, hfr138⟩ := Kd.R_elem HO_13.out z41 (0 : Int) p138 q138; obtain rfl := k41_openM hM138; have hx138_0 : w141.cell? ⟨go138, (0 : Int).toNat * 2, none⟩ = some (.int .i64 ((rd_T41 x13_116 0).f0)) := hcc138 0 _ rfl; have hx138_1 : w141.cell? ⟨go138, (0 : Int).toNat * 2 + 1, none⟩ = some (.int .i64 ((rd_T41 x13_116 0).f1)) := hcc138 1 _ rfl; have hf138_0 : w141.frozen? ⟨go138, (0 : Int).toNat * 2, none⟩ = false := hfr138 0; have hf138_1 : w141.frozen? ⟨go138, (0 : Int).toNat * 2 + 1, none⟩ = false := hfr138 1; clear hcl138 hcc138 hfr138; (try clear hM138); skip; (try rw [show ((0 : Int)).toNat = 0 from rfl] at hx138_0); (try simp only [Nat.reduceMul, Nat.zero_mul, Nat.zero_add, Nat.reduceAdd] at hx138_0); (try rw [show ((0 : Int)).toNat = 0 from rfl] at hf138_0); (try simp only [Nat.reduceMul, Nat.zero_mul, Nat.zero_add, Nat.reduceAdd] at hf138_0); (try rw [show ((0 : Int)).toNat = 0 from rfl] at hx138_1); (try simp only [Nat.reduceMul, Nat.zero_mul, Nat.zero_add, Nat.reduceAdd] at hx138_1); (try rw [show ((0 : Int)).toNat = 0 from rfl] at hf138_1); (try simp only [Nat.reduceMul, Nat.zero_mul, Nat.zero_add, Nat.reduceAdd] at hf138_1); replace p138 := eq_true p138; replace q138 := eq_true q138; have HX142 := Aside0.mk (show Kd.R k41 41 w141 w.heap.size (fun _ => True) (.slice (some ⟨go138, 0, none⟩) x13_116.length co138) x13_116 from pwf_); obtain ⟨ce142, hcl142, hM142, hcc142, hfr142⟩ := Kd.R_elem HX142.out z41 (0 : Int) (by omega) (by have h_ : (0 : Int) < ((x13_116.length : Int) : Int) := of_decide_eq_true pwb_; first | exact h_ | (have e_ := (Kd.R_reads' HO_13.out).1; omega) | simpa using h_); obtain rfl := k41_openM hM142; have HP142 := Kd.R_seg HX142.out (0 : Int) (by omega) (by have h_ : (0 : Int) < ((x13_116.length : Int) : Int) := of_decide_eq_true pwb_; first | exact h_ | (have e_ := (Kd.R_reads' HO_13.out).1; omega) | simpa using h_) (seg := [.int .i64 t315, .int .i64 6]) (j := 0) hcl142 hcc142 (show 2 ≤ 2 from by decide) (x' := (⟨t315, 6⟩ : S41)) (k41_mkM _ _ _ (⟨t315, 6⟩ : S41) ) (fun _ hk => hk); have hx142_0 := hcc142 0 _ rfl; (try simp only [show (k41).sz = 2 from rfl, Nat.mul_one, Nat.add_zero] at hx142_0); (try rw [show ((0 : Int)).toNat = 0 from rfl] at hx142_0); (try simp only [Nat.reduceMul, Nat.zero_mul, Nat.zero_add, Nat.reduceAdd] at hx142_0); have hf142_0 := hfr142 0; (try simp only [show (k41).sz = 2 from rfl, Nat.mul_one, Nat.add_zero] at hf142_0); (try rw [show ((0 : Int)).toNat = 0 from rfl] at hf142_0); (try simp only [Nat.reduceMul, Nat.zero_mul, Nat.zero_add, Nat.reduceAdd] at hf142_0); have hx142_1 := hcc142 1 _ rfl; (try simp only [show (k41).sz = 2 from rfl, Nat.mul_one, Nat.add_zero] at hx142_1); (try rw [show ((0 : Int)).toNat = 0 from rfl] at hx142_1); (try simp only [Nat.reduceMul, Nat.zero_mul, Nat.zero_add, Nat.reduceAdd] at hx142_1); have hf142_1 := hfr142 1; (try simp only [show (k41).sz = 2 from rfl, Nat.mul_one, Nat.add_zero] at hf142_1); (try rw [show ((0 : Int)).toNat = 0 from rfl] at hf142_1); (try simp only [Nat.reduceMul, Nat.zero_mul, Nat.zero_add, Nat.reduceAdd] at hf142_1); clear hcl142 hcc142 hfr142; (try clear hM142); skip) | ((with_reducible refine gate_store (t := 41) (p := 126) rfl ?_); refine store_event (t := 41) (p := 126) (v := ?vo_w143) (w1 := ((w141.setCell ⟨go138, 0, none⟩ (.int .i64 t315)).setCell ⟨go138, 1, none⟩ (.int .i64 6))) ?hg ?ho ?hn ?hr ?_; (case ho => rfl); (case hg => rfl); (case hn => rfl); (case hr => first | (go_simp; done) | (go_simp; rfl)); intro w143 hw; have hg : w141.grownBy w143 (some go138) := (by rw [hw]; exact HP142.2); have hp_ : Kd.R k41 41 w143 w.heap.size (fun _ => True) (.slice (some ⟨go138, 0, none⟩) x13_116.length co138) y317 := (by rw [hw, Ny317.out]; exact HP142.1); clear HP142; have n0_ := Aside0.mk (hp_); have n1_ := Aside0.mk (IsS68.grown pwk_ hg (IsS68.own_ne HI0.out HO_13.out (by decide))); have n2_ := Aside0.mk ((by rw [hw]; exact below_set (below_set (HB.out) (Nat.le_trans HL.out GB138.out)) (Nat.le_trans HL.out GB138.out) : Below w0.heap.size w0 w143)); have n3_ := Aside0.mk (KeepBut.trans pwj_ (KeepBut.of_grown hg g) (Kd.R_base2 HO_13.out)); clear HO_13; clear HI0; clear HB; clear HK; have HO_13 := n0_; have HI0 := n1_; have HB := n2_; have HK := n3_; clear n0_ n1_ n2_ n3_; clear hg hw hp_))
              go_ret
              exact ⟨_, by first | rfl | (simp [errW_none, errW_some] <;> rfl) | (simp only [← hji4, ← hji5]; first | rfl | (simp [errW_none, errW_some] <;> rfl)) | (simp [*, errW_none, errW_some] <;> rfl), pwf_, pwk_, pwl_, pwj_⟩
             ·rw [if_neg c137] at H
              exact absurd H (by simp)
          ·replace c124 := Bool.eq_false_iff.mpr c124
           subst c124
           have H1 : (some (x13_116, t306)) = some (r1, r2) := by rw [if_neg (show ¬ (false = true) by decide)] at H; exact H
           clear H
           have H := H1
           clear H1
           simp only [Option.some.injEq, Prod.mk.injEq] at H
           obtain ⟨rfl, rfl⟩ := H
           go_wp2_with (first | ((with_reducible refine gate_callee (f := 69) rfl ?_); refine goesL_ (some 119) rfl rfl Try.func69 (by kernel_rfl) rfl #[.pointer (some ⟨g, 0, none⟩), .int .i64 a2] rfl pwi_ ?_; (with_reducible refine (spec_l20Rd_odd.calls kj116 g s0_0 t301 a2 false t306 w0 _ ?side1 ?side2 A123.out).mono ?_); (case side1 => repeat (first | (with_reducible first | exact HI0.out | apply IsS68.alloc | apply IsS68.drewN | apply IsS68.drew | apply IsS68.set_1) | exact HI0.out)); (case side2 => repeat (first | (with_reducible first | exact HB.out | apply below_alloc | apply pw_below_drewN | apply below_drew1 | refine below_set ?_ (IsS68.ge HI0.out)) | exact HB.out)); rintro e w144 ⟨rfl, hi, hb, hk⟩; refine ⟨_, rfl, ?_⟩; have n0_ := Aside0.mk (Kd.R_mono (Kd.R_keep (IsS68.apart (show IsS68 w0 _ g s0_0 t301 from by repeat (first | (with_reducible first | exact HI0.out | apply IsS68.alloc | apply IsS68.drewN | apply IsS68.drew | apply IsS68.set_1) | exact HI0.out)) pwf_ (by decide)) hk (fun _ h => h.2)) (fun _ h => h.1)); have n1_ := Aside0.mk (KeepBut.trans pwj_ hk (.inl rfl)); have n2_ := Aside0.mk (hb); have n3_ := Aside0.mk (hi); clear HO_13; clear HK; clear HB; clear HI0; have HO_13 := n0_; have HK := n1_; have HB := n2_; have HI0 := n3_; clear n0_ n1_ n2_ n3_; (try clear hb); (try clear hb2); (try clear hk); (try clear hi)))
           go_ret
           exact ⟨_, by first | rfl | (simp [errW_none, errW_some] <;> rfl) | (simp only [← hji4, ← hji5]; first | rfl | (simp [errW_none, errW_some] <;> rfl)) | (simp [*, errW_none, errW_some] <;> rfl), pwf_, pwk_, pwl_, pwj_⟩
       ·rw [if_neg c115] at H
        exact absurd H (by simp)

end Go.Proofs.Ytigkmppgbaoafaa.PFnFollowsOk
