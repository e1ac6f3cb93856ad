-- Made by a program of this session (wip/tools/patchprint.py), not by the kit itself.
import Derived.Test.YtigkmppgbaoafaaPFnMatterInx0
import Derived.Test.YtigkmppgbaoafaaPFnMatterInx7
namespace Go.Proofs.Ytigkmppgbaoafaa.PFnMatterIn
open Go.RowKit Go.Proofs.YtigkmppgbaoafaaW.PrintWords Go.Proofs.YtigkmppgbaoafaaW.PrintLast Go.Proofs.YtigkmppgbaoafaaW.PrintMore
attribute [local go_sem] max2_int min2_int max_two min_two max_three min_three max_four min_four   -- for this text's walks alone
set_option linter.unusedVariables false
set_option linter.unusedSimpArgs false

attribute [local go_sem] setCell_isSome
/-! ### spec_l20Term: function 65 -/
mutual
def spec_l20Term.l0 : Nat → Int → Int → List (List (S41)) → Int → List Int → Int → Option ((List (S41)) × Int)
 | 0, _, _, _, _, _, _ => none
 | k + 1, x1, x2, x7, x8, x1000, x1001 => if x8 > 0 then ((spec_l20Rd_pick.f k x1000 x1001 4).bind fun bt205 => (if bt205.1 = 0 then ((spec_l20Rd_pick.f k x1000 bt205.2 (wrap64 (x1 + 2))).bind fun bt207 => (if x7.length < 5864062014805 then (spec_l20Term.l0 k x1 x2 (x7 ++ [(([(⟨1, bt207.1⟩ : S41)] : List (S41)))]) (wrap64 (x8 - 1)) x1000 bt207.2) else (none))) else ((spec_l20Rd_pick.f k x1000 bt205.2 x1).bind fun bt215 => (if x7.length < 5864062014805 then (spec_l20Term.l0 k x1 x2 (x7 ++ [(([(⟨0, bt215.1⟩ : S41)] : List (S41)))]) (wrap64 (x8 - 1)) x1000 bt215.2) else (none))))) else (spec_l20Term.l1 k x2 x7 3 x1000 x1001)
def spec_l20Term.l1 : Nat → Int → List (List (S41)) → Int → List Int → Int → Option ((List (S41)) × Int)
 | 0, _, _, _, _, _ => none
 | k + 1, x2, x7, x9, x1000, x1001 => if (x7.length : Int) > 1 then ((spec_l20Rd_pick.f k x1000 x1001 (wrap64 ((x7.length : Int) - 1))).bind fun bt223 => (if x9 > 0 then ((spec_l20Rd_pick.f k x1000 bt223.2 4).bind fun bt225 => (if bt225.1 = 0 then ((some (([] : List (S41)) : List (S41))).bind fun y227 => (if 0 ≤ bt223.1 then (if bt223.1 < (x7.length : Int) then (if y227.length + (rd_L4 x7 bt223.1).length < 8796093022208 then ((some (y227 ++ (rd_L4 x7 bt223.1) : List (S41))).bind fun y231 => (if y231.length < 8796093022208 then (spec_l20Term.l1 k x2 (x7.set (bt223.1 : Int).toNat (y231 ++ [(⟨2, 0⟩ : S41)])) (wrap64 (x9 - 1)) x1000 bt225.2) else (none))) else (none)) else (none)) else (none))) else ((some (([] : List (S41)) : List (S41))).bind fun y238 => (if 0 ≤ bt223.1 then (if bt223.1 < (x7.length : Int) then (if y238.length + (rd_L4 x7 bt223.1).length < 8796093022208 then ((some (y238 ++ (rd_L4 x7 bt223.1) : List (S41))).bind fun y242 => (if 0 ≤ (wrap64 (bt223.1 + 1)) then (if (wrap64 (bt223.1 + 1)) < (x7.length : Int) then (if y242.length + (rd_L4 x7 (wrap64 (bt223.1 + 1))).length < 8796093022208 then ((some (y242 ++ (rd_L4 x7 (wrap64 (bt223.1 + 1))) : List (S41))).bind fun y246 => ((spec_l20Rd_pick.f k x1000 bt225.2 3).bind fun bt249 => (if y246.length < 8796093022208 then ((some (([] : List (List (S41))) : List (List (S41)))).bind fun y254 => (if bt223.1 ≤ (x7.length : Int) then ((some (x7.take (bt223.1 : Int).toNat : List (List (S41)))).bind fun y257 => (if y254.length + y257.length < 5864062014805 then ((some (y254 ++ y257 : List (List (S41)))).bind fun y261 => (if y261.length < 5864062014805 then ((some (y261 ++ [(y246 ++ [(⟨wrap64 (3 + bt249.1), 0⟩ : S41)])] : List (List (S41)))).bind fun y264 => (if 0 ≤ (wrap64 (bt223.1 + 2)) then (if (wrap64 (bt223.1 + 2)) ≤ (x7.length : Int) then ((some (x7.drop ((wrap64 (bt223.1 + 2)) : Int).toNat : List (List (S41)))).bind fun y267 => (if y264.length + y267.length < 5864062014805 then (spec_l20Term.l1 k x2 (y264 ++ y267) x9 x1000 bt249.2) else (none))) else (none)) else (none))) else (none))) else (none))) else (none))) else (none)))) else (none)) else (none)) else (none))) else (none)) else (none)) else (none))))) else ((some (([] : List (S41)) : List (S41))).bind fun y274 => (if 0 ≤ bt223.1 then (if bt223.1 < (x7.length : Int) then (if y274.length + (rd_L4 x7 bt223.1).length < 8796093022208 then ((some (y274 ++ (rd_L4 x7 bt223.1) : List (S41))).bind fun y278 => (if 0 ≤ (wrap64 (bt223.1 + 1)) then (if (wrap64 (bt223.1 + 1)) < (x7.length : Int) then (if y278.length + (rd_L4 x7 (wrap64 (bt223.1 + 1))).length < 8796093022208 then ((some (y278 ++ (rd_L4 x7 (wrap64 (bt223.1 + 1))) : List (S41))).bind fun y282 => ((spec_l20Rd_pick.f k x1000 bt223.2 3).bind fun bt285 => (if y282.length < 8796093022208 then ((some (([] : List (List (S41))) : List (List (S41)))).bind fun y290 => (if bt223.1 ≤ (x7.length : Int) then ((some (x7.take (bt223.1 : Int).toNat : List (List (S41)))).bind fun y293 => (if y290.length + y293.length < 5864062014805 then ((some (y290 ++ y293 : List (List (S41)))).bind fun y297 => (if y297.length < 5864062014805 then ((some (y297 ++ [(y282 ++ [(⟨wrap64 (3 + bt285.1), 0⟩ : S41)])] : List (List (S41)))).bind fun y300 => (if 0 ≤ (wrap64 (bt223.1 + 2)) then (if (wrap64 (bt223.1 + 2)) ≤ (x7.length : Int) then ((some (x7.drop ((wrap64 (bt223.1 + 2)) : Int).toNat : List (List (S41)))).bind fun y303 => (if y300.length + y303.length < 5864062014805 then (spec_l20Term.l1 k x2 (y300 ++ y303) x9 x1000 bt285.2) else (none))) else (none)) else (none))) else (none))) else (none))) else (none))) else (none)))) else (none)) else (none)) else (none))) else (none)) else (none)) else (none))))) else (if 0 < (x7.length : Int) then ((spec_l20Rd_pick.f k x1000 x1001 5).bind fun bt311 => (if bt311.1 = 0 then (if (rd_L4 x7 0).length < 8796093022208 then (spec_l20Term.j2 k x2 ((rd_L4 x7 0) ++ [(⟨2, 0⟩ : S41)]) x1000 bt311.2) else (none)) else (spec_l20Term.j2 k x2 (rd_L4 x7 0) x1000 bt311.2))) else (none))
def spec_l20Term.j2 : Nat → Int → List (S41) → List Int → Int → Option ((List (S41)) × Int)
 | 0, _, _, _, _ => none
 | k + 1, x2, x13, x1000, x1001 => (spec_l20Rd_odd.f k x1000 x1001 x2).bind fun bt316 => (if bt316.1 = true then ((spec_l20Rd_pick.f k x1000 bt316.2 3).bind fun bt318 => (if bt318.1 = 0 then (some ((([] : List (S41))), bt318.2)) else (if bt318.1 = 1 then (if x13.length < 8796093022208 then (some ((x13 ++ [(⟨5, 0⟩ : S41)]), bt318.2)) else (none)) else ((spec_l20Rd_pick.f k x1000 bt318.2 2).bind fun bt326 => (if 0 < (x13.length : Int) then (some ((x13.set (0 : Int).toNat (⟨bt326.1, 6⟩ : S41)), bt326.2)) else (none)))))) else (some (x13, bt316.2)))
end
def spec_l20Term.f (k : Nat) (s0_0 : List Int) (s0_1 : Int) (a1 : Int) (a2 : Int) : Option ((List (S41)) × Int) := (spec_l20Rd_pick.f k s0_0 s0_1 4).bind fun bt203 => (spec_l20Term.l0 k (mn (mx a1 1) 4) a2 (([] : List (List (S41)))) (wrap64 (1 + bt203.1)) s0_0 bt203.2)
theorem spec_l20Term.mono_l : ∀ k, (∀ y0 y1 y2 y3 y4 y5, LeO (spec_l20Term.l0 k y0 y1 y2 y3 y4 y5) (spec_l20Term.l0 (k + 1) y0 y1 y2 y3 y4 y5)) ∧ (∀ y0 y1 y2 y3 y4, LeO (spec_l20Term.l1 k y0 y1 y2 y3 y4) (spec_l20Term.l1 (k + 1) y0 y1 y2 y3 y4)) ∧ (∀ y0 y1 y2 y3, LeO (spec_l20Term.j2 k y0 y1 y2 y3) (spec_l20Term.j2 (k + 1) y0 y1 y2 y3))
 | 0 => ⟨fun _ _ _ _ _ _ r h => by simp [spec_l20Term.l0] at h, fun _ _ _ _ _ r h => by simp [spec_l20Term.l1] at h, fun _ _ _ _ r h => by simp [spec_l20Term.j2] at h⟩
 | k + 1 => by
  obtain ⟨ih0, ih1, ih2⟩ := spec_l20Term.mono_l k
  refine ⟨?_, ?_, ?_⟩
  ·intro y0 y1 y2 y3 y4 y5
   unfold spec_l20Term.l0
   repeat' first
   | (with_reducible exact ih0 _ _ _ _ _ _)
   | (with_reducible exact ih1 _ _ _ _ _)
   | (with_reducible exact ih2 _ _ _ _)
   | (with_reducible exact spec_l20Rd_odd.mono _ _ _ _)
   | (with_reducible exact spec_l20Rd_pick.mono _ _ _ _)
   | (with_reducible exact LeO.refl _)
   | (with_reducible exact LeO.none _)
   | (with_reducible refine LeO.ite ?_ ?_)
   | (with_reducible refine LeO.bind ?_ (fun _ => ?_))
   | exact ih0 _ _ _ _ _ _
   | exact ih1 _ _ _ _ _
   | exact ih2 _ _ _ _
   | exact spec_l20Rd_odd.mono _ _ _ _
   | exact spec_l20Rd_pick.mono _ _ _ _
   | exact LeO.none _
   | refine LeO.ite ?_ ?_
   | refine LeO.bind ?_ (fun _ => ?_)
  ·intro y0 y1 y2 y3 y4
   unfold spec_l20Term.l1
   repeat' first
   | (with_reducible exact ih0 _ _ _ _ _ _)
   | (with_reducible exact ih1 _ _ _ _ _)
   | (with_reducible exact ih2 _ _ _ _)
   | (with_reducible exact spec_l20Rd_odd.mono _ _ _ _)
   | (with_reducible exact spec_l20Rd_pick.mono _ _ _ _)
   | (with_reducible exact LeO.refl _)
   | (with_reducible exact LeO.none _)
   | (with_reducible refine LeO.ite ?_ ?_)
   | (with_reducible refine LeO.bind ?_ (fun _ => ?_))
   | exact ih0 _ _ _ _ _ _
   | exact ih1 _ _ _ _ _
   | exact ih2 _ _ _ _
   | exact spec_l20Rd_odd.mono _ _ _ _
   | exact spec_l20Rd_pick.mono _ _ _ _
   | exact LeO.none _
   | refine LeO.ite ?_ ?_
   | refine LeO.bind ?_ (fun _ => ?_)
  ·intro y0 y1 y2 y3
   unfold spec_l20Term.j2
   repeat' first
   | (with_reducible exact ih0 _ _ _ _ _ _)
   | (with_reducible exact ih1 _ _ _ _ _)
   | (with_reducible exact ih2 _ _ _ _)
   | (with_reducible exact spec_l20Rd_odd.mono _ _ _ _)
   | (with_reducible exact spec_l20Rd_pick.mono _ _ _ _)
   | (with_reducible exact LeO.refl _)
   | (with_reducible exact LeO.none _)
   | (with_reducible refine LeO.ite ?_ ?_)
   | (with_reducible refine LeO.bind ?_ (fun _ => ?_))
   | exact ih0 _ _ _ _ _ _
   | exact ih1 _ _ _ _ _
   | exact ih2 _ _ _ _
   | exact spec_l20Rd_odd.mono _ _ _ _
   | exact spec_l20Rd_pick.mono _ _ _ _
   | exact LeO.none _
   | refine LeO.ite ?_ ?_
   | refine LeO.bind ?_ (fun _ => ?_)
theorem spec_l20Term.mono : ∀ a0 a1 a2 a3 k, LeO (spec_l20Term.f k a0 a1 a2 a3) (spec_l20Term.f (k + 1) a0 a1 a2 a3) := by
 intro a0 a1 a2 a3 k
 obtain ⟨ih0, ih1, ih2⟩ := spec_l20Term.mono_l k
 unfold spec_l20Term.f
 repeat' first
   | (with_reducible exact ih0 _ _ _ _ _ _)
   | (with_reducible exact ih1 _ _ _ _ _)
   | (with_reducible exact ih2 _ _ _ _)
   | (with_reducible exact spec_l20Rd_odd.mono _ _ _ _)
   | (with_reducible exact spec_l20Rd_pick.mono _ _ _ _)
   | (with_reducible exact LeO.refl _)
   | (with_reducible exact LeO.none _)
   | (with_reducible refine LeO.ite ?_ ?_)
   | (with_reducible refine LeO.bind ?_ (fun _ => ?_))
   | exact ih0 _ _ _ _ _ _
   | exact ih1 _ _ _ _ _
   | exact ih2 _ _ _ _
   | exact spec_l20Rd_odd.mono _ _ _ _
   | exact spec_l20Rd_pick.mono _ _ _ _
   | exact LeO.none _
   | refine LeO.ite ?_ ?_
   | refine LeO.bind ?_ (fun _ => ?_)
def spec_l20Term.T15 : Bool × List (List Nat × List Nat) := (true, [([], []), ([], []), ([], []), ([1, 2], [1, 2]), ([3], [3]), ([0, 4], [0, 4]), ([], []), ([], []), ([7], [7]), ([6, 8], [6, 8]), ([9], [9]), ([5, 10, 5], [5, 10]), ([], []), ([12, 11], [12]), ([13], [13]), ([14], [14]), ([15], [15]), ([11, 16, 13], [11, 16]), ([17, 17, 0, 1, 2, 3, 4, 5, 6, 7, 8, 9, 10, 11, 12, 13, 14, 15, 16, 17], [17])])
def spec_l20Term.B15 : List Nat := [0, 0, 0, 6, 14, 31, 0, 0, 128, 448, 960, 2047, 0, 8191, 16383, 32767, 65535, 131071, 262143]
theorem spec_l20Term.tab15 : rtab .any (opsOf Try.f65 15) = spec_l20Term.T15 := by kernel_rfl
theorem spec_l20Term.bits15 : waitsOk spec_l20Term.T15.2 spec_l20Term.B15 = true := by kernel_rfl
set_option maxHeartbeats 8000000 in
set_option maxRecDepth 100000 in
theorem spec_l20Term.calls (k : Nat) (g : Nat) (s0_0 : List Int) (s0_1 : Int) (a1 : Int) (a2 : Int) (r1 : List (S41)) (r2 : Int) (w0 w : World) (hI : IsS68 w0 w g s0_0 s0_1) (hB : Below w0.heap.size w0 w) (h : spec_l20Term.f k s0_0 s0_1 a1 a2 = some (r1, r2)) :
  Calls Try.prog 65 #[.pointer (some ⟨g, 0, none⟩), .int .i64 a1, .int .i64 a2] w fun e w' => ∃ v0_ : Value, e = .returned (v0_) ∧ Kd.R k41 41 w' w.heap.size (fun _ => True) v0_ r1 ∧ IsS68 w0 w' g s0_0 r2 ∧ Below w0.heap.size w0 w' ∧ KeepBut w w' g none := by
 have hu41 := Try.underlying41
 have HI0 := Aside0.mk hI
 have HK := Aside0.mk (KeepBut.refl w g none)
 have HL := Aside0.mk hB.size
 clear hI
 have HW0 := Aside0.mk hB.size
 have HB := Aside0.mk hB
 clear hB
 have H : ((spec_l20Rd_pick.f k s0_0 s0_1 4).bind fun bt203 => (spec_l20Term.l0 k (mn (mx a1 1) 4) a2 (([] : List (List (S41)))) (wrap64 (1 + bt203.1)) s0_0 bt203.2)) = some (r1, r2) := h
 clear h
 obtain ⟨ji4, hji4⟩ : ∃ j_ : Int, (mx a1 1) = j_ := ⟨_, rfl⟩
 replace H : ((spec_l20Rd_pick.f k s0_0 s0_1 4).bind fun bt203 => (spec_l20Term.l0 k (mn (ji4) 4) a2 (([] : List (List (S41)))) (wrap64 (1 + bt203.1)) s0_0 bt203.2)) = some (r1, r2) := by first | (rw [hji4] at H; exact H) | (simp only [hji4] at H ⊢; exact H)
 (try (have hji4l : 1 ≤ ji4 := by (rw [← hji4]; unfold mx; (repeat' split) <;> omega)))
 (try (have hji4m : 0 ≤ ji4 := by omega))
 have hji4_ : (if a1 < 1 then 1 else a1) = ji4 := hji4
 obtain ⟨ji5, hji5⟩ : ∃ j_ : Int, (mn (ji4) 4) = j_ := ⟨_, rfl⟩
 replace H : ((spec_l20Rd_pick.f k s0_0 s0_1 4).bind fun bt203 => (spec_l20Term.l0 k ji5 a2 (([] : List (List (S41)))) (wrap64 (1 + bt203.1)) s0_0 bt203.2)) = some (r1, r2) := by first | (rw [hji5] at H; exact H) | (simp only [hji5] at H ⊢; exact H)
 have hji5_ : (if 4 < (ji4) then 4 else (ji4)) = ji5 := hji5
 obtain ⟨y200, hy200⟩ : ∃ y_ : List (List (S41)), y_ = (([] : List (List (S41)))) := ⟨_, rfl⟩
 replace H : ((spec_l20Rd_pick.f k s0_0 s0_1 4).bind fun bt203 => (spec_l20Term.l0 k ji5 a2 y200 (wrap64 (1 + bt203.1)) s0_0 bt203.2)) = some (r1, r2) := by first | (rw [hy200]; with_reducible exact H) | (have H2_ := (Option.bind_some _ _).symm.trans H; rw [hy200]; with_reducible exact H2_) | (have H2_ := (Option.bind_some _ _).symm.trans H; with_reducible exact H2_) | with_reducible exact H | (rw [hy200]; exact H) | exact H
 have Ny200 := Aside0.mk hy200
 clear hy200
 replace H := Option.bind_eq_some_iff.mp H
 obtain ⟨⟨t203, t204⟩, A60, H⟩ := H
 replace H : (spec_l20Term.l0 k ji5 a2 y200 (wrap64 (1 + t203)) s0_0 t204) = some (r1, r2) := H
 have A6 := Aside0.mk A60
 clear A60
 have H' := Aside0.mk H
 clear H
 go_enter Try.func65, Try.ntmps65
 go_wp2_with (first | ((with_reducible refine gate_dst (N := 17) rfl ?_); refine Kd.R_lit (Kd.slice 41 k41) _ 23 ?hg (N := 17) ?hd (xs := ([] : List (List (S41)))) (inner := []) (ok := fun _ => True) (okp := fun _ => True) ?hr ?hp (fun _ hk => hk) trivial (Below.refl _ _) (Nat.le_refl _) (by simp) ?_; (case hd => rfl); (case hg => rfl); (case hr => first | (go_simp; done) | (go_simp; rfl)); (case hp => exact (Reps.none _ _)); intro v201 w7 ho8 hb hg_ hnew_; clear hg_ hnew_; (first | rw [← Ny200.out] at ho8 | (simp only [Int.reduceToNat] at ho8; rw [← Ny200.out] at ho8)); have n0_ := Aside0.mk (Kd.R_lower ho8 (keep_size (w := w) (g := g) (row := none) (by repeat (first | (with_reducible first | exact HK.out | apply KeepBut.set_ | apply keep_drewN | apply keep_drew | apply keep_alloc) | exact HK.out)))); have n1_ := Aside0.mk (IsS68.below (by repeat (first | (with_reducible first | exact HI0.out | apply IsS68.alloc | apply IsS68.drewN | apply IsS68.drew | apply IsS68.set_1) | exact HI0.out)) hb); have n2_ := Aside0.mk (KeepBut.trans (by repeat (first | (with_reducible first | exact HK.out | apply KeepBut.set_ | apply keep_drewN | apply keep_drew | apply keep_alloc) | exact HK.out)) (KeepBut.of_below hb g none) (.inl rfl)); have n3_ := Aside0.mk (below_step (by repeat (first | (with_reducible first | exact HB.out | apply below_alloc | apply pw_below_drewN | apply below_drew1 | refine below_set ?_ (IsS68.ge HI0.out)) | exact HB.out)) hb); clear HI0; clear HK; clear HB; have HO202 := n0_; have HI0 := n1_; have HK := n2_; have HB := n3_; clear n0_ n1_ n2_ n3_; clear hb ho8) | ((with_reducible refine gate_callee (f := 64) rfl ?_); refine goesL_ (some 19) rfl rfl Try.func64 (by kernel_rfl) rfl #[.pointer (some ⟨g, 0, none⟩), .int .i64 4] rfl (by (try simp only [List.map_toArray, List.map_cons, List.map_nil]); first | done | rfl | (simp only [List.length_drop, List.length_take]; rfl)) ?_; (with_reducible refine (spec_l20Rd_pick.calls k g s0_0 s0_1 4 t203 t204 w0 _ ?side1 ?side2 A6.out).mono ?_); (case side1 => repeat (first | (with_reducible first | exact HI0.out | apply IsS68.alloc | apply IsS68.drewN | apply IsS68.drew | apply IsS68.set_1) | exact HI0.out)); (case side2 => repeat (first | (with_reducible first | exact HB.out | apply below_alloc | apply pw_below_drewN | apply below_drew1 | refine below_set ?_ (IsS68.ge HI0.out)) | exact HB.out)); rintro e w9 ⟨rfl, hi, hb, hk⟩; refine ⟨_, rfl, ?_⟩; have n0_ := Aside0.mk (Kd.R_mono (Kd.R_keep (IsS68.apart (show IsS68 w0 _ g s0_0 s0_1 from by repeat (first | (with_reducible first | exact HI0.out | apply IsS68.alloc | apply IsS68.drewN | apply IsS68.drew | apply IsS68.set_1) | exact HI0.out)) (by (with_reducible repeat apply Kd.R_alloc); exact HO202.out) (by decide)) hk (fun _ h => h.2)) (fun _ h => h.1)); have n1_ := Aside0.mk (KeepBut.trans (by repeat (first | (with_reducible first | exact HK.out | apply KeepBut.set_ | apply keep_drewN | apply keep_drew | apply keep_alloc) | exact HK.out)) hk (.inl rfl)); have n2_ := Aside0.mk (hb); have n3_ := Aside0.mk (hi); clear HO202; clear HK; clear HB; clear HI0; have HO202 := n0_; have HK := n1_; have HB := n2_; have HI0 := n3_; clear n0_ n1_ n2_ n3_; (try clear hb); (try clear hb2); (try clear hk); (try clear hi)))
 go_loopg [7, 8] k (fun kq v7 v8 w' => ∃ (x7_1 : List (List (S41))) (x8_1 : Int) (x1001_1 : Int), v8 = .int .i64 x8_1 ∧ Aside0 (spec_l20Term.l0 kq ji5 a2 x7_1 x8_1 s0_0 x1001_1 = some (r1, r2)) ∧ Aside0 (kq ≤ k) ∧ Aside0 (Kd.R (Kd.slice 41 k41) 23 w' w.heap.size (fun _ => True) v7 x7_1) ∧ Aside0 (IsS68 w0 w' g s0_0 x1001_1) ∧ Aside0 (KeepBut w w' g none) ∧ Aside0 (Below w0.heap.size w0 w'))
 case atStart => exact ⟨(y200), (wrap64 (1 + t203)), (t204), (by first | rfl | (simp; done) | (simp [*]; done)), H', ⟨Nat.le_refl _⟩, ⟨by (with_reducible repeat apply Kd.R_alloc); exact HO202.out⟩, ⟨by repeat (first | (with_reducible first | exact HI0.out | apply IsS68.alloc | apply IsS68.drewN | apply IsS68.drew | apply IsS68.set_1) | exact HI0.out)⟩, ⟨by repeat (first | (with_reducible first | exact HK.out | apply KeepBut.set_ | apply keep_drewN | apply keep_drew | apply keep_alloc) | exact HK.out)⟩, ⟨by repeat (first | (with_reducible first | exact HB.out | apply below_alloc | apply pw_below_drewN | apply below_drew1 | refine below_set ?_ (IsS68.ge HI0.out)) | exact HB.out)⟩⟩
 case round =>
  clear H'
  try clear p2
  try clear c6
  try clear p6
  obtain ⟨x7_1, x8_1, x1001_1, rfl, HA, HK1, HO_7, HI0, HK, HB⟩ := hrel
  cases gk with
  | zero => exact absurd HA.out (by simp [spec_l20Term.l0])
  | succ k1 =>
   have H := HA.out
   clear HA
   simp only [spec_l20Term.l0] at H
   by_cases c10 : x8_1 > 0
   ·rw [if_pos c10] at H
    have c10b0 : decide (0 < x8_1) = true := decide_eq_true c10
    clear c10
    replace H := Option.bind_eq_some_iff.mp H
    obtain ⟨⟨t205, t206⟩, A110, H⟩ := H
    replace H : (if t205 = 0 then ((spec_l20Rd_pick.f k1 s0_0 t206 (wrap64 (ji5 + 2))).bind fun bt207 => (if x7_1.length < 5864062014805 then (spec_l20Term.l0 k1 ji5 a2 (x7_1 ++ [(([(⟨1, bt207.1⟩ : S41)] : List (S41)))]) (wrap64 (x8_1 - 1)) s0_0 bt207.2) else (none))) else ((spec_l20Rd_pick.f k1 s0_0 t206 ji5).bind fun bt215 => (if x7_1.length < 5864062014805 then (spec_l20Term.l0 k1 ji5 a2 (x7_1 ++ [(([(⟨0, bt215.1⟩ : S41)] : List (S41)))]) (wrap64 (x8_1 - 1)) s0_0 bt215.2) else (none)))) = some (r1, r2) := H
    have A11 := Aside0.mk A110
    clear A110
    by_cases c12 : t205 = 0
    ·rw [if_pos c12] at H
     have c12b0 : (t205 == 0) = true := beq_iff_eq.mpr c12
     have c12b1 : (t205 != 0) = false := bne_eq_false_iff_eq.mpr c12
     clear c12
     replace H := Option.bind_eq_some_iff.mp H
     obtain ⟨⟨t207, t208⟩, A130, H⟩ := H
     replace H : (if x7_1.length < 5864062014805 then (spec_l20Term.l0 k1 ji5 a2 (x7_1 ++ [(([(⟨1, t207⟩ : S41)] : List (S41)))]) (wrap64 (x8_1 - 1)) s0_0 t208) else (none)) = some (r1, r2) := H
     have A13 := Aside0.mk A130
     clear A130
     obtain ⟨y209, hy209⟩ : ∃ y_ : List (S41), y_ = (([(⟨1, t207⟩ : S41)] : List (S41))) := ⟨_, rfl⟩
     replace H : (if x7_1.length < 5864062014805 then (spec_l20Term.l0 k1 ji5 a2 (x7_1 ++ [y209]) (wrap64 (x8_1 - 1)) s0_0 t208) else (none)) = some (r1, r2) := by first | (rw [hy209]; with_reducible exact H) | (have H2_ := (Option.bind_some _ _).symm.trans H; rw [hy209]; with_reducible exact H2_) | (have H2_ := (Option.bind_some _ _).symm.trans H; with_reducible exact H2_) | with_reducible exact H | (rw [hy209]; exact H) | exact H
     have Ny209 := Aside0.mk hy209
     clear hy209
     by_cases c14 : x7_1.length < 5864062014805
     ·rw [if_pos c14] at H
      have LMc14 := Aside0.mk c14
      clear c14
      obtain ⟨y212, hy212⟩ : ∃ y_ : List (List (S41)), y_ = (x7_1 ++ [y209]) := ⟨_, rfl⟩
      replace H : (spec_l20Term.l0 k1 ji5 a2 y212 (wrap64 (x8_1 - 1)) s0_0 t208) = some (r1, r2) := by first | (rw [hy212]; with_reducible exact H) | (have H2_ := (Option.bind_some _ _).symm.trans H; rw [hy212]; with_reducible exact H2_) | (have H2_ := (Option.bind_some _ _).symm.trans H; with_reducible exact H2_) | with_reducible exact H | (rw [hy212]; exact H) | exact H
      have Ny212 := Aside0.mk hy212
      clear hy212
      have H' := Aside0.mk H
      clear H
      go_wp2_with (first | ((with_reducible refine gate_callee (f := 64) rfl ?_); refine goesL_ (some 26) rfl rfl Try.func64 (by kernel_rfl) rfl #[.pointer (some ⟨g, 0, none⟩), .int .i64 4] rfl (by (try simp only [List.map_toArray, List.map_cons, List.map_nil]); first | done | rfl | (simp only [List.length_drop, List.length_take]; rfl)) ?_; (with_reducible refine (spec_l20Rd_pick.calls k1 g s0_0 x1001_1 4 t205 t206 w0 _ ?side1 ?side2 A11.out).mono ?_); (case side1 => repeat (first | (with_reducible first | exact HI0.out | apply IsS68.alloc | apply IsS68.drewN | apply IsS68.drew | apply IsS68.set_1) | exact HI0.out)); (case side2 => repeat (first | (with_reducible first | exact HB.out | apply below_alloc | apply pw_below_drewN | apply below_drew1 | refine below_set ?_ (IsS68.ge HI0.out)) | exact HB.out)); rintro e w15 ⟨rfl, hi, hb, hk⟩; refine ⟨_, rfl, ?_⟩; have n0_ := Aside0.mk (Kd.R_mono (Kd.R_keep (IsS68.apart (show IsS68 w0 _ g s0_0 x1001_1 from by repeat (first | (with_reducible first | exact HI0.out | apply IsS68.alloc | apply IsS68.drewN | apply IsS68.drew | apply IsS68.set_1) | exact HI0.out)) (by (with_reducible repeat apply Kd.R_alloc); exact HO_7.out) (by decide)) hk (fun _ h => h.2)) (fun _ h => h.1)); have n1_ := Aside0.mk (KeepBut.trans (by repeat (first | (with_reducible first | exact HK.out | apply KeepBut.set_ | apply keep_drewN | apply keep_drew | apply keep_alloc) | exact HK.out)) hk (.inl rfl)); have n2_ := Aside0.mk (hb); have n3_ := Aside0.mk (hi); clear HO_7; clear HK; clear HB; clear HI0; have HO_7 := n0_; have HK := n1_; have HB := n2_; have HI0 := n3_; clear n0_ n1_ n2_ n3_; (try clear hb); (try clear hb2); (try clear hk); (try clear hi)) | ((with_reducible refine gate_callee (f := 64) rfl ?_); refine goesL_ (some 32) rfl rfl Try.func64 (by kernel_rfl) rfl #[.pointer (some ⟨g, 0, none⟩), .int .i64 (wrap64 (ji5 + 2))] rfl (by (try simp only [List.map_toArray, List.map_cons, List.map_nil]); first | done | (simp only [show wrap64 (ji5 + 2) = ji5 + 2 from (by have h4_ := hji5_; unfold wrap64; split at h4_ <;> omega)]; rfl) | (simp only [hji5]; rfl) | rfl | (simp only [List.length_drop, List.length_take]; rfl)) ?_; (with_reducible refine (spec_l20Rd_pick.calls k1 g s0_0 t206 (wrap64 (ji5 + 2)) t207 t208 w0 _ ?side1 ?side2 A13.out).mono ?_); (case side1 => repeat (first | (with_reducible first | exact HI0.out | apply IsS68.alloc | apply IsS68.drewN | apply IsS68.drew | apply IsS68.set_1) | exact HI0.out)); (case side2 => repeat (first | (with_reducible first | exact HB.out | apply below_alloc | apply pw_below_drewN | apply below_drew1 | refine below_set ?_ (IsS68.ge HI0.out)) | exact HB.out)); rintro e w16 ⟨rfl, hi, hb, hk⟩; refine ⟨_, rfl, ?_⟩; have n0_ := Aside0.mk (Kd.R_mono (Kd.R_keep (IsS68.apart (show IsS68 w0 _ g s0_0 t206 from by repeat (first | (with_reducible first | exact HI0.out | apply IsS68.alloc | apply IsS68.drewN | apply IsS68.drew | apply IsS68.set_1) | exact HI0.out)) (by (with_reducible repeat apply Kd.R_alloc); exact HO_7.out) (by decide)) hk (fun _ h => h.2)) (fun _ h => h.1)); have n1_ := Aside0.mk (KeepBut.trans (by repeat (first | (with_reducible first | exact HK.out | apply KeepBut.set_ | apply keep_drewN | apply keep_drew | apply keep_alloc) | exact HK.out)) hk (.inl rfl)); have n2_ := Aside0.mk (hb); have n3_ := Aside0.mk (hi); clear HO_7; clear HK; clear HB; clear HI0; have HO_7 := n0_; have HK := n1_; have HB := n2_; have HI0 := n3_; clear n0_ n1_ n2_ n3_; (try clear hb); (try clear hb2); (try clear hk); (try clear hi)) | ((with_reducible refine gate_dst (N := 34) rfl ?_); refine Kd.R_lit k41 _ 41 ?hg (N := 34) ?hd (xs := ([(⟨1, t207⟩ : S41)] : List (S41))) (inner := [.int .i64 1, .int .i64 t207]) (ok := fun _ => True) (okp := fun _ => True) ?hr ?hp (fun _ hk => hk) trivial (Below.refl _ _) (Nat.le_refl _) (by simp) ?_; (case hd => rfl); (case hg => rfl); (case hr => first | (go_simp; done) | (go_simp; rfl)); (case hp => exact (Reps.c2 (show Kd.M k41 _ _ _ (⟨1, t207⟩ : S41) [.int .i64 1, .int .i64 t207] from (k41_mkM _ _ _ (⟨1, t207⟩ : S41) )) (Reps.none _ _))); intro v210 w17 ho18 hb hg_ hnew_; clear hg_ hnew_; (first | rw [← Ny209.out] at ho18 | (simp only [Int.reduceToNat] at ho18; rw [← Ny209.out] at ho18)); have n0_ := Aside0.mk (Kd.R_elder' (by (with_reducible repeat apply Kd.R_alloc); exact HO_7.out) (Kd.R_base ho18) hb); have n1_ := Aside0.mk (Kd.R_lower ho18 (keep_size (w := w) (g := g) (row := none) (by repeat (first | (with_reducible first | exact HK.out | apply KeepBut.set_ | apply keep_drewN | apply keep_drew | apply keep_alloc) | exact HK.out)))); have n2_ := Aside0.mk (IsS68.below (by repeat (first | (with_reducible first | exact HI0.out | apply IsS68.alloc | apply IsS68.drewN | apply IsS68.drew | apply IsS68.set_1) | exact HI0.out)) hb); have n3_ := Aside0.mk (KeepBut.trans (by repeat (first | (with_reducible first | exact HK.out | apply KeepBut.set_ | apply keep_drewN | apply keep_drew | apply keep_alloc) | exact HK.out)) (KeepBut.of_below hb g none) (.inl rfl)); have n4_ := Aside0.mk (below_step (by repeat (first | (with_reducible first | exact HB.out | apply below_alloc | apply pw_below_drewN | apply below_drew1 | refine below_set ?_ (IsS68.ge HI0.out)) | exact HB.out)) hb); clear HO_7; clear HI0; clear HK; clear HB; have HO_7 := n0_; have HO211 := n1_; have HI0 := n2_; have HK := n3_; have HB := n4_; clear n0_ n1_ n2_ n3_ n4_; clear hb ho18; obtain ⟨Ao20, co20, eo20⟩ := Kd.R_slice HO211.out; subst eo20) | ((with_reducible refine gate_builtin (b := .append) (xs := #[.tmp 28, .tmp 35]) rfl ?_); at_builtin; refine Kd.R_append (Kd.slice 41 k41) w.heap.size rfl (.tmp 28) (.tmp 35) 72 23 (.slice none 0 0) 24 rfl Try.underlying72 info23 rfl (by decide) (by omega) u7 x7_1 y209 [.slice Ao20 y209.length co20] (fun _ => True) (fun k_ => ((fun _ => True)) k_ ∧ some k_ ≠ (u7 : Value).ownBlock) rfl rfl ?aP (fun _ hk => hk) ?aF ?aO (Below.refl _ _) ?aS ?aL ?_; (case aP => exact Kd.M_row (Kd.R_mono (Kd.R_apart' (HO211.out) (Kd.R_typed HO_7.out) (by decide)) (fun k_ hk => ⟨trivial, hk.2⟩))); (case aF => exact (fun _ _ => trivial)); (case aO => exact (by (with_reducible repeat apply Kd.R_alloc); exact Kd.R_mono HO_7.out (fun _ hk => trivial))); (case aS => exact (keep_size (w := w) (g := g) (row := none) (by repeat (first | (with_reducible first | exact HK.out | apply KeepBut.set_ | apply keep_drewN | apply keep_drew | apply keep_alloc) | exact HK.out)))); (case aL => have := LMc14.out; omega); intro v213 w19 ho hb hg hat; rw [← Ny212.out] at ho; have n0_ := Aside0.mk (IsS68.grown (by repeat (first | (with_reducible first | exact HI0.out | apply IsS68.alloc | apply IsS68.drewN | apply IsS68.drew | apply IsS68.set_1) | exact HI0.out)) hg (IsS68.own_ne HI0.out HO_7.out (by decide))); have n1_ := Aside0.mk (below_weaken (by repeat (first | (with_reducible first | exact HB.out | apply below_alloc | apply pw_below_drewN | apply below_drew1 | refine below_set ?_ (IsS68.ge HI0.out)) | exact HB.out)) HL.out hb); have n2_ := Aside0.mk (KeepBut.trans (by repeat (first | (with_reducible first | exact HK.out | apply KeepBut.set_ | apply keep_drewN | apply keep_drew | apply keep_alloc) | exact HK.out)) (KeepBut.of_grown hg g) (Kd.R_base2 HO_7.out)); have n3_ := Aside0.mk (ho); clear HI0; clear HB; clear HK; clear HO_7; clear HO211; have HI0 := n0_; have HB := n1_; have HK := n2_; have HO214 := n3_; clear n0_ n1_ n2_ n3_; clear ho hb hg hat))
      go_roundg k1
      case measure => have := HK1.out; omega
      case rel => exact ⟨(y212), (wrap64 (x8_1 - 1)), (t208), (by first | rfl | (simp; done) | (simp [*]; done)), H', ⟨by have := HK1.out; omega⟩, ⟨by (with_reducible repeat apply Kd.R_alloc); exact HO214.out⟩, ⟨by repeat (first | (with_reducible first | exact HI0.out | apply IsS68.alloc | apply IsS68.drewN | apply IsS68.drew | apply IsS68.set_1) | exact HI0.out)⟩, ⟨by repeat (first | (with_reducible first | exact HK.out | apply KeepBut.set_ | apply keep_drewN | apply keep_drew | apply keep_alloc) | exact HK.out)⟩, ⟨by repeat (first | (with_reducible first | exact HB.out | apply below_alloc | apply pw_below_drewN | apply below_drew1 | refine below_set ?_ (IsS68.ge HI0.out)) | exact HB.out)⟩⟩
     ·rw [if_neg c14] at H
      exact absurd H (by simp)
    ·rw [if_neg c12] at H
     have c12b0 : (t205 == 0) = false := beq_eq_false_iff_ne.mpr c12
     have c12b1 : (t205 != 0) = true := bne_iff_ne.mpr c12
     replace H := Option.bind_eq_some_iff.mp H
     obtain ⟨⟨t215, t216⟩, A210, H⟩ := H
     replace H : (if x7_1.length < 5864062014805 then (spec_l20Term.l0 k1 ji5 a2 (x7_1 ++ [(([(⟨0, t215⟩ : S41)] : List (S41)))]) (wrap64 (x8_1 - 1)) s0_0 t216) else (none)) = some (r1, r2) := H
     have A21 := Aside0.mk A210
     clear A210
     obtain ⟨y217, hy217⟩ : ∃ y_ : List (S41), y_ = (([(⟨0, t215⟩ : S41)] : List (S41))) := ⟨_, rfl⟩
     replace H : (if x7_1.length < 5864062014805 then (spec_l20Term.l0 k1 ji5 a2 (x7_1 ++ [y217]) (wrap64 (x8_1 - 1)) s0_0 t216) else (none)) = some (r1, r2) := by first | (rw [hy217]; with_reducible exact H) | (have H2_ := (Option.bind_some _ _).symm.trans H; rw [hy217]; with_reducible exact H2_) | (have H2_ := (Option.bind_some _ _).symm.trans H; with_reducible exact H2_) | with_reducible exact H | (rw [hy217]; exact H) | exact H
     have Ny217 := Aside0.mk hy217
     clear hy217
     by_cases c22 : x7_1.length < 5864062014805
     ·rw [if_pos c22] at H
      have LMc22 := Aside0.mk c22
      clear c22
      obtain ⟨y220, hy220⟩ : ∃ y_ : List (List (S41)), y_ = (x7_1 ++ [y217]) := ⟨_, rfl⟩
      replace H : (spec_l20Term.l0 k1 ji5 a2 y220 (wrap64 (x8_1 - 1)) s0_0 t216) = some (r1, r2) := by first | (rw [hy220]; with_reducible exact H) | (have H2_ := (Option.bind_some _ _).symm.trans H; rw [hy220]; with_reducible exact H2_) | (have H2_ := (Option.bind_some _ _).symm.trans H; with_reducible exact H2_) | with_reducible exact H | (rw [hy220]; exact H) | exact H
      have Ny220 := Aside0.mk hy220
      clear hy220
      have H' := Aside0.mk H
      clear H
      go_wp2_with (first | ((with_reducible refine gate_callee (f := 64) rfl ?_); refine goesL_ (some 26) rfl rfl Try.func64 (by kernel_rfl) rfl #[.pointer (some ⟨g, 0, none⟩), .int .i64 4] rfl (by (try simp only [List.map_toArray, List.map_cons, List.map_nil]); first | done | rfl | (simp only [List.length_drop, List.length_take]; rfl)) ?_; (with_reducible refine (spec_l20Rd_pick.calls k1 g s0_0 x1001_1 4 t205 t206 w0 _ ?side1 ?side2 A11.out).mono ?_); (case side1 => repeat (first | (with_reducible first | exact HI0.out | apply IsS68.alloc | apply IsS68.drewN | apply IsS68.drew | apply IsS68.set_1) | exact HI0.out)); (case side2 => repeat (first | (with_reducible first | exact HB.out | apply below_alloc | apply pw_below_drewN | apply below_drew1 | refine below_set ?_ (IsS68.ge HI0.out)) | exact HB.out)); rintro e w23 ⟨rfl, hi, hb, hk⟩; refine ⟨_, rfl, ?_⟩; have n0_ := Aside0.mk (Kd.R_mono (Kd.R_keep (IsS68.apart (show IsS68 w0 _ g s0_0 x1001_1 from by repeat (first | (with_reducible first | exact HI0.out | apply IsS68.alloc | apply IsS68.drewN | apply IsS68.drew | apply IsS68.set_1) | exact HI0.out)) (by (with_reducible repeat apply Kd.R_alloc); exact HO_7.out) (by decide)) hk (fun _ h => h.2)) (fun _ h => h.1)); have n1_ := Aside0.mk (KeepBut.trans (by repeat (first | (with_reducible first | exact HK.out | apply KeepBut.set_ | apply keep_drewN | apply keep_drew | apply keep_alloc) | exact HK.out)) hk (.inl rfl)); have n2_ := Aside0.mk (hb); have n3_ := Aside0.mk (hi); clear HO_7; clear HK; clear HB; clear HI0; have HO_7 := n0_; have HK := n1_; have HB := n2_; have HI0 := n3_; clear n0_ n1_ n2_ n3_; (try clear hb); (try clear hb2); (try clear hk); (try clear hi)) | ((with_reducible refine gate_callee (f := 64) rfl ?_); refine goesL_ (some 40) rfl rfl Try.func64 (by kernel_rfl) rfl #[.pointer (some ⟨g, 0, none⟩), .int .i64 ji5] rfl (by (try simp only [List.map_toArray, List.map_cons, List.map_nil]); first | done | (simp only [hji5]; rfl) | rfl | (simp only [List.length_drop, List.length_take]; rfl)) ?_; (with_reducible refine (spec_l20Rd_pick.calls k1 g s0_0 t206 ji5 t215 t216 w0 _ ?side1 ?side2 A21.out).mono ?_); (case side1 => repeat (first | (with_reducible first | exact HI0.out | apply IsS68.alloc | apply IsS68.drewN | apply IsS68.drew | apply IsS68.set_1) | exact HI0.out)); (case side2 => repeat (first | (with_reducible first | exact HB.out | apply below_alloc | apply pw_below_drewN | apply below_drew1 | refine below_set ?_ (IsS68.ge HI0.out)) | exact HB.out)); rintro e w24 ⟨rfl, hi, hb, hk⟩; refine ⟨_, rfl, ?_⟩; have n0_ := Aside0.mk (Kd.R_mono (Kd.R_keep (IsS68.apart (show IsS68 w0 _ g s0_0 t206 from by repeat (first | (with_reducible first | exact HI0.out | apply IsS68.alloc | apply IsS68.drewN | apply IsS68.drew | apply IsS68.set_1) | exact HI0.out)) (by (with_reducible repeat apply Kd.R_alloc); exact HO_7.out) (by decide)) hk (fun _ h => h.2)) (fun _ h => h.1)); have n1_ := Aside0.mk (KeepBut.trans (by repeat (first | (with_reducible first | exact HK.out | apply KeepBut.set_ | apply keep_drewN | apply keep_drew | apply keep_alloc) | exact HK.out)) hk (.inl rfl)); have n2_ := Aside0.mk (hb); have n3_ := Aside0.mk (hi); clear HO_7; clear HK; clear HB; clear HI0; have HO_7 := n0_; have HK := n1_; have HB := n2_; have HI0 := n3_; clear n0_ n1_ n2_ n3_; (try clear hb); (try clear hb2); (try clear hk); (try clear hi)) | ((with_reducible refine gate_dst (N := 42) rfl ?_); refine Kd.R_lit k41 _ 41 ?hg (N := 42) ?hd (xs := ([(⟨0, t215⟩ : S41)] : List (S41))) (inner := [.int .i64 0, .int .i64 t215]) (ok := fun _ => True) (okp := fun _ => True) ?hr ?hp (fun _ hk => hk) trivial (Below.refl _ _) (Nat.le_refl _) (by simp) ?_; (case hd => rfl); (case hg => rfl); (case hr => first | (go_simp; done) | (go_simp; rfl)); (case hp => exact (Reps.c2 (show Kd.M k41 _ _ _ (⟨0, t215⟩ : S41) [.int .i64 0, .int .i64 t215] from (k41_mkM _ _ _ (⟨0, t215⟩ : S41) )) (Reps.none _ _))); intro v218 w25 ho26 hb hg_ hnew_; clear hg_ hnew_; (first | rw [← Ny217.out] at ho26 | (simp only [Int.reduceToNat] at ho26; rw [← Ny217.out] at ho26)); have n0_ := Aside0.mk (Kd.R_elder' (by (with_reducible repeat apply Kd.R_alloc); exact HO_7.out) (Kd.R_base ho26) hb); have n1_ := Aside0.mk (Kd.R_lower ho26 (keep_size (w := w) (g := g) (row := none) (by repeat (first | (with_reducible first | exact HK.out | apply KeepBut.set_ | apply keep_drewN | apply keep_drew | apply keep_alloc) | exact HK.out)))); have n2_ := Aside0.mk (IsS68.below (by repeat (first | (with_reducible first | exact HI0.out | apply IsS68.alloc | apply IsS68.drewN | apply IsS68.drew | apply IsS68.set_1) | exact HI0.out)) hb); have n3_ := Aside0.mk (KeepBut.trans (by repeat (first | (with_reducible first | exact HK.out | apply KeepBut.set_ | apply keep_drewN | apply keep_drew | apply keep_alloc) | exact HK.out)) (KeepBut.of_below hb g none) (.inl rfl)); have n4_ := Aside0.mk (below_step (by repeat (first | (with_reducible first | exact HB.out | apply below_alloc | apply pw_below_drewN | apply below_drew1 | refine below_set ?_ (IsS68.ge HI0.out)) | exact HB.out)) hb); clear HO_7; clear HI0; clear HK; clear HB; have HO_7 := n0_; have HO219 := n1_; have HI0 := n2_; have HK := n3_; have HB := n4_; clear n0_ n1_ n2_ n3_ n4_; clear hb ho26; obtain ⟨Ao28, co28, eo28⟩ := Kd.R_slice HO219.out; subst eo28) | ((with_reducible refine gate_builtin (b := .append) (xs := #[.tmp 37, .tmp 43]) rfl ?_); at_builtin; refine Kd.R_append (Kd.slice 41 k41) w.heap.size rfl (.tmp 37) (.tmp 43) 72 23 (.slice none 0 0) 24 rfl Try.underlying72 info23 rfl (by decide) (by omega) u7 x7_1 y217 [.slice Ao28 y217.length co28] (fun _ => True) (fun k_ => ((fun _ => True)) k_ ∧ some k_ ≠ (u7 : Value).ownBlock) rfl rfl ?aP (fun _ hk => hk) ?aF ?aO (Below.refl _ _) ?aS ?aL ?_; (case aP => exact Kd.M_row (Kd.R_mono (Kd.R_apart' (HO219.out) (Kd.R_typed HO_7.out) (by decide)) (fun k_ hk => ⟨trivial, hk.2⟩))); (case aF => exact (fun _ _ => trivial)); (case aO => exact (by (with_reducible repeat apply Kd.R_alloc); exact Kd.R_mono HO_7.out (fun _ hk => trivial))); (case aS => exact (keep_size (w := w) (g := g) (row := none) (by repeat (first | (with_reducible first | exact HK.out | apply KeepBut.set_ | apply keep_drewN | apply keep_drew | apply keep_alloc) | exact HK.out)))); (case aL => have := LMc22.out; omega); intro v221 w27 ho hb hg hat; rw [← Ny220.out] at ho; have n0_ := Aside0.mk (IsS68.grown (by repeat (first | (with_reducible first | exact HI0.out | apply IsS68.alloc | apply IsS68.drewN | apply IsS68.drew | apply IsS68.set_1) | exact HI0.out)) hg (IsS68.own_ne HI0.out HO_7.out (by decide))); have n1_ := Aside0.mk (below_weaken (by repeat (first | (with_reducible first | exact HB.out | apply below_alloc | apply pw_below_drewN | apply below_drew1 | refine below_set ?_ (IsS68.ge HI0.out)) | exact HB.out)) HL.out hb); have n2_ := Aside0.mk (KeepBut.trans (by repeat (first | (with_reducible first | exact HK.out | apply KeepBut.set_ | apply keep_drewN | apply keep_drew | apply keep_alloc) | exact HK.out)) (KeepBut.of_grown hg g) (Kd.R_base2 HO_7.out)); have n3_ := Aside0.mk (ho); clear HI0; clear HB; clear HK; clear HO_7; clear HO219; have HI0 := n0_; have HB := n1_; have HK := n2_; have HO222 := n3_; clear n0_ n1_ n2_ n3_; clear ho hb hg hat))
      go_roundg k1
      case measure => have := HK1.out; omega
      case rel => exact ⟨(y220), (wrap64 (x8_1 - 1)), (t216), (by first | rfl | (simp; done) | (simp [*]; done)), H', ⟨by have := HK1.out; omega⟩, ⟨by (with_reducible repeat apply Kd.R_alloc); exact HO222.out⟩, ⟨by repeat (first | (with_reducible first | exact HI0.out | apply IsS68.alloc | apply IsS68.drewN | apply IsS68.drew | apply IsS68.set_1) | exact HI0.out)⟩, ⟨by repeat (first | (with_reducible first | exact HK.out | apply KeepBut.set_ | apply keep_drewN | apply keep_drew | apply keep_alloc) | exact HK.out)⟩, ⟨by repeat (first | (with_reducible first | exact HB.out | apply below_alloc | apply pw_below_drewN | apply below_drew1 | refine below_set ?_ (IsS68.ge HI0.out)) | exact HB.out)⟩⟩
     ·rw [if_neg c22] at H
      exact absurd H (by simp)
   ·rw [if_neg c10] at H
    have c10b0 : decide (0 < x8_1) = false := decide_eq_false c10
    clear c10
    have H' := Aside0.mk H
    clear H
    go_wp2
    go_loopg [7, 9] k1 (fun kq v7 v9 w' => ∃ (x7_2 : List (List (S41))) (x9_2 : Int) (x1001_2 : Int), v9 = .int .i64 x9_2 ∧ Aside0 (spec_l20Term.l1 kq a2 x7_2 x9_2 s0_0 x1001_2 = some (r1, r2)) ∧ Aside0 (kq ≤ k1) ∧ Aside0 (Kd.R (Kd.slice 41 k41) 23 w' w.heap.size (fun _ => True) v7 x7_2) ∧ Aside0 (IsS68 w0 w' g s0_0 x1001_2) ∧ Aside0 (KeepBut w w' g none) ∧ Aside0 (Below w0.heap.size w0 w'))
    case atStart => exact ⟨(x7_1), (3), (x1001_1), (by first | rfl | (simp; done) | (simp [*]; done)), H', ⟨Nat.le_refl _⟩, ⟨by (with_reducible repeat apply Kd.R_alloc); exact HO_7.out⟩, ⟨by repeat (first | (with_reducible first | exact HI0.out | apply IsS68.alloc | apply IsS68.drewN | apply IsS68.drew | apply IsS68.set_1) | exact HI0.out)⟩, ⟨by repeat (first | (with_reducible first | exact HK.out | apply KeepBut.set_ | apply keep_drewN | apply keep_drew | apply keep_alloc) | exact HK.out)⟩, ⟨by repeat (first | (with_reducible first | exact HB.out | apply below_alloc | apply pw_below_drewN | apply below_drew1 | refine below_set ?_ (IsS68.ge HI0.out)) | exact HB.out)⟩⟩
    case round =>
     clear H'
     try clear c1
     try clear c2
     try clear p2
     try clear c6
     try clear p6
     try clear c10
     try clear c10b0
     try clear c12
     try clear c12b0
     try clear c12b1
     try clear c14
     try clear c22
     try clear p2
     try clear p6
     obtain ⟨x7_2, x9_2, x1001_2, rfl, HA, HK2, HO_7, HI0, HK, HB⟩ := hrel
     cases gk with
     | zero => exact absurd HA.out (by simp [spec_l20Term.l1])
     | succ k2 =>
      have H := HA.out
      clear HA
      simp only [spec_l20Term.l1] at H
      by_cases c29 : (x7_2.length : Int) > 1
      ·rw [if_pos c29] at H
       have c29b0 : decide (1 < (x7_2.length : Int)) = true := decide_eq_true c29
       have c29b1 : decide (1 < x7_2.length) = true := decide_eq_true (by omega)
       clear c29
       replace H := Option.bind_eq_some_iff.mp H
       obtain ⟨⟨t223, t224⟩, A300, H⟩ := H
       replace H : (if x9_2 > 0 then ((spec_l20Rd_pick.f k2 s0_0 t224 4).bind fun bt225 => (if bt225.1 = 0 then ((some (([] : List (S41)) : List (S41))).bind fun y227 => (if 0 ≤ t223 then (if t223 < (x7_2.length : Int) then (if y227.length + (rd_L4 x7_2 t223).length < 8796093022208 then ((some (y227 ++ (rd_L4 x7_2 t223) : List (S41))).bind fun y231 => (if y231.length < 8796093022208 then (spec_l20Term.l1 k2 a2 (x7_2.set (t223 : Int).toNat (y231 ++ [(⟨2, 0⟩ : S41)])) (wrap64 (x9_2 - 1)) s0_0 bt225.2) else (none))) else (none)) else (none)) else (none))) else ((some (([] : List (S41)) : List (S41))).bind fun y238 => (if 0 ≤ t223 then (if t223 < (x7_2.length : Int) then (if y238.length + (rd_L4 x7_2 t223).length < 8796093022208 then ((some (y238 ++ (rd_L4 x7_2 t223) : List (S41))).bind fun y242 => (if 0 ≤ (wrap64 (t223 + 1)) then (if (wrap64 (t223 + 1)) < (x7_2.length : Int) then (if y242.length + (rd_L4 x7_2 (wrap64 (t223 + 1))).length < 8796093022208 then ((some (y242 ++ (rd_L4 x7_2 (wrap64 (t223 + 1))) : List (S41))).bind fun y246 => ((spec_l20Rd_pick.f k2 s0_0 bt225.2 3).bind fun bt249 => (if y246.length < 8796093022208 then ((some (([] : List (List (S41))) : List (List (S41)))).bind fun y254 => (if t223 ≤ (x7_2.length : Int) then ((some (x7_2.take (t223 : Int).toNat : List (List (S41)))).bind fun y257 => (if y254.length + y257.length < 5864062014805 then ((some (y254 ++ y257 : List (List (S41)))).bind fun y261 => (if y261.length < 5864062014805 then ((some (y261 ++ [(y246 ++ [(⟨wrap64 (3 + bt249.1), 0⟩ : S41)])] : List (List (S41)))).bind fun y264 => (if 0 ≤ (wrap64 (t223 + 2)) then (if (wrap64 (t223 + 2)) ≤ (x7_2.length : Int) then ((some (x7_2.drop ((wrap64 (t223 + 2)) : Int).toNat : List (List (S41)))).bind fun y267 => (if y264.length + y267.length < 5864062014805 then (spec_l20Term.l1 k2 a2 (y264 ++ y267) x9_2 s0_0 bt249.2) else (none))) else (none)) else (none))) else (none))) else (none))) else (none))) else (none)))) else (none)) else (none)) else (none))) else (none)) else (none)) else (none))))) else ((some (([] : List (S41)) : List (S41))).bind fun y274 => (if 0 ≤ t223 then (if t223 < (x7_2.length : Int) then (if y274.length + (rd_L4 x7_2 t223).length < 8796093022208 then ((some (y274 ++ (rd_L4 x7_2 t223) : List (S41))).bind fun y278 => (if 0 ≤ (wrap64 (t223 + 1)) then (if (wrap64 (t223 + 1)) < (x7_2.length : Int) then (if y278.length + (rd_L4 x7_2 (wrap64 (t223 + 1))).length < 8796093022208 then ((some (y278 ++ (rd_L4 x7_2 (wrap64 (t223 + 1))) : List (S41))).bind fun y282 => ((spec_l20Rd_pick.f k2 s0_0 t224 3).bind fun bt285 => (if y282.length < 8796093022208 then ((some (([] : List (List (S41))) : List (List (S41)))).bind fun y290 => (if t223 ≤ (x7_2.length : Int) then ((some (x7_2.take (t223 : Int).toNat : List (List (S41)))).bind fun y293 => (if y290.length + y293.length < 5864062014805 then ((some (y290 ++ y293 : List (List (S41)))).bind fun y297 => (if y297.length < 5864062014805 then ((some (y297 ++ [(y282 ++ [(⟨wrap64 (3 + bt285.1), 0⟩ : S41)])] : List (List (S41)))).bind fun y300 => (if 0 ≤ (wrap64 (t223 + 2)) then (if (wrap64 (t223 + 2)) ≤ (x7_2.length : Int) then ((some (x7_2.drop ((wrap64 (t223 + 2)) : Int).toNat : List (List (S41)))).bind fun y303 => (if y300.length + y303.length < 5864062014805 then (spec_l20Term.l1 k2 a2 (y300 ++ y303) x9_2 s0_0 bt285.2) else (none))) else (none)) else (none))) else (none))) else (none))) else (none))) else (none)))) else (none)) else (none)) else (none))) else (none)) else (none)) else (none)))) = some (r1, r2) := H
       have A30 := Aside0.mk A300
       clear A300
       by_cases c31 : x9_2 > 0
       ·rw [if_pos c31] at H
        have c31b0 : decide (0 < x9_2) = true := decide_eq_true c31
        clear c31
        replace H := Option.bind_eq_some_iff.mp H
        obtain ⟨⟨t225, t226⟩, A320, H⟩ := H
        replace H : (if t225 = 0 then ((some (([] : List (S41)) : List (S41))).bind fun y227 => (if 0 ≤ t223 then (if t223 < (x7_2.length : Int) then (if y227.length + (rd_L4 x7_2 t223).length < 8796093022208 then ((some (y227 ++ (rd_L4 x7_2 t223) : List (S41))).bind fun y231 => (if y231.length < 8796093022208 then (spec_l20Term.l1 k2 a2 (x7_2.set (t223 : Int).toNat (y231 ++ [(⟨2, 0⟩ : S41)])) (wrap64 (x9_2 - 1)) s0_0 t226) else (none))) else (none)) else (none)) else (none))) else ((some (([] : List (S41)) : List (S41))).bind fun y238 => (if 0 ≤ t223 then (if t223 < (x7_2.length : Int) then (if y238.length + (rd_L4 x7_2 t223).length < 8796093022208 then ((some (y238 ++ (rd_L4 x7_2 t223) : List (S41))).bind fun y242 => (if 0 ≤ (wrap64 (t223 + 1)) then (if (wrap64 (t223 + 1)) < (x7_2.length : Int) then (if y242.length + (rd_L4 x7_2 (wrap64 (t223 + 1))).length < 8796093022208 then ((some (y242 ++ (rd_L4 x7_2 (wrap64 (t223 + 1))) : List (S41))).bind fun y246 => ((spec_l20Rd_pick.f k2 s0_0 t226 3).bind fun bt249 => (if y246.length < 8796093022208 then ((some (([] : List (List (S41))) : List (List (S41)))).bind fun y254 => (if t223 ≤ (x7_2.length : Int) then ((some (x7_2.take (t223 : Int).toNat : List (List (S41)))).bind fun y257 => (if y254.length + y257.length < 5864062014805 then ((some (y254 ++ y257 : List (List (S41)))).bind fun y261 => (if y261.length < 5864062014805 then ((some (y261 ++ [(y246 ++ [(⟨wrap64 (3 + bt249.1), 0⟩ : S41)])] : List (List (S41)))).bind fun y264 => (if 0 ≤ (wrap64 (t223 + 2)) then (if (wrap64 (t223 + 2)) ≤ (x7_2.length : Int) then ((some (x7_2.drop ((wrap64 (t223 + 2)) : Int).toNat : List (List (S41)))).bind fun y267 => (if y264.length + y267.length < 5864062014805 then (spec_l20Term.l1 k2 a2 (y264 ++ y267) x9_2 s0_0 bt249.2) else (none))) else (none)) else (none))) else (none))) else (none))) else (none))) else (none)))) else (none)) else (none)) else (none))) else (none)) else (none)) else (none)))) = some (r1, r2) := H
        have A32 := Aside0.mk A320
        clear A320
        by_cases c33 : t225 = 0
        ·rw [if_pos c33] at H
         have c33b0 : (t225 == 0) = true := beq_iff_eq.mpr c33
         have c33b1 : (t225 != 0) = false := bne_eq_false_iff_eq.mpr c33
         clear c33
         obtain ⟨y227, hy227⟩ : ∃ y_ : List (S41), y_ = (([] : List (S41))) := ⟨_, rfl⟩
         replace H : (if 0 ≤ t223 then (if t223 < (x7_2.length : Int) then (if y227.length + (rd_L4 x7_2 t223).length < 8796093022208 then ((some (y227 ++ (rd_L4 x7_2 t223) : List (S41))).bind fun y231 => (if y231.length < 8796093022208 then (spec_l20Term.l1 k2 a2 (x7_2.set (t223 : Int).toNat (y231 ++ [(⟨2, 0⟩ : S41)])) (wrap64 (x9_2 - 1)) s0_0 t226) else (none))) else (none)) else (none)) else (none)) = some (r1, r2) := by first | (rw [hy227]; with_reducible exact H) | (have H2_ := (Option.bind_some _ _).symm.trans H; rw [hy227]; with_reducible exact H2_) | (have H2_ := (Option.bind_some _ _).symm.trans H; with_reducible exact H2_) | with_reducible exact H | (rw [hy227]; exact H) | exact H
         have Ny227 := Aside0.mk hy227
         clear hy227
         by_cases c34 : 0 ≤ t223
         ·rw [if_pos c34] at H
          have c34b0 : decide (0 ≤ t223) = true := decide_eq_true c34
          clear c34
          by_cases c35 : t223 < (x7_2.length : Int)
          ·rw [if_pos c35] at H
           have c35b0 : decide (t223 < (x7_2.length : Int)) = true := decide_eq_true c35
           clear c35
           by_cases c36 : y227.length + (rd_L4 x7_2 t223).length < 8796093022208
           ·rw [if_pos c36] at H
            have LMc36 := Aside0.mk c36
            clear c36
            obtain ⟨y231, hy231⟩ : ∃ y_ : List (S41), y_ = (y227 ++ (rd_L4 x7_2 t223)) := ⟨_, rfl⟩
            replace H : (if y231.length < 8796093022208 then (spec_l20Term.l1 k2 a2 (x7_2.set (t223 : Int).toNat (y231 ++ [(⟨2, 0⟩ : S41)])) (wrap64 (x9_2 - 1)) s0_0 t226) else (none)) = some (r1, r2) := by first | (rw [hy231]; with_reducible exact H) | (have H2_ := (Option.bind_some _ _).symm.trans H; rw [hy231]; with_reducible exact H2_) | (have H2_ := (Option.bind_some _ _).symm.trans H; with_reducible exact H2_) | with_reducible exact H | (rw [hy231]; exact H) | exact H
            have Ny231 := Aside0.mk hy231
            clear hy231
            by_cases c37 : y231.length < 8796093022208
            ·rw [if_pos c37] at H
             have LMc37 := Aside0.mk c37
             clear c37
             obtain ⟨y234, hy234⟩ : ∃ y_ : List (S41), y_ = (y231 ++ [(⟨2, 0⟩ : S41)]) := ⟨_, rfl⟩
             replace H : (spec_l20Term.l1 k2 a2 (x7_2.set (t223 : Int).toNat y234) (wrap64 (x9_2 - 1)) s0_0 t226) = some (r1, r2) := by first | (rw [hy234]; with_reducible exact H) | (have H2_ := (Option.bind_some _ _).symm.trans H; rw [hy234]; with_reducible exact H2_) | (have H2_ := (Option.bind_some _ _).symm.trans H; with_reducible exact H2_) | with_reducible exact H | (rw [hy234]; exact H) | exact H
             have Ny234 := Aside0.mk hy234
             clear hy234
             obtain ⟨y237, hy237⟩ : ∃ y_ : List (List (S41)), y_ = (x7_2.set (t223 : Int).toNat y234) := ⟨_, rfl⟩
             replace H : (spec_l20Term.l1 k2 a2 y237 (wrap64 (x9_2 - 1)) s0_0 t226) = some (r1, r2) := by first | (rw [hy237]; with_reducible exact H) | (have H2_ := (Option.bind_some _ _).symm.trans H; rw [hy237]; with_reducible exact H2_) | (have H2_ := (Option.bind_some _ _).symm.trans H; with_reducible exact H2_) | with_reducible exact H | (rw [hy237]; exact H) | exact H
             have Ny237 := Aside0.mk hy237
             clear hy237
             have H' := Aside0.mk H
             clear H
             obtain ⟨Ao39, co39, eo39⟩ := Kd.R_slice HO_7.out
             subst eo39
             go_wp2_with (first | ((with_reducible refine gate_callee (f := 64) rfl ?_); refine goesL_ (some 52) rfl rfl Try.func64 (by kernel_rfl) rfl #[.pointer (some ⟨g, 0, none⟩), .int .i64 (wrap64 ((x7_2.length : Int) - 1))] rfl (by (try simp only [List.map_toArray, List.map_cons, List.map_nil]); first | done | rfl | (simp only [List.length_drop, List.length_take]; rfl)) ?_; (with_reducible refine (spec_l20Rd_pick.calls k2 g s0_0 x1001_2 (wrap64 ((x7_2.length : Int) - 1)) t223 t224 w0 _ ?side1 ?side2 A30.out).mono ?_); (case side1 => repeat (first | (with_reducible first | exact HI0.out | apply IsS68.alloc | apply IsS68.drewN | apply IsS68.drew | apply IsS68.set_1) | exact HI0.out)); (case side2 => repeat (first | (with_reducible first | exact HB.out | apply below_alloc | apply pw_below_drewN | apply below_drew1 | refine below_set ?_ (IsS68.ge HI0.out)) | exact HB.out)); rintro e w40 ⟨rfl, hi, hb, hk⟩; refine ⟨_, rfl, ?_⟩; have n0_ := Aside0.mk (Kd.R_mono (Kd.R_keep (IsS68.apart (show IsS68 w0 _ g s0_0 x1001_2 from by repeat (first | (with_reducible first | exact HI0.out | apply IsS68.alloc | apply IsS68.drewN | apply IsS68.drew | apply IsS68.set_1) | exact HI0.out)) (by (with_reducible repeat apply Kd.R_alloc); exact HO_7.out) (by decide)) hk (fun _ h => h.2)) (fun _ h => h.1)); have n1_ := Aside0.mk (KeepBut.trans (by repeat (first | (with_reducible first | exact HK.out | apply KeepBut.set_ | apply keep_drewN | apply keep_drew | apply keep_alloc) | exact HK.out)) hk (.inl rfl)); have n2_ := Aside0.mk (hb); have n3_ := Aside0.mk (hi); clear HO_7; clear HK; clear HB; clear HI0; have HO_7 := n0_; have HK := n1_; have HB := n2_; have HI0 := n3_; clear n0_ n1_ n2_ n3_; (try clear hb); (try clear hb2); (try clear hk); (try clear hi)) | (go_at_call 64; (with_reducible refine (spec_l20Rd_pick.calls k2 g s0_0 t224 4 t225 t226 w0 _ ?side1 ?side2 A32.out).mono ?_); (case side1 => repeat (first | (with_reducible first | exact HI0.out | apply IsS68.alloc | apply IsS68.drewN | apply IsS68.drew | apply IsS68.set_1) | exact HI0.out)); (case side2 => repeat (first | (with_reducible first | exact HB.out | apply below_alloc | apply pw_below_drewN | apply below_drew1 | refine below_set ?_ (IsS68.ge HI0.out)) | exact HB.out)); rintro e w41 ⟨rfl, hi, hb, hk⟩; have n0_ := Aside0.mk (Kd.R_mono (Kd.R_keep (IsS68.apart (show IsS68 w0 _ g s0_0 t224 from by repeat (first | (with_reducible first | exact HI0.out | apply IsS68.alloc | apply IsS68.drewN | apply IsS68.drew | apply IsS68.set_1) | exact HI0.out)) (by (with_reducible repeat apply Kd.R_alloc); exact HO_7.out) (by decide)) hk (fun _ h => h.2)) (fun _ h => h.1)); have n1_ := Aside0.mk (KeepBut.trans (by repeat (first | (with_reducible first | exact HK.out | apply KeepBut.set_ | apply keep_drewN | apply keep_drew | apply keep_alloc) | exact HK.out)) hk (.inl rfl)); have n2_ := Aside0.mk (hb); have n3_ := Aside0.mk (hi); clear HO_7; clear HK; clear HB; clear HI0; have HO_7 := n0_; have HK := n1_; have HB := n2_; have HI0 := n3_; clear n0_ n1_ n2_ n3_; (try clear hb); (try clear hb2); (try clear hk); (try clear hi)) | ((with_reducible refine gate_dst (N := 64) rfl ?_); refine Kd.R_lit k41 _ 41 ?hg (N := 64) ?hd (xs := ([] : List (S41))) (inner := []) (ok := fun _ => True) (okp := fun _ => True) ?hr ?hp (fun _ hk => hk) trivial (Below.refl _ _) (Nat.le_refl _) (by simp) ?_; (case hd => rfl); (case hg => rfl); (case hr => first | (go_simp; done) | (go_simp; rfl)); (case hp => exact (Reps.none _ _)); intro v228 w42 ho43 hb hg_ hnew_; clear hg_ hnew_; (first | rw [← Ny227.out] at ho43 | (simp only [Int.reduceToNat] at ho43; rw [← Ny227.out] at ho43)); have n0_ := Aside0.mk (Kd.R_elder' (by (with_reducible repeat apply Kd.R_alloc); exact HO_7.out) (Kd.R_base ho43) hb); have n1_ := Aside0.mk (Kd.R_lower ho43 (keep_size (w := w) (g := g) (row := none) (by repeat (first | (with_reducible first | exact HK.out | apply KeepBut.set_ | apply keep_drewN | apply keep_drew | apply keep_alloc) | exact HK.out)))); have n2_ := Aside0.mk (IsS68.below (by repeat (first | (with_reducible first | exact HI0.out | apply IsS68.alloc | apply IsS68.drewN | apply IsS68.drew | apply IsS68.set_1) | exact HI0.out)) hb); have n3_ := Aside0.mk (KeepBut.trans (by repeat (first | (with_reducible first | exact HK.out | apply KeepBut.set_ | apply keep_drewN | apply keep_drew | apply keep_alloc) | exact HK.out)) (KeepBut.of_below hb g none) (.inl rfl)); have n4_ := Aside0.mk (below_step (by repeat (first | (with_reducible first | exact HB.out | apply below_alloc | apply pw_below_drewN | apply below_drew1 | refine below_set ?_ (IsS68.ge HI0.out)) | exact HB.out)) hb); clear HO_7; clear HI0; clear HK; clear HB; have HO_7 := n0_; have HO229 := n1_; have HI0 := n2_; have HK := n3_; have HB := n4_; clear n0_ n1_ n2_ n3_ n4_; clear hb ho43; have p230 : 0 ≤ (t223 : Int) := of_decide_eq_true (by first | (with_reducible assumption) | assumption); have q230 : t223 < (x7_2.length : Int) := of_decide_eq_true (by first | (with_reducible assumption) | assumption); obtain ⟨ad230, A230_0, c230_0, e230, hx230_0, hl230_0, hi230_0⟩ := at_L4 (Kd.R_reads' HO_7.out).2.2 t223 p230 q230; cases e230; obtain ⟨ce230, hce230, hMe230, hcc230⟩ := Kd.R_get HO_7.out [] t223 p230 (by first | exact q230 | exact of_decide_eq_true (by first | (with_reducible assumption) | assumption) | (have e_ := (Kd.R_reads' HO_7.out).1; omega)); obtain ⟨ve230_0, rfl, ge230_0⟩ := hMe230; have hv230_0 := hcc230 0 _ rfl; rw [Nat.add_zero, show ((Kd.slice 41 k41)).sz = 1 from rfl, Nat.mul_one] at hv230_0; replace hv230_0 := Option.some.inj (hv230_0.symm.trans hx230_0); rw [hv230_0] at ge230_0; have HL230_0 := Aside0.mk (show Kd.R k41 41 _ _ _ _ (rd_L4 x7_2 t223) from ge230_0); clear hv230_0 ge230_0; clear hcc230 hce230; have HR230_0 := Aside0.mk hi230_0; have HC230_0 := Aside0.mk hl230_0; clear hi230_0 hl230_0; replace p230 := eq_true p230; replace q230 := eq_true q230) | ((with_reducible refine gate_builtin (b := .append) (xs := #[.tmp 64, .tmp 68]) rfl ?_); at_builtin; refine Kd.R_append_rows k41 w.heap.size rfl (.tmp 64) (.tmp 68) 23 41 (.agg #[(.int .i64 0), (.int .i64 0)]) 16 rfl Try.underlying23 info41 rfl (by decide) (by omega) v228 y227 (rd_L4 x7_2 t223) _ _ _ (fun _ => True) (fun _ => False) rfl rfl ?aO ?aR (fun _ _ h => h) (fun _ h => h.elim) ?aF (Below.refl _ _) ?aS ?aL ?_; (case aR => repeat (first | exact (by repeat (first | (with_reducible exact HR230_0.out) | (with_reducible refine Kd.C_alloc ?_ _) | (with_reducible refine Kd.C_drewN ?_ _) | (with_reducible refine Kd.C_drew ?_) | exact HR230_0.out)) | (with_reducible refine Kd.C_alloc ?_ _) | (with_reducible refine Kd.C_drewN ?_ _) | (with_reducible refine Kd.C_drew ?_))); (case aF => exact (fun _ _ => trivial)); (case aO => exact (by (with_reducible repeat apply Kd.R_alloc); exact HO229.out)); (case aS => exact (keep_size (w := w) (g := g) (row := none) (by repeat (first | (with_reducible first | exact HK.out | apply KeepBut.set_ | apply keep_drewN | apply keep_drew | apply keep_alloc) | exact HK.out)))); (case aL => have := LMc36.out; omega); intro v232 w44 ho hb hg hat; rw [← Ny231.out] at ho; have n0_ := Aside0.mk (Kd.R_after (ok := (fun _ => True)) (by (with_reducible repeat apply Kd.R_alloc); exact HO_7.out) hg hat); have n1_ := Aside0.mk (IsS68.grown (by repeat (first | (with_reducible first | exact HI0.out | apply IsS68.alloc | apply IsS68.drewN | apply IsS68.drew | apply IsS68.set_1) | exact HI0.out)) hg (IsS68.own_ne HI0.out HO229.out (by decide))); have n2_ := Aside0.mk (Kd.R_after (ok := (fun k_ => some k_ ≠ (.slice (some ad230) x7_2.length co39 : Value).ownBlock)) (by (with_reducible repeat apply Kd.R_alloc); exact Kd.R_mono HL230_0.out (fun _ hk => ⟨hk.2, hk.1.2⟩)) hg hat); have n3_ := Aside0.mk (below_weaken (by repeat (first | (with_reducible first | exact HB.out | apply below_alloc | apply pw_below_drewN | apply below_drew1 | refine below_set ?_ (IsS68.ge HI0.out)) | exact HB.out)) HL.out hb); have n4_ := Aside0.mk (KeepBut.trans (by repeat (first | (with_reducible first | exact HK.out | apply KeepBut.set_ | apply keep_drewN | apply keep_drew | apply keep_alloc) | exact HK.out)) (KeepBut.of_grown hg g) (Kd.R_base2 HO229.out)); have n5_ := Aside0.mk (ho); clear HO_7; clear HI0; clear HL230_0; clear HB; clear HK; clear HO229; have HO_7 := n0_; have HI0 := n1_; have HL230_0 := n2_; have HB := n3_; have HK := n4_; have HO233 := n5_; clear n0_ n1_ n2_ n3_ n4_ n5_; clear ho hb hg hat) | ((with_reducible refine gate_builtin (b := .append) (xs := #[.tmp 69, .tmp 71]) rfl ?_); at_builtin; refine Kd.R_append k41 w.heap.size rfl (.tmp 69) (.tmp 71) 23 41 (.agg #[(.int .i64 0), (.int .i64 0)]) 16 rfl Try.underlying23 info41 rfl (by decide) (by omega) v232 y231 (⟨2, 0⟩ : S41) [.int .i64 2, .int .i64 0] (fun _ => True) (fun _ => False) rfl rfl ?aP (fun _ hk => hk.elim) ?aF ?aO (Below.refl _ _) ?aS ?aL ?_; (case aP => exact k41_mkM _ _ _ (⟨2, 0⟩ : S41)); (case aF => exact (fun _ _ => trivial)); (case aO => exact (by (with_reducible repeat apply Kd.R_alloc); exact HO233.out)); (case aS => exact (keep_size (w := w) (g := g) (row := none) (by repeat (first | (with_reducible first | exact HK.out | apply KeepBut.set_ | apply keep_drewN | apply keep_drew | apply keep_alloc) | exact HK.out)))); (case aL => have := LMc37.out; omega); intro v235 w45 ho hb hg hat; rw [← Ny234.out] at ho; have n0_ := Aside0.mk (Kd.R_after (ok := (fun _ => True)) (by (with_reducible repeat apply Kd.R_alloc); exact HO_7.out) hg hat); have n1_ := Aside0.mk (IsS68.grown (by repeat (first | (with_reducible first | exact HI0.out | apply IsS68.alloc | apply IsS68.drewN | apply IsS68.drew | apply IsS68.set_1) | exact HI0.out)) hg (IsS68.own_ne HI0.out HO233.out (by decide))); have n2_ := Aside0.mk (Kd.R_after (ok := (fun k_ => some k_ ≠ (.slice (some ad230) x7_2.length co39 : Value).ownBlock)) (by (with_reducible repeat apply Kd.R_alloc); exact HL230_0.out) hg hat); have n3_ := Aside0.mk (below_weaken (by repeat (first | (with_reducible first | exact HB.out | apply below_alloc | apply pw_below_drewN | apply below_drew1 | refine below_set ?_ (IsS68.ge HI0.out)) | exact HB.out)) HL.out hb); have n4_ := Aside0.mk (KeepBut.trans (by repeat (first | (with_reducible first | exact HK.out | apply KeepBut.set_ | apply keep_drewN | apply keep_drew | apply keep_alloc) | exact HK.out)) (KeepBut.of_grown hg g) (Kd.R_base2 HO233.out)); have n5_ := Aside0.mk (ho); clear HO_7; clear HI0; clear HL230_0; clear HB; clear HK; clear HO233; have HO_7 := n0_; have HI0 := n1_; have HL230_0 := n2_; have HB := n3_; have HK := n4_; have HO236 := n5_; clear n0_ n1_ n2_ n3_ n4_ n5_; clear ho hb hg hat; have p38 : 0 ≤ (t223 : Int) := of_decide_eq_true (by first | (with_reducible assumption) | assumption); have q38 : (t223 : Int) < ((x7_2.length : Int) : Int) := of_decide_eq_true (by first | (with_reducible assumption) | assumption); obtain ⟨go38, co38, eo38, gb38, gl38, cl38, HG38⟩ := Kd.R_form HO_7.out (by omega); (first | cases eo38 | (injection eo38 with ea_ en_ ec_; (first | subst ea_ | (injection ea_ with ea_; subst ea_)); subst ec_; clear en_)); have GB38 := Aside0.mk gb38; have GG38 := Aside0.mk HG38; clear gb38 gl38 HG38; (first | simp only [add_plain] at hx230_0 | skip); obtain ⟨ce38, hcl38, hM38, hcc38, hfr38⟩ := Kd.R_elem HO_7.out [] (t223 : Int) p38 q38; obtain ⟨ve38_0, rfl, ge38_0⟩ := hM38; have hx38_0 := hcc38 0 _ rfl; have hf38_0 := hfr38 0; (try simp only [show ((Kd.slice 41 k41)).sz = 1 from rfl, Nat.mul_one, Nat.add_zero] at hx38_0); (try simp only [show ((Kd.slice 41 k41)).sz = 1 from rfl, Nat.mul_one, Nat.add_zero] at hf38_0); clear hcl38 hcc38 hfr38; (try clear hM38); skip; replace p38 := eq_true p38; replace q38 := eq_true q38; have n_ := Aside0.mk (Kd.R_mono (ok' := (fun k_ => some k_ ≠ (v235 : Value).ownBlock)) HO_7.out (fun k_ hk => hk.2)); clear HO_7; have HO_7 := n_; clear n_; have HX46 := Aside0.mk (show Kd.R (Kd.slice 41 k41) 23 w45 w.heap.size (fun _ => True) (.slice (some ⟨go38, 0, none⟩) x7_2.length co39) x7_2 from (by (with_reducible repeat apply Kd.R_alloc); exact Kd.R_mono HO_7.out (fun _ hk => trivial))); obtain ⟨ce46, hcl46, hM46, hcc46, hfr46⟩ := Kd.R_elem HX46.out [] (t223 : Int) (of_decide_eq_true (by first | (with_reducible assumption) | assumption)) (by have h_ : (t223 : Int) < ((x7_2.length : Int) : Int) := of_decide_eq_true (by first | (with_reducible assumption) | assumption); first | exact h_ | (have e_ := (Kd.R_reads' HO_7.out).1; omega) | simpa using h_); obtain ⟨ve46_0, rfl, ge46_0⟩ := hM46; have HP46 := Kd.R_seg HX46.out (t223 : Int) (of_decide_eq_true (by first | (with_reducible assumption) | assumption)) (by have h_ : (t223 : Int) < ((x7_2.length : Int) : Int) := of_decide_eq_true (by first | (with_reducible assumption) | assumption); first | exact h_ | (have e_ := (Kd.R_reads' HO_7.out).1; omega) | simpa using h_) (seg := [v235]) (j := 0) hcl46 hcc46 (show 1 ≤ 1 from by decide) (x' := y234) (Kd.M_row (Kd.R_mono (Kd.R_apart' (HO236.out) (Kd.R_typed HO_7.out) (by decide)) (fun k_ hk => ⟨trivial, fun e_ => (hk.2) (by rw [e_]; rfl)⟩))) (fun _ hk => hk); have hx46_0 := hcc46 0 _ rfl; (try simp only [show ((Kd.slice 41 k41)).sz = 1 from rfl, Nat.mul_one, Nat.add_zero] at hx46_0); have hf46_0 := hfr46 0; (try simp only [show ((Kd.slice 41 k41)).sz = 1 from rfl, Nat.mul_one, Nat.add_zero] at hf46_0); clear hcl46 hcc46 hfr46; (try clear hM46); skip; (try simp only [show ((Kd.slice 41 k41)).sz = 1 from rfl, Nat.mul_one, Nat.add_zero] at HP46)) | ((with_reducible refine gate_store (t := 23) (p := 73) rfl ?_); refine store_event (t := 23) (p := 73) (v := ?vo_w47) (w1 := (w45.setCell ⟨go38, (t223 : Int).toNat, none⟩ (v235))) ?hg ?ho ?hn ?hr ?_; (case ho => rfl); (case hg => rfl); (case hn => rfl); (case hr => first | (go_simp; done) | (go_simp; rfl) | ((obtain ⟨A_, c_, e_⟩ := Kd.R_slice HO236.out; rw [e_]); first | (go_simp; done) | (go_simp; rfl))); intro w47 hw; have hg : w45.grownBy w47 (some go38) := (by rw [hw]; exact HP46.2); have hp_ : Kd.R (Kd.slice 41 k41) 23 w47 w.heap.size (fun _ => True) (.slice (some ⟨go38, 0, none⟩) x7_2.length co39) y237 := (by rw [hw, Ny237.out]; exact HP46.1); clear HP46; have n0_ := Aside0.mk (hp_); have n1_ := Aside0.mk (IsS68.grown (by repeat (first | (with_reducible first | exact HI0.out | apply IsS68.alloc | apply IsS68.drewN | apply IsS68.drew | apply IsS68.set_1) | exact HI0.out)) hg (IsS68.own_ne HI0.out HO_7.out (by decide))); have n2_ := Aside0.mk (Kd.R_after (v := (.slice (some ⟨go38, 0, none⟩) x7_2.length co39)) (v1 := (.slice (some ⟨go38, 0, none⟩) x7_2.length co39)) (ok := (fun k_ => some k_ ≠ (v235 : Value).ownBlock)) (by (with_reducible repeat apply Kd.R_alloc); exact Kd.R_mono HL230_0.out (fun _ hk => ⟨hk.2, hk.1⟩)) hg (.inl rfl)); have n3_ := Aside0.mk ((by rw [hw]; exact below_set (HB.out) (Nat.le_trans HL.out GB38.out) : Below w0.heap.size w0 w47)); have n4_ := Aside0.mk (KeepBut.trans (by repeat (first | (with_reducible first | exact HK.out | apply KeepBut.set_ | apply keep_drewN | apply keep_drew | apply keep_alloc) | exact HK.out)) (KeepBut.of_grown hg g) (Kd.R_base2 HO_7.out)); clear HO_7; clear HI0; clear HL230_0; clear HB; clear HK; clear HO236; have HO_7 := n0_; have HI0 := n1_; have HL230_0 := n2_; have HB := n3_; have HK := n4_; clear n0_ n1_ n2_ n3_ n4_; clear hg hw hp_))
             go_roundg k2
             case measure => have := HK1.out; have := HK2.out; omega
             case rel => exact ⟨(y237), (wrap64 (x9_2 - 1)), (t226), (by first | rfl | (simp; done) | (simp [*]; done)), H', ⟨by have := HK1.out; have := HK2.out; omega⟩, ⟨by (with_reducible repeat apply Kd.R_alloc); exact HO_7.out⟩, ⟨by repeat (first | (with_reducible first | exact HI0.out | apply IsS68.alloc | apply IsS68.drewN | apply IsS68.drew | apply IsS68.set_1) | exact HI0.out)⟩, ⟨by repeat (first | (with_reducible first | exact HK.out | apply KeepBut.set_ | apply keep_drewN | apply keep_drew | apply keep_alloc) | exact HK.out)⟩, ⟨by repeat (first | (with_reducible first | exact HB.out | apply below_alloc | apply pw_below_drewN | apply below_drew1 | refine below_set ?_ (IsS68.ge HI0.out)) | exact HB.out)⟩⟩
            ·rw [if_neg c37] at H
             exact absurd H (by simp)
           ·rw [if_neg c36] at H
            exact absurd H (by simp)
          ·rw [if_neg c35] at H
           exact absurd H (by simp)
         ·rw [if_neg c34] at H
          exact absurd H (by simp)
        ·rw [if_neg c33] at H
         have c33b0 : (t225 == 0) = false := beq_eq_false_iff_ne.mpr c33
         have c33b1 : (t225 != 0) = true := bne_iff_ne.mpr c33
         obtain ⟨y238, hy238⟩ : ∃ y_ : List (S41), y_ = (([] : List (S41))) := ⟨_, rfl⟩
         replace H : (if 0 ≤ t223 then (if t223 < (x7_2.length : Int) then (if y238.length + (rd_L4 x7_2 t223).length < 8796093022208 then ((some (y238 ++ (rd_L4 x7_2 t223) : List (S41))).bind fun y242 => (if 0 ≤ (wrap64 (t223 + 1)) then (if (wrap64 (t223 + 1)) < (x7_2.length : Int) then (if y242.length + (rd_L4 x7_2 (wrap64 (t223 + 1))).length < 8796093022208 then ((some (y242 ++ (rd_L4 x7_2 (wrap64 (t223 + 1))) : List (S41))).bind fun y246 => ((spec_l20Rd_pick.f k2 s0_0 t226 3).bind fun bt249 => (if y246.length < 8796093022208 then ((some (([] : List (List (S41))) : List (List (S41)))).bind fun y254 => (if t223 ≤ (x7_2.length : Int) then ((some (x7_2.take (t223 : Int).toNat : List (List (S41)))).bind fun y257 => (if y254.length + y257.length < 5864062014805 then ((some (y254 ++ y257 : List (List (S41)))).bind fun y261 => (if y261.length < 5864062014805 then ((some (y261 ++ [(y246 ++ [(⟨wrap64 (3 + bt249.1), 0⟩ : S41)])] : List (List (S41)))).bind fun y264 => (if 0 ≤ (wrap64 (t223 + 2)) then (if (wrap64 (t223 + 2)) ≤ (x7_2.length : Int) then ((some (x7_2.drop ((wrap64 (t223 + 2)) : Int).toNat : List (List (S41)))).bind fun y267 => (if y264.length + y267.length < 5864062014805 then (spec_l20Term.l1 k2 a2 (y264 ++ y267) x9_2 s0_0 bt249.2) else (none))) else (none)) else (none))) else (none))) else (none))) else (none))) else (none)))) else (none)) else (none)) else (none))) else (none)) else (none)) else (none)) = some (r1, r2) := by first | (rw [hy238]; with_reducible exact H) | (have H2_ := (Option.bind_some _ _).symm.trans H; rw [hy238]; with_reducible exact H2_) | (have H2_ := (Option.bind_some _ _).symm.trans H; with_reducible exact H2_) | with_reducible exact H | (rw [hy238]; exact H) | exact H
         have Ny238 := Aside0.mk hy238
         clear hy238
         by_cases c48 : 0 ≤ t223
         ·rw [if_pos c48] at H
          have c48b0 : decide (0 ≤ t223) = true := decide_eq_true c48
          clear c48
          by_cases c49 : t223 < (x7_2.length : Int)
          ·rw [if_pos c49] at H
           have c49b0 : decide (t223 < (x7_2.length : Int)) = true := decide_eq_true c49
           clear c49
           by_cases c50 : y238.length + (rd_L4 x7_2 t223).length < 8796093022208
           ·rw [if_pos c50] at H
            have LMc50 := Aside0.mk c50
            clear c50
            obtain ⟨y242, hy242⟩ : ∃ y_ : List (S41), y_ = (y238 ++ (rd_L4 x7_2 t223)) := ⟨_, rfl⟩
            replace H : (if 0 ≤ (wrap64 (t223 + 1)) then (if (wrap64 (t223 + 1)) < (x7_2.length : Int) then (if y242.length + (rd_L4 x7_2 (wrap64 (t223 + 1))).length < 8796093022208 then ((some (y242 ++ (rd_L4 x7_2 (wrap64 (t223 + 1))) : List (S41))).bind fun y246 => ((spec_l20Rd_pick.f k2 s0_0 t226 3).bind fun bt249 => (if y246.length < 8796093022208 then ((some (([] : List (List (S41))) : List (List (S41)))).bind fun y254 => (if t223 ≤ (x7_2.length : Int) then ((some (x7_2.take (t223 : Int).toNat : List (List (S41)))).bind fun y257 => (if y254.length + y257.length < 5864062014805 then ((some (y254 ++ y257 : List (List (S41)))).bind fun y261 => (if y261.length < 5864062014805 then ((some (y261 ++ [(y246 ++ [(⟨wrap64 (3 + bt249.1), 0⟩ : S41)])] : List (List (S41)))).bind fun y264 => (if 0 ≤ (wrap64 (t223 + 2)) then (if (wrap64 (t223 + 2)) ≤ (x7_2.length : Int) then ((some (x7_2.drop ((wrap64 (t223 + 2)) : Int).toNat : List (List (S41)))).bind fun y267 => (if y264.length + y267.length < 5864062014805 then (spec_l20Term.l1 k2 a2 (y264 ++ y267) x9_2 s0_0 bt249.2) else (none))) else (none)) else (none))) else (none))) else (none))) else (none))) else (none)))) else (none)) else (none)) else (none)) = some (r1, r2) := by first | (rw [hy242]; with_reducible exact H) | (have H2_ := (Option.bind_some _ _).symm.trans H; rw [hy242]; with_reducible exact H2_) | (have H2_ := (Option.bind_some _ _).symm.trans H; with_reducible exact H2_) | with_reducible exact H | (rw [hy242]; exact H) | exact H
            have Ny242 := Aside0.mk hy242
            clear hy242
            obtain ⟨ji51, hji51⟩ : ∃ j_ : Int, (wrap64 (t223 + 1)) = j_ := ⟨_, rfl⟩
            replace H : (if 0 ≤ (ji51) then (if (ji51) < (x7_2.length : Int) then (if y242.length + (rd_L4 x7_2 (ji51)).length < 8796093022208 then ((some (y242 ++ (rd_L4 x7_2 (ji51)) : List (S41))).bind fun y246 => ((spec_l20Rd_pick.f k2 s0_0 t226 3).bind fun bt249 => (if y246.length < 8796093022208 then ((some (([] : List (List (S41))) : List (List (S41)))).bind fun y254 => (if t223 ≤ (x7_2.length : Int) then ((some (x7_2.take (t223 : Int).toNat : List (List (S41)))).bind fun y257 => (if y254.length + y257.length < 5864062014805 then ((some (y254 ++ y257 : List (List (S41)))).bind fun y261 => (if y261.length < 5864062014805 then ((some (y261 ++ [(y246 ++ [(⟨wrap64 (3 + bt249.1), 0⟩ : S41)])] : List (List (S41)))).bind fun y264 => (if 0 ≤ (wrap64 (t223 + 2)) then (if (wrap64 (t223 + 2)) ≤ (x7_2.length : Int) then ((some (x7_2.drop ((wrap64 (t223 + 2)) : Int).toNat : List (List (S41)))).bind fun y267 => (if y264.length + y267.length < 5864062014805 then (spec_l20Term.l1 k2 a2 (y264 ++ y267) x9_2 s0_0 bt249.2) else (none))) else (none)) else (none))) else (none))) else (none))) else (none))) else (none)))) else (none)) else (none)) else (none)) = some (r1, r2) := by first | (rw [hji51] at H; exact H) | (simp only [hji51] at H ⊢; exact H)
            (try rw [hji51] at A30)
            (try rw [hji51] at A32)
            have hji51w : (IntKind.i64.wrap (t223 + 1)) = ji51 := (i64_w _).trans hji51
            by_cases c52 : 0 ≤ (ji51)
            ·rw [if_pos c52] at H
             have c52b0 : decide (0 ≤ (ji51)) = true := decide_eq_true c52
             clear c52
             by_cases c53 : (ji51) < (x7_2.length : Int)
             ·rw [if_pos c53] at H
              have c53b0 : decide ((ji51) < (x7_2.length : Int)) = true := decide_eq_true c53
              clear c53
              by_cases c54 : y242.length + (rd_L4 x7_2 (ji51)).length < 8796093022208
              ·rw [if_pos c54] at H
               have LMc54 := Aside0.mk c54
               clear c54
               obtain ⟨y246, hy246⟩ : ∃ y_ : List (S41), y_ = (y242 ++ (rd_L4 x7_2 (ji51))) := ⟨_, rfl⟩
               replace H : ((spec_l20Rd_pick.f k2 s0_0 t226 3).bind fun bt249 => (if y246.length < 8796093022208 then ((some (([] : List (List (S41))) : List (List (S41)))).bind fun y254 => (if t223 ≤ (x7_2.length : Int) then ((some (x7_2.take (t223 : Int).toNat : List (List (S41)))).bind fun y257 => (if y254.length + y257.length < 5864062014805 then ((some (y254 ++ y257 : List (List (S41)))).bind fun y261 => (if y261.length < 5864062014805 then ((some (y261 ++ [(y246 ++ [(⟨wrap64 (3 + bt249.1), 0⟩ : S41)])] : List (List (S41)))).bind fun y264 => (if 0 ≤ (wrap64 (t223 + 2)) then (if (wrap64 (t223 + 2)) ≤ (x7_2.length : Int) then ((some (x7_2.drop ((wrap64 (t223 + 2)) : Int).toNat : List (List (S41)))).bind fun y267 => (if y264.length + y267.length < 5864062014805 then (spec_l20Term.l1 k2 a2 (y264 ++ y267) x9_2 s0_0 bt249.2) else (none))) else (none)) else (none))) else (none))) else (none))) else (none))) else (none))) = some (r1, r2) := by first | (rw [hy246]; with_reducible exact H) | (have H2_ := (Option.bind_some _ _).symm.trans H; rw [hy246]; with_reducible exact H2_) | (have H2_ := (Option.bind_some _ _).symm.trans H; with_reducible exact H2_) | with_reducible exact H | (rw [hy246]; exact H) | exact H
               have Ny246 := Aside0.mk hy246
               clear hy246
               replace H := Option.bind_eq_some_iff.mp H
               obtain ⟨⟨t249, t250⟩, A550, H⟩ := H
               replace H : (if y246.length < 8796093022208 then ((some (([] : List (List (S41))) : List (List (S41)))).bind fun y254 => (if t223 ≤ (x7_2.length : Int) then ((some (x7_2.take (t223 : Int).toNat : List (List (S41)))).bind fun y257 => (if y254.length + y257.length < 5864062014805 then ((some (y254 ++ y257 : List (List (S41)))).bind fun y261 => (if y261.length < 5864062014805 then ((some (y261 ++ [(y246 ++ [(⟨wrap64 (3 + t249), 0⟩ : S41)])] : List (List (S41)))).bind fun y264 => (if 0 ≤ (wrap64 (t223 + 2)) then (if (wrap64 (t223 + 2)) ≤ (x7_2.length : Int) then ((some (x7_2.drop ((wrap64 (t223 + 2)) : Int).toNat : List (List (S41)))).bind fun y267 => (if y264.length + y267.length < 5864062014805 then (spec_l20Term.l1 k2 a2 (y264 ++ y267) x9_2 s0_0 t250) else (none))) else (none)) else (none))) else (none))) else (none))) else (none))) else (none)) = some (r1, r2) := H
               have A55 := Aside0.mk A550
               clear A550
               by_cases c56 : y246.length < 8796093022208
               ·rw [if_pos c56] at H
                have LMc56 := Aside0.mk c56
                clear c56
                obtain ⟨y251, hy251⟩ : ∃ y_ : List (S41), y_ = (y246 ++ [(⟨wrap64 (3 + t249), 0⟩ : S41)]) := ⟨_, rfl⟩
                replace H : ((some (([] : List (List (S41))) : List (List (S41)))).bind fun y254 => (if t223 ≤ (x7_2.length : Int) then ((some (x7_2.take (t223 : Int).toNat : List (List (S41)))).bind fun y257 => (if y254.length + y257.length < 5864062014805 then ((some (y254 ++ y257 : List (List (S41)))).bind fun y261 => (if y261.length < 5864062014805 then ((some (y261 ++ [y251] : List (List (S41)))).bind fun y264 => (if 0 ≤ (wrap64 (t223 + 2)) then (if (wrap64 (t223 + 2)) ≤ (x7_2.length : Int) then ((some (x7_2.drop ((wrap64 (t223 + 2)) : Int).toNat : List (List (S41)))).bind fun y267 => (if y264.length + y267.length < 5864062014805 then (spec_l20Term.l1 k2 a2 (y264 ++ y267) x9_2 s0_0 t250) else (none))) else (none)) else (none))) else (none))) else (none))) else (none))) = some (r1, r2) := by first | (rw [hy251]; with_reducible exact H) | (have H2_ := (Option.bind_some _ _).symm.trans H; rw [hy251]; with_reducible exact H2_) | (have H2_ := (Option.bind_some _ _).symm.trans H; with_reducible exact H2_) | with_reducible exact H | (rw [hy251]; exact H) | exact H
                have Ny251 := Aside0.mk hy251
                clear hy251
                obtain ⟨y254, hy254⟩ : ∃ y_ : List (List (S41)), y_ = (([] : List (List (S41)))) := ⟨_, rfl⟩
                replace H : (if t223 ≤ (x7_2.length : Int) then ((some (x7_2.take (t223 : Int).toNat : List (List (S41)))).bind fun y257 => (if y254.length + y257.length < 5864062014805 then ((some (y254 ++ y257 : List (List (S41)))).bind fun y261 => (if y261.length < 5864062014805 then ((some (y261 ++ [y251] : List (List (S41)))).bind fun y264 => (if 0 ≤ (wrap64 (t223 + 2)) then (if (wrap64 (t223 + 2)) ≤ (x7_2.length : Int) then ((some (x7_2.drop ((wrap64 (t223 + 2)) : Int).toNat : List (List (S41)))).bind fun y267 => (if y264.length + y267.length < 5864062014805 then (spec_l20Term.l1 k2 a2 (y264 ++ y267) x9_2 s0_0 t250) else (none))) else (none)) else (none))) else (none))) else (none))) else (none)) = some (r1, r2) := by first | (rw [hy254]; with_reducible exact H) | (have H2_ := (Option.bind_some _ _).symm.trans H; rw [hy254]; with_reducible exact H2_) | (have H2_ := (Option.bind_some _ _).symm.trans H; with_reducible exact H2_) | with_reducible exact H | (rw [hy254]; exact H) | exact H
                have Ny254 := Aside0.mk hy254
                clear hy254
                have c57b0 := eq_true (of_decide_eq_true (by first | (with_reducible assumption) | assumption) : 0 ≤ t223)
                by_cases c58 : t223 ≤ (x7_2.length : Int)
                ·rw [if_pos c58] at H
                 have c58b0 := eq_true c58
                 have c58b1 : decide (t223 ≤ (x7_2.length : Int)) = true := decide_eq_true c58
                 clear c58
                 obtain ⟨y257, hy257⟩ : ∃ y_ : List (List (S41)), y_ = (x7_2.take (t223 : Int).toNat) := ⟨_, rfl⟩
                 replace H : (if y254.length + y257.length < 5864062014805 then ((some (y254 ++ y257 : List (List (S41)))).bind fun y261 => (if y261.length < 5864062014805 then ((some (y261 ++ [y251] : List (List (S41)))).bind fun y264 => (if 0 ≤ (wrap64 (t223 + 2)) then (if (wrap64 (t223 + 2)) ≤ (x7_2.length : Int) then ((some (x7_2.drop ((wrap64 (t223 + 2)) : Int).toNat : List (List (S41)))).bind fun y267 => (if y264.length + y267.length < 5864062014805 then (spec_l20Term.l1 k2 a2 (y264 ++ y267) x9_2 s0_0 t250) else (none))) else (none)) else (none))) else (none))) else (none)) = some (r1, r2) := by first | (rw [hy257]; with_reducible exact H) | (have H2_ := (Option.bind_some _ _).symm.trans H; rw [hy257]; with_reducible exact H2_) | (have H2_ := (Option.bind_some _ _).symm.trans H; with_reducible exact H2_) | with_reducible exact H | (rw [hy257]; exact H) | exact H
                 have Ny257 := Aside0.mk hy257
                 clear hy257
                 by_cases c59 : y254.length + y257.length < 5864062014805
                 ·rw [if_pos c59] at H
                  have LMc59 := Aside0.mk c59
                  clear c59
                  obtain ⟨y261, hy261⟩ : ∃ y_ : List (List (S41)), y_ = (y254 ++ y257) := ⟨_, rfl⟩
                  replace H : (if y261.length < 5864062014805 then ((some (y261 ++ [y251] : List (List (S41)))).bind fun y264 => (if 0 ≤ (wrap64 (t223 + 2)) then (if (wrap64 (t223 + 2)) ≤ (x7_2.length : Int) then ((some (x7_2.drop ((wrap64 (t223 + 2)) : Int).toNat : List (List (S41)))).bind fun y267 => (if y264.length + y267.length < 5864062014805 then (spec_l20Term.l1 k2 a2 (y264 ++ y267) x9_2 s0_0 t250) else (none))) else (none)) else (none))) else (none)) = some (r1, r2) := by first | (rw [hy261]; with_reducible exact H) | (have H2_ := (Option.bind_some _ _).symm.trans H; rw [hy261]; with_reducible exact H2_) | (have H2_ := (Option.bind_some _ _).symm.trans H; with_reducible exact H2_) | with_reducible exact H | (rw [hy261]; exact H) | exact H
                  have Ny261 := Aside0.mk hy261
                  clear hy261
                  by_cases c60 : y261.length < 5864062014805
                  ·rw [if_pos c60] at H
                   have LMc60 := Aside0.mk c60
                   clear c60
                   obtain ⟨y264, hy264⟩ : ∃ y_ : List (List (S41)), y_ = (y261 ++ [y251]) := ⟨_, rfl⟩
                   replace H : (if 0 ≤ (wrap64 (t223 + 2)) then (if (wrap64 (t223 + 2)) ≤ (x7_2.length : Int) then ((some (x7_2.drop ((wrap64 (t223 + 2)) : Int).toNat : List (List (S41)))).bind fun y267 => (if y264.length + y267.length < 5864062014805 then (spec_l20Term.l1 k2 a2 (y264 ++ y267) x9_2 s0_0 t250) else (none))) else (none)) else (none)) = some (r1, r2) := by first | (rw [hy264]; with_reducible exact H) | (have H2_ := (Option.bind_some _ _).symm.trans H; rw [hy264]; with_reducible exact H2_) | (have H2_ := (Option.bind_some _ _).symm.trans H; with_reducible exact H2_) | with_reducible exact H | (rw [hy264]; exact H) | exact H
                   have Ny264 := Aside0.mk hy264
                   clear hy264
                   by_cases c61 : 0 ≤ (wrap64 (t223 + 2))
                   ·rw [if_pos c61] at H
                    have c61b0 := eq_true c61
                    have c61b1 : decide (0 ≤ (wrap64 (t223 + 2))) = true := decide_eq_true c61
                    by_cases c62 : (wrap64 (t223 + 2)) ≤ (x7_2.length : Int)
                    ·rw [if_pos c62] at H
                     have c62b0 := eq_true c62
                     have c62b1 : decide ((wrap64 (t223 + 2)) ≤ (x7_2.length : Int)) = true := decide_eq_true c62
                     obtain ⟨y267, hy267⟩ : ∃ y_ : List (List (S41)), y_ = (x7_2.drop ((wrap64 (t223 + 2)) : Int).toNat) := ⟨_, rfl⟩
                     replace H : (if y264.length + y267.length < 5864062014805 then (spec_l20Term.l1 k2 a2 (y264 ++ y267) x9_2 s0_0 t250) else (none)) = some (r1, r2) := by first | (rw [hy267]; with_reducible exact H) | (have H2_ := (Option.bind_some _ _).symm.trans H; rw [hy267]; with_reducible exact H2_) | (have H2_ := (Option.bind_some _ _).symm.trans H; with_reducible exact H2_) | with_reducible exact H | (rw [hy267]; exact H) | exact H
                     have Ny267 := Aside0.mk hy267
                     clear hy267
                     by_cases c63 : y264.length + y267.length < 5864062014805
                     ·rw [if_pos c63] at H
                      have LMc63 := Aside0.mk c63
                      clear c63
                      obtain ⟨y271, hy271⟩ : ∃ y_ : List (List (S41)), y_ = (y264 ++ y267) := ⟨_, rfl⟩
                      replace H : (spec_l20Term.l1 k2 a2 y271 x9_2 s0_0 t250) = some (r1, r2) := by first | (rw [hy271]; with_reducible exact H) | (have H2_ := (Option.bind_some _ _).symm.trans H; rw [hy271]; with_reducible exact H2_) | (have H2_ := (Option.bind_some _ _).symm.trans H; with_reducible exact H2_) | with_reducible exact H | (rw [hy271]; exact H) | exact H
                      have Ny271 := Aside0.mk hy271
                      clear hy271
                      have H' := Aside0.mk H
                      clear H
                      obtain ⟨Ao64, co64, eo64⟩ := Kd.R_slice HO_7.out
                      subst eo64
                      try go_wp2_with (first | ((with_reducible refine gate_callee (f := 64) rfl ?_); refine goesL_ (some 52) rfl rfl Try.func64 (by kernel_rfl) rfl #[.pointer (some ⟨g, 0, none⟩), .int .i64 (wrap64 ((x7_2.length : Int) - 1))] rfl (by (try simp only [List.map_toArray, List.map_cons, List.map_nil]); first | done | rfl | (simp only [List.length_drop, List.length_take]; rfl)) ?_; (with_reducible refine (spec_l20Rd_pick.calls k2 g s0_0 x1001_2 (wrap64 ((x7_2.length : Int) - 1)) t223 t224 w0 _ ?side1 ?side2 A30.out).mono ?_); (case side1 => repeat (first | (with_reducible first | exact HI0.out | apply IsS68.alloc | apply IsS68.drewN | apply IsS68.drew | apply IsS68.set_1) | exact HI0.out)); (case side2 => repeat (first | (with_reducible first | exact HB.out | apply below_alloc | apply pw_below_drewN | apply below_drew1 | refine below_set ?_ (IsS68.ge HI0.out)) | exact HB.out)); rintro e w65 ⟨rfl, hi, hb, hk⟩; refine ⟨_, rfl, ?_⟩; have n0_ := Aside0.mk (Kd.R_mono (Kd.R_keep (IsS68.apart (show IsS68 w0 _ g s0_0 x1001_2 from by repeat (first | (with_reducible first | exact HI0.out | apply IsS68.alloc | apply IsS68.drewN | apply IsS68.drew | apply IsS68.set_1) | exact HI0.out)) (by (with_reducible repeat apply Kd.R_alloc); exact HO_7.out) (by decide)) hk (fun _ h => h.2)) (fun _ h => h.1)); have n1_ := Aside0.mk (KeepBut.trans (by repeat (first | (with_reducible first | exact HK.out | apply KeepBut.set_ | apply keep_drewN | apply keep_drew | apply keep_alloc) | exact HK.out)) hk (.inl rfl)); have n2_ := Aside0.mk (hb); have n3_ := Aside0.mk (hi); clear HO_7; clear HK; clear HB; clear HI0; have HO_7 := n0_; have HK := n1_; have HB := n2_; have HI0 := n3_; clear n0_ n1_ n2_ n3_; (try clear hb); (try clear hb2); (try clear hk); (try clear hi)) | (go_at_call 64; (with_reducible refine (spec_l20Rd_pick.calls k2 g s0_0 t224 4 t225 t226 w0 _ ?side1 ?side2 A32.out).mono ?_); (case side1 => repeat (first | (with_reducible first | exact HI0.out | apply IsS68.alloc | apply IsS68.drewN | apply IsS68.drew | apply IsS68.set_1) | exact HI0.out)); (case side2 => repeat (first | (with_reducible first | exact HB.out | apply below_alloc | apply pw_below_drewN | apply below_drew1 | refine below_set ?_ (IsS68.ge HI0.out)) | exact HB.out)); rintro e w66 ⟨rfl, hi, hb, hk⟩; have n0_ := Aside0.mk (Kd.R_mono (Kd.R_keep (IsS68.apart (show IsS68 w0 _ g s0_0 t224 from by repeat (first | (with_reducible first | exact HI0.out | apply IsS68.alloc | apply IsS68.drewN | apply IsS68.drew | apply IsS68.set_1) | exact HI0.out)) (by (with_reducible repeat apply Kd.R_alloc); exact HO_7.out) (by decide)) hk (fun _ h => h.2)) (fun _ h => h.1)); have n1_ := Aside0.mk (KeepBut.trans (by repeat (first | (with_reducible first | exact HK.out | apply KeepBut.set_ | apply keep_drewN | apply keep_drew | apply keep_alloc) | exact HK.out)) hk (.inl rfl)); have n2_ := Aside0.mk (hb); have n3_ := Aside0.mk (hi); clear HO_7; clear HK; clear HB; clear HI0; have HO_7 := n0_; have HK := n1_; have HB := n2_; have HI0 := n3_; clear n0_ n1_ n2_ n3_; (try clear hb); (try clear hb2); (try clear hk); (try clear hi)))
                      have n0_ := Aside0.mk (Kd.R_drew HO_7.out)
                      have n1_ := Aside0.mk (IsS68.drew HI0.out)
                      have n2_ := Aside0.mk (keep_drew HK.out)
                      have n3_ := Aside0.mk (below_drew1 HB.out)
                      clear HO_7
                      clear HI0
                      clear HK
                      clear HB
                      have HO_7 := n0_
                      have HI0 := n1_
                      have HK := n2_
                      have HB := n3_
                      clear n0_ n1_ n2_ n3_
                      have p241 : 0 ≤ (t223 : Int) := of_decide_eq_true (by first | (with_reducible assumption) | assumption)
                      have q241 : t223 < (x7_2.length : Int) := of_decide_eq_true (by first | (with_reducible assumption) | assumption)
                      obtain ⟨ad241, A241_0, c241_0, e241, hx241_0, hl241_0, hi241_0⟩ := at_L4 (Kd.R_reads' HO_7.out).2.2 t223 p241 q241
                      cases e241
                      obtain ⟨ce241, hce241, hMe241, hcc241⟩ := Kd.R_get HO_7.out [] t223 p241 (by first | exact q241 | exact of_decide_eq_true (by first | (with_reducible assumption) | assumption) | (have e_ := (Kd.R_reads' HO_7.out).1; omega))
                      obtain ⟨ve241_0, rfl, ge241_0⟩ := hMe241
                      have hv241_0 := hcc241 0 _ rfl
                      rw [Nat.add_zero, show ((Kd.slice 41 k41)).sz = 1 from rfl, Nat.mul_one] at hv241_0
                      replace hv241_0 := Option.some.inj (hv241_0.symm.trans hx241_0)
                      rw [hv241_0] at ge241_0
                      have HL241_0 := Aside0.mk (show Kd.R k41 41 _ _ _ _ (rd_L4 x7_2 t223) from ge241_0)
                      clear hv241_0 ge241_0
                      clear hcc241 hce241
                      have HR241_0 := Aside0.mk hi241_0
                      have HC241_0 := Aside0.mk hl241_0
                      clear hi241_0 hl241_0
                      replace p241 := eq_true p241
                      replace q241 := eq_true q241
                      have p245 : 0 ≤ ((ji51) : Int) := of_decide_eq_true (by first | (with_reducible assumption) | assumption)
                      have q245 : (ji51) < (x7_2.length : Int) := of_decide_eq_true (by first | (with_reducible assumption) | assumption)
                      obtain ⟨ad245, A245_0, c245_0, e245, hx245_0, hl245_0, hi245_0⟩ := at_L4 (Kd.R_reads' HO_7.out).2.2 (ji51) p245 q245
                      obtain rfl : ad241 = ad245 := (by injection e245)
                      obtain ⟨ce245, hce245, hMe245, hcc245⟩ := Kd.R_get HO_7.out [] (ji51) p245 (by first | exact q245 | exact of_decide_eq_true (by first | (with_reducible assumption) | assumption) | (have e_ := (Kd.R_reads' HO_7.out).1; omega))
                      obtain ⟨ve245_0, rfl, ge245_0⟩ := hMe245
                      have hv245_0 := hcc245 0 _ rfl
                      rw [Nat.add_zero, show ((Kd.slice 41 k41)).sz = 1 from rfl, Nat.mul_one] at hv245_0
                      replace hv245_0 := Option.some.inj (hv245_0.symm.trans hx245_0)
                      rw [hv245_0] at ge245_0
                      have HL245_0 := Aside0.mk (show Kd.R k41 41 _ _ _ _ (rd_L4 x7_2 (ji51)) from ge245_0)
                      clear hv245_0 ge245_0
                      clear hcc245 hce245
                      have HR245_0 := Aside0.mk hi245_0
                      have HC245_0 := Aside0.mk hl245_0
                      clear hi245_0 hl245_0
                      replace p245 := eq_true p245
                      replace q245 := eq_true q245
                      refine start_ (n := 19) (S := fun w' => w'.cell? (ad241.add (t223).toNat) = some (.slice A241_0 (rd_L4 x7_2 t223).length c241_0) ∧ w'.cell? (ad241.add ((ji51)).toNat) = some (.slice A245_0 (rd_L4 x7_2 (ji51)).length c245_0)) (ds := [16]) #[false, false, false, false, false, false, false, false, false, false, false, false, false, false, false, false, false, false, false] (by kernel_rfl) rfl rfl ⟨hx241_0, hx245_0⟩ (fun hHeld => ?_); refine with_tabW spec_l20Term.tab15 spec_l20Term.bits15 (fun HT_ HW_ => ?_)
                      generalize w66.drew = w67 at HO_7 HI0 HK HB HL241_0 HL245_0 HR241_0 HR245_0 hx241_0 hx245_0 hHeld ⊢
                      refine pure_ (i := 1) (N := some 75) (v := ?_) (a' := ?_) #[false, true, false, false, false, false, false, false, false, false, false, false, false, false, false, false, false, false, false] rfl rfl (any_of HT_.out (by kernel_rfl)) (fun _ _ _ h => h) (Or.inl ⟨by rfl, ?_⟩) ?_ ?_
                      rotate_left
                      ·intro w'
                       go_simp
                       with_reducible rfl
                      rotate_left
                      ·simp only [Act.put, List.setIfInBounds_toArray, List.set_cons_zero, List.set_cons_succ, i64_w, i32_w]
                       rfl
                      refine pure_ (i := 2) (N := some 76) (v := ?_) (a' := ?_) #[false, true, true, false, false, false, false, false, false, false, false, false, false, false, false, false, false, false, false] rfl rfl (any_of HT_.out (by kernel_rfl)) (fun _ _ _ h => h) (Or.inl ⟨by rfl, ?_⟩) ?_ ?_
                      rotate_left
                      ·intro w'
                       go_simp
                       with_reducible rfl
                      rotate_left
                      ·simp only [Act.put, List.setIfInBounds_toArray, List.set_cons_zero, List.set_cons_succ, i64_w, i32_w]
                       rfl
                      refine pure_ (i := 3) (N := some 77) (v := ?_) (a' := ?_) #[false, true, true, true, false, false, false, false, false, false, false, false, false, false, false, false, false, false, false] rfl rfl (any_of HT_.out (by kernel_rfl)) (fun _ _ _ h => h) (Or.inl ⟨by rfl, ?_⟩) ?_ ?_
                      rotate_left
                      ·intro w'
                       go_simp
                       with_reducible rfl
                      rotate_left
                      ·simp only [Act.put, List.setIfInBounds_toArray, List.set_cons_zero, List.set_cons_succ, i64_w, i32_w]
                       rfl
                      refine pure_ (i := 6) (N := some 80) (v := ?_) (a' := ?_) #[false, true, true, true, false, false, true, false, false, false, false, false, false, false, false, false, false, false, false] rfl rfl (any_of HT_.out (by kernel_rfl)) (fun _ _ _ h => h) (Or.inl ⟨by rfl, ?_⟩) ?_ ?_
                      rotate_left
                      ·intro w'
                       go_simp
                       with_reducible rfl
                      rotate_left
                      ·simp only [Act.put, List.setIfInBounds_toArray, List.set_cons_zero, List.set_cons_succ, i64_w, i32_w]
                       rfl
                      refine pure_ (i := 7) (N := some 81) (v := ?_) (a' := ?_) #[false, true, true, true, false, false, true, true, false, false, false, false, false, false, false, false, false, false, false] rfl rfl (any_of HT_.out (by kernel_rfl)) (fun _ _ _ h => h) (Or.inl ⟨by rfl, ?_⟩) ?_ ?_
                      rotate_left
                      ·intro w'
                       go_simp
                       with_reducible rfl
                      rotate_left
                      ·simp only [Act.put, List.setIfInBounds_toArray, List.set_cons_zero, List.set_cons_succ, i64_w, i32_w]
                       rfl
                      refine pure_ (i := 8) (N := some 82) (v := ?_) (a' := ?_) #[false, true, true, true, false, false, true, true, true, false, false, false, false, false, false, false, false, false, false] rfl rfl (any_of HT_.out (by kernel_rfl)) (fun _ _ _ h => h) (Or.inl ⟨by rfl, ?_⟩) ?_ ?_
                      rotate_left
                      ·intro w'
                       go_simp
                       with_reducible rfl
                      rotate_left
                      ·simp only [Act.put, List.setIfInBounds_toArray, List.set_cons_zero, List.set_cons_succ, i64_w, i32_w]
                       rfl
                      refine pure_ (i := 9) (N := some 83) (v := ?_) (a' := ?_) #[false, true, true, true, false, false, true, true, true, true, false, false, false, false, false, false, false, false, false] rfl rfl (any_of HT_.out (by kernel_rfl)) (fun _ _ _ h => h) (Or.inl ⟨by rfl, ?_⟩) ?_ ?_
                      rotate_left
                      ·intro w'
                       go_simp
                       with_reducible rfl
                      rotate_left
                      ·simp only [Act.put, List.setIfInBounds_toArray, List.set_cons_zero, List.set_cons_succ, i64_w, i32_w]
                       rfl
                      refine pure_ (i := 12) (N := some 86) (v := ?_) (a' := ?_) #[false, true, true, true, false, false, true, true, true, true, false, false, true, false, false, false, false, false, false] rfl rfl (any_of HT_.out (by kernel_rfl)) (fun _ _ _ h => h) (Or.inl ⟨by rfl, ?_⟩) ?_ ?_
                      rotate_left
                      ·intro w'
                       go_simp
                       with_reducible rfl
                      rotate_left
                      ·simp only [Act.put, List.setIfInBounds_toArray, List.set_cons_zero, List.set_cons_succ, i64_w, i32_w]
                       rfl
                      refine take_ (i := 4) (N := some 78) (v := ?_) (a' := ?_) #[false, true, true, true, true, false, true, true, true, true, false, false, true, false, false, false, false, false, false] rfl rfl (take_ofW HT_.out HW_.out (by kernel_rfl)) (fun _ _ _ h => h) (Or.inl ⟨by rfl, ?_⟩) hHeld ?_ ?_
                      rotate_left
                      ·rintro w' ⟨s0, s1⟩
                       go_simp
                       with_reducible rfl
                      rotate_left
                      ·simp only [Act.put, List.setIfInBounds_toArray, List.set_cons_zero, List.set_cons_succ, i64_w, i32_w]
                       rfl
                      refine take_ (i := 10) (N := some 84) (v := ?_) (a' := ?_) #[false, true, true, true, true, false, true, true, true, true, true, false, true, false, false, false, false, false, false] rfl rfl (take_ofW HT_.out HW_.out (by kernel_rfl)) (fun _ _ _ h => h) (Or.inl ⟨by rfl, ?_⟩) hHeld ?_ ?_
                      rotate_left
                      ·rintro w' ⟨s0, s1⟩
                       go_simp
                       with_reducible rfl
                      rotate_left
                      ·simp only [Act.put, List.setIfInBounds_toArray, List.set_cons_zero, List.set_cons_succ, i64_w, i32_w]
                       rfl
                      refine one_ (i := 0) (N := some 74) #[true, true, true, true, true, false, true, true, true, true, true, false, true, false, false, false, false, false, false] rfl rfl (one_of HT_.out (by kernel_rfl)) (by decide) (fun K hK => ?_)
                      refine Kd.R_lit_step k41 _ 41 ?hg (N := 74) ?hd (xs := ([] : List (S41))) (inner := []) (ok := fun _ => True) (okp := fun _ => True) ?hr ?hp (fun _ hk => hk) trivial (Below.refl _ _) (Nat.le_refl _) (by simp) ?_; (case hd => rfl); (case hg => rfl); (case hr => first | (go_simp; done) | (go_simp; rfl)); (case hp => exact (Reps.none _ _))
                      intro v239 w68 ho69 hb hg_ hnew_
                      have HS0_ := (hb.cell (World.block_lt_of_cell? _ _ (hHeld.1))).trans (hHeld.1)
                      have HS1_ := (hb.cell (World.block_lt_of_cell? _ _ (hHeld.2))).trans (hHeld.2)
                      clear hg_ hnew_
                      (first | rw [← Ny238.out] at ho69 | (simp only [Int.reduceToNat] at ho69; rw [← Ny238.out] at ho69))
                      have n0_ := Aside0.mk (Kd.R_elder' (by (with_reducible repeat apply Kd.R_alloc); exact HO_7.out) (Kd.R_base ho69) hb)
                      have n1_ := Aside0.mk (Kd.R_elder' (by (with_reducible repeat apply Kd.R_alloc); exact HL241_0.out) (Kd.R_base ho69) hb)
                      have n2_ := Aside0.mk (Kd.R_elder' (by (with_reducible repeat apply Kd.R_alloc); exact HL245_0.out) (Kd.R_base ho69) hb)
                      have n3_ := Aside0.mk (Kd.R_lower (Kd.R_new' (Kd.R_new' ho69 (Kd.R_lt (by (with_reducible repeat apply Kd.R_alloc); exact HL241_0.out))) (Kd.R_lt (by (with_reducible repeat apply Kd.R_alloc); exact HL245_0.out))) (keep_size (w := w) (g := g) (row := none) (by repeat (first | (with_reducible first | exact HK.out | apply KeepBut.set_ | apply keep_drewN | apply keep_drew | apply keep_alloc) | exact HK.out))))
                      have n4_ := Aside0.mk (IsS68.below (by repeat (first | (with_reducible first | exact HI0.out | apply IsS68.alloc | apply IsS68.drewN | apply IsS68.drew | apply IsS68.set_1) | exact HI0.out)) hb)
                      have n5_ := Aside0.mk (Kd.C_below (by repeat (first | (with_reducible exact HR241_0.out) | (with_reducible refine Kd.C_alloc ?_ _) | (with_reducible refine Kd.C_drewN ?_ _) | (with_reducible refine Kd.C_drew ?_) | exact HR241_0.out)) hb)
                      have n6_ := Aside0.mk (Kd.C_below (by repeat (first | (with_reducible exact HR245_0.out) | (with_reducible refine Kd.C_alloc ?_ _) | (with_reducible refine Kd.C_drewN ?_ _) | (with_reducible refine Kd.C_drew ?_) | exact HR245_0.out)) hb)
                      have n7_ := Aside0.mk (KeepBut.trans (by repeat (first | (with_reducible first | exact HK.out | apply KeepBut.set_ | apply keep_drewN | apply keep_drew | apply keep_alloc) | exact HK.out)) (KeepBut.of_below hb g none) (.inl rfl))
                      have n8_ := Aside0.mk (below_step (by repeat (first | (with_reducible first | exact HB.out | apply below_alloc | apply pw_below_drewN | apply below_drew1 | refine below_set ?_ (IsS68.ge HI0.out)) | exact HB.out)) hb)
                      clear HO_7
                      clear HL241_0
                      clear HL245_0
                      clear HI0
                      clear HR241_0
                      clear HR245_0
                      clear HK
                      clear HB
                      have HO_7 := n0_
                      have HL241_0 := n1_
                      have HL245_0 := n2_
                      have HO240 := n3_
                      have HI0 := n4_
                      have HR241_0 := n5_
                      have HR245_0 := n6_
                      have HK := n7_
                      have HB := n8_
                      clear n0_ n1_ n2_ n3_ n4_ n5_ n6_ n7_ n8_
                      clear hb ho69
                      refine hK.out _ _ ⟨HS0_, HS1_⟩ (fun hHeld => ?_)
                      clear hK K
                      refine norm_ (a' := ?_) ?_ ?_
                      rotate_left
                      ·show Act.put _ (some 74) _ = _
                       simp only [Act.put, List.setIfInBounds_toArray, List.set_cons_zero, List.set_cons_succ, i64_w, i32_w]
                       rfl
                      refine one_ (i := 5) (N := some 79) #[true, true, true, true, true, true, true, true, true, true, true, false, true, false, false, false, false, false, false] rfl rfl (one_of HT_.out (by kernel_rfl)) (by decide) (fun K hK => ?_)
                      refine Kd.R_append_rows_step k41 w.heap.size (by rfl) (.tmp 74) (.tmp 78) 23 41 (.agg #[(.int .i64 0), (.int .i64 0)]) 16 rfl Try.underlying23 info41 rfl (by decide) (by omega) v239 y238 (rd_L4 x7_2 t223) _ _ _ (fun k_ => some k_ ≠ (.slice A241_0 (rd_L4 x7_2 t223).length c241_0 : Value).ownBlock ∧ some k_ ≠ (.slice A245_0 (rd_L4 x7_2 (ji51)).length c245_0 : Value).ownBlock) (fun _ => False) rfl rfl ?aO ?aR (fun _ _ h => h) (fun _ h => h.elim) ?aF (Below.refl _ _) ?aS ?aL ?_
                      (case aR => repeat (first | exact (by repeat (first | (with_reducible exact HR241_0.out) | (with_reducible refine Kd.C_alloc ?_ _) | (with_reducible refine Kd.C_drewN ?_ _) | (with_reducible refine Kd.C_drew ?_) | exact HR241_0.out)) | (with_reducible refine Kd.C_alloc ?_ _) | (with_reducible refine Kd.C_drewN ?_ _) | (with_reducible refine Kd.C_drew ?_)))
                      (case aF => exact (fun k_ hk => ⟨Kd.fresh' (Kd.R_lt (by (with_reducible repeat apply Kd.R_alloc); exact HL241_0.out)) k_ hk, Kd.fresh' (Kd.R_lt (by (with_reducible repeat apply Kd.R_alloc); exact HL245_0.out)) k_ hk⟩))
                      (case aO => exact (by (with_reducible repeat apply Kd.R_alloc); exact Kd.R_mono HO240.out (fun _ hk => ⟨hk.1.2, hk.2⟩)))
                      (case aS => exact (keep_size (w := w) (g := g) (row := none) (by repeat (first | (with_reducible first | exact HK.out | apply KeepBut.set_ | apply keep_drewN | apply keep_drew | apply keep_alloc) | exact HK.out))))
                      (case aL => have := LMc50.out; omega)
                      intro v243 w70 ho hb hg hat
                      have HS0_ := cell_grown hg (hHeld.1) (by first | (rw [add_block]; exact ((HO_7.out.1 _ rfl).2)) | (show some (Addr.add _ _).block ≠ _; rw [add_block]; exact ((HO_7.out.1 _ rfl).2)) | exact ((HO_7.out.1 _ rfl).2))
                      have HS1_ := cell_grown hg (hHeld.2) (by first | (rw [add_block]; exact ((HO_7.out.1 _ rfl).2)) | (show some (Addr.add _ _).block ≠ _; rw [add_block]; exact ((HO_7.out.1 _ rfl).2)) | exact ((HO_7.out.1 _ rfl).2))
                      rw [← Ny242.out] at ho
                      have n0_ := Aside0.mk (Kd.R_after (ok := (fun _ => True)) (by (with_reducible repeat apply Kd.R_alloc); exact HO_7.out) hg hat)
                      have n1_ := Aside0.mk (IsS68.grown (by repeat (first | (with_reducible first | exact HI0.out | apply IsS68.alloc | apply IsS68.drewN | apply IsS68.drew | apply IsS68.set_1) | exact HI0.out)) hg (IsS68.own_ne HI0.out HO240.out (by decide)))
                      have n2_ := Aside0.mk (Kd.R_after (ok := (fun k_ => some k_ ≠ (.slice (some ad241) x7_2.length co64 : Value).ownBlock)) (by (with_reducible repeat apply Kd.R_alloc); exact Kd.R_mono HL241_0.out (fun _ hk => ⟨hk.1.2, hk.2⟩)) hg hat)
                      have n3_ := Aside0.mk (Kd.R_after (ok := (fun k_ => some k_ ≠ (.slice (some ad241) x7_2.length co64 : Value).ownBlock)) (by (with_reducible repeat apply Kd.R_alloc); exact Kd.R_mono HL245_0.out (fun _ hk => ⟨hk.1.2, hk.2⟩)) hg hat)
                      have n4_ := Aside0.mk (below_weaken (by repeat (first | (with_reducible first | exact HB.out | apply below_alloc | apply pw_below_drewN | apply below_drew1 | refine below_set ?_ (IsS68.ge HI0.out)) | exact HB.out)) HL.out hb)
                      have n5_ := Aside0.mk (KeepBut.trans (by repeat (first | (with_reducible first | exact HK.out | apply KeepBut.set_ | apply keep_drewN | apply keep_drew | apply keep_alloc) | exact HK.out)) (KeepBut.of_grown hg g) (Kd.R_base2 HO240.out))
                      have n6_ := Aside0.mk (ho)
                      clear HO_7
                      clear HI0
                      clear HL241_0
                      clear HL245_0
                      clear HB
                      clear HK
                      clear HO240
                      have HO_7 := n0_
                      have HI0 := n1_
                      have HL241_0 := n2_
                      have HL245_0 := n3_
                      have HB := n4_
                      have HK := n5_
                      have HO244 := n6_
                      clear n0_ n1_ n2_ n3_ n4_ n5_ n6_
                      clear ho hb hg hat
                      refine hK.out _ _ ⟨HS0_, HS1_⟩ (fun hHeld => ?_)
                      clear hK K
                      refine norm_ (a' := ?_) ?_ ?_
                      rotate_left
                      ·show Act.put _ (some 79) _ = _
                       simp only [Act.put, List.setIfInBounds_toArray, List.set_cons_zero, List.set_cons_succ, i64_w, i32_w]
                       rfl
                      refine one_ (i := 11) (N := some 85) #[true, true, true, true, true, true, true, true, true, true, true, true, true, false, false, false, false, false, false] rfl rfl (one_of HT_.out (by kernel_rfl)) (by decide) (fun K hK => ?_)
                      refine Kd.R_append_rows_step k41 w.heap.size (by rfl) (.tmp 79) (.tmp 84) 23 41 (.agg #[(.int .i64 0), (.int .i64 0)]) 16 rfl Try.underlying23 info41 rfl (by decide) (by omega) v243 y242 (rd_L4 x7_2 (ji51)) _ _ _ (fun k_ => some k_ ≠ (.slice A241_0 (rd_L4 x7_2 t223).length c241_0 : Value).ownBlock ∧ some k_ ≠ (.slice A245_0 (rd_L4 x7_2 (ji51)).length c245_0 : Value).ownBlock) (fun _ => False) rfl rfl ?aO ?aR (fun _ _ h => h) (fun _ h => h.elim) ?aF (Below.refl _ _) ?aS ?aL ?_
                      (case aR => repeat (first | exact ((Kd.R_reads' (by (with_reducible repeat apply Kd.R_alloc); exact HL245_0.out)).2.2) | (with_reducible refine Kd.C_alloc ?_ _) | (with_reducible refine Kd.C_drewN ?_ _) | (with_reducible refine Kd.C_drew ?_)))
                      (case aF => exact (fun k_ hk => ⟨Kd.fresh' (Kd.R_lt (by (with_reducible repeat apply Kd.R_alloc); exact HL241_0.out)) k_ hk, Kd.fresh' (Kd.R_lt (by (with_reducible repeat apply Kd.R_alloc); exact HL245_0.out)) k_ hk⟩))
                      (case aO => exact (by (with_reducible repeat apply Kd.R_alloc); exact HO244.out))
                      (case aS => exact (keep_size (w := w) (g := g) (row := none) (by repeat (first | (with_reducible first | exact HK.out | apply KeepBut.set_ | apply keep_drewN | apply keep_drew | apply keep_alloc) | exact HK.out))))
                      (case aL => have := LMc54.out; omega)
                      intro v247 w71 ho hb hg hat
                      have HS0_ := cell_grown hg (hHeld.1) (by first | (rw [add_block]; exact ((HO_7.out.1 _ rfl).2)) | (show some (Addr.add _ _).block ≠ _; rw [add_block]; exact ((HO_7.out.1 _ rfl).2)) | exact ((HO_7.out.1 _ rfl).2))
                      have HS1_ := cell_grown hg (hHeld.2) (by first | (rw [add_block]; exact ((HO_7.out.1 _ rfl).2)) | (show some (Addr.add _ _).block ≠ _; rw [add_block]; exact ((HO_7.out.1 _ rfl).2)) | exact ((HO_7.out.1 _ rfl).2))
                      rw [← Ny246.out] at ho
                      have n0_ := Aside0.mk (Kd.R_after (ok := (fun _ => True)) (by (with_reducible repeat apply Kd.R_alloc); exact HO_7.out) hg hat)
                      have n1_ := Aside0.mk (IsS68.grown (by repeat (first | (with_reducible first | exact HI0.out | apply IsS68.alloc | apply IsS68.drewN | apply IsS68.drew | apply IsS68.set_1) | exact HI0.out)) hg (IsS68.own_ne HI0.out HO244.out (by decide)))
                      have n2_ := Aside0.mk (Kd.R_after (ok := (fun k_ => some k_ ≠ (.slice (some ad241) x7_2.length co64 : Value).ownBlock)) (by (with_reducible repeat apply Kd.R_alloc); exact HL241_0.out) hg hat)
                      have n3_ := Aside0.mk (Kd.R_after (ok := (fun k_ => some k_ ≠ (.slice (some ad241) x7_2.length co64 : Value).ownBlock)) (by (with_reducible repeat apply Kd.R_alloc); exact HL245_0.out) hg hat)
                      have n4_ := Aside0.mk (below_weaken (by repeat (first | (with_reducible first | exact HB.out | apply below_alloc | apply pw_below_drewN | apply below_drew1 | refine below_set ?_ (IsS68.ge HI0.out)) | exact HB.out)) HL.out hb)
                      have n5_ := Aside0.mk (KeepBut.trans (by repeat (first | (with_reducible first | exact HK.out | apply KeepBut.set_ | apply keep_drewN | apply keep_drew | apply keep_alloc) | exact HK.out)) (KeepBut.of_grown hg g) (Kd.R_base2 HO244.out))
                      have n6_ := Aside0.mk (ho)
                      clear HO_7
                      clear HI0
                      clear HL241_0
                      clear HL245_0
                      clear HB
                      clear HK
                      clear HO244
                      have HO_7 := n0_
                      have HI0 := n1_
                      have HL241_0 := n2_
                      have HL245_0 := n3_
                      have HB := n4_
                      have HK := n5_
                      have HO248 := n6_
                      clear n0_ n1_ n2_ n3_ n4_ n5_ n6_
                      clear ho hb hg hat
                      refine hK.out _ _ ⟨HS0_, HS1_⟩ (fun hHeld => ?_)
                      clear hK K
                      refine norm_ (a' := ?_) ?_ ?_
                      rotate_left
                      ·show Act.put _ (some 85) _ = _
                       simp only [Act.put, List.setIfInBounds_toArray, List.set_cons_zero, List.set_cons_succ, i64_w, i32_w]
                       rfl
                      refine one_ (i := 13) (N := some 87) #[true, true, true, true, true, true, true, true, true, true, true, true, true, true, false, false, false, false, false] rfl rfl (one_of HT_.out (by kernel_rfl)) (by decide) (fun K hK => ?_)
                      refine goes_ Try.func64 (by kernel_rfl) rfl #[.pointer (some ⟨g, 0, none⟩), .int .i64 3] (by rfl) rfl rfl (by (try simp only [List.map_toArray, List.map_cons, List.map_nil]); first | done | rfl | (simp only [List.length_drop, List.length_take]; rfl)) ?_
                      with_reducible refine (spec_l20Rd_pick.calls k2 g s0_0 t226 3 t249 t250 w0 _ ?side1 ?side2 A55.out).mono ?_
                      (case side1 => repeat (first | (with_reducible first | exact HI0.out | apply IsS68.alloc | apply IsS68.drewN | apply IsS68.drew | apply IsS68.set_1) | exact HI0.out))
                      (case side2 => repeat (first | (with_reducible first | exact HB.out | apply below_alloc | apply pw_below_drewN | apply below_drew1 | refine below_set ?_ (IsS68.ge HI0.out)) | exact HB.out))
                      rintro e w72 ⟨rfl, hi, hb, hk⟩
                      have HS0_ := keep_cell hk (hHeld.1) (by first | (rw [add_block]; exact Kd.own_blk (IsS68.own_ne HI0.out HO_7.out (by decide))) | (show (Addr.add _ _).block ≠ _; rw [add_block]; exact Kd.own_blk (IsS68.own_ne HI0.out HO_7.out (by decide))) | exact Kd.own_blk (IsS68.own_ne HI0.out HO_7.out (by decide)))
                      have HS1_ := keep_cell hk (hHeld.2) (by first | (rw [add_block]; exact Kd.own_blk (IsS68.own_ne HI0.out HO_7.out (by decide))) | (show (Addr.add _ _).block ≠ _; rw [add_block]; exact Kd.own_blk (IsS68.own_ne HI0.out HO_7.out (by decide))) | exact Kd.own_blk (IsS68.own_ne HI0.out HO_7.out (by decide)))
                      refine ⟨_, rfl, ?_⟩
                      have n0_ := Aside0.mk (Kd.R_mono (Kd.R_keep (IsS68.apart (show IsS68 w0 _ g s0_0 t226 from by repeat (first | (with_reducible first | exact HI0.out | apply IsS68.alloc | apply IsS68.drewN | apply IsS68.drew | apply IsS68.set_1) | exact HI0.out)) (by (with_reducible repeat apply Kd.R_alloc); exact HO_7.out) (by decide)) hk (fun _ h => h.2)) (fun _ h => h.1))
                      have n1_ := Aside0.mk (Kd.R_mono (Kd.R_keep (IsS68.apart (show IsS68 w0 _ g s0_0 t226 from by repeat (first | (with_reducible first | exact HI0.out | apply IsS68.alloc | apply IsS68.drewN | apply IsS68.drew | apply IsS68.set_1) | exact HI0.out)) (by (with_reducible repeat apply Kd.R_alloc); exact HL241_0.out) (by decide)) hk (fun _ h => h.2)) (fun _ h => h.1))
                      have n2_ := Aside0.mk (Kd.R_mono (Kd.R_keep (IsS68.apart (show IsS68 w0 _ g s0_0 t226 from by repeat (first | (with_reducible first | exact HI0.out | apply IsS68.alloc | apply IsS68.drewN | apply IsS68.drew | apply IsS68.set_1) | exact HI0.out)) (by (with_reducible repeat apply Kd.R_alloc); exact HL245_0.out) (by decide)) hk (fun _ h => h.2)) (fun _ h => h.1))
                      have n3_ := Aside0.mk (Kd.R_mono (Kd.R_keep (IsS68.apart (show IsS68 w0 _ g s0_0 t226 from by repeat (first | (with_reducible first | exact HI0.out | apply IsS68.alloc | apply IsS68.drewN | apply IsS68.drew | apply IsS68.set_1) | exact HI0.out)) (by (with_reducible repeat apply Kd.R_alloc); exact HO248.out) (by decide)) hk (fun _ h => h.2)) (fun _ h => h.1))
                      have n4_ := Aside0.mk (KeepBut.trans (by repeat (first | (with_reducible first | exact HK.out | apply KeepBut.set_ | apply keep_drewN | apply keep_drew | apply keep_alloc) | exact HK.out)) hk (.inl rfl))
                      have n5_ := Aside0.mk (hb)
                      have n6_ := Aside0.mk (hi)
                      clear HO_7
                      clear HL241_0
                      clear HL245_0
                      clear HO248
                      clear HK
                      clear HB
                      clear HI0
                      have HO_7 := n0_
                      have HL241_0 := n1_
                      have HL245_0 := n2_
                      have HO248 := n3_
                      have HK := n4_
                      have HB := n5_
                      have HI0 := n6_
                      clear n0_ n1_ n2_ n3_ n4_ n5_ n6_
                      (try clear hb)
                      (try clear hb2)
                      (try clear hk)
                      (try clear hi)
                      refine hK.out _ _ ⟨HS0_, HS1_⟩ (fun hHeld => ?_)
                      clear hK K
                      refine norm_ (a' := ?_) ?_ ?_
                      rotate_left
                      ·show Act.put _ (some 87) _ = _
                       simp only [Act.put, List.setIfInBounds_toArray, List.set_cons_zero, List.set_cons_succ, i64_w, i32_w]
                       rfl
                      refine pure_ (i := 14) (N := some 88) (v := ?_) (a' := ?_) #[true, true, true, true, true, true, true, true, true, true, true, true, true, true, true, false, false, false, false] rfl rfl (any_of HT_.out (by kernel_rfl)) (fun _ _ _ h => h) (Or.inl ⟨by rfl, ?_⟩) ?_ ?_
                      rotate_left
                      ·intro w'
                       go_simp
                       with_reducible rfl
                      rotate_left
                      ·simp only [Act.put, List.setIfInBounds_toArray, List.set_cons_zero, List.set_cons_succ, i64_w, i32_w]
                       rfl
                      refine pure_ (i := 15) (N := some 89) (v := ?_) (a' := ?_) #[true, true, true, true, true, true, true, true, true, true, true, true, true, true, true, true, false, false, false] rfl rfl (any_of HT_.out (by kernel_rfl)) (fun _ _ _ h => h) (Or.inl ⟨by rfl, ?_⟩) ?_ ?_
                      rotate_left
                      ·intro w'
                       go_simp
                       with_reducible rfl
                      rotate_left
                      ·simp only [Act.put, List.setIfInBounds_toArray, List.set_cons_zero, List.set_cons_succ, i64_w, i32_w]
                       rfl
                      refine last_ (i := 16) (N := some 90) #[true, true, true, true, true, true, true, true, true, true, true, true, true, true, true, true, true, false, false] rfl rfl (one_of HT_.out (by kernel_rfl)) (by decide) (fun K hK => ?_)
                      refine value_ (w1 := ?_) (v := ?_) (by rfl) rfl ?_ ?_
                      rotate_left 2
                      ·go_simp
                       constructor
                       ·rfl
                       ·rfl
                      refine hK.out _ _ ?_
                      clear hK K
                      refine norm_ (a' := ?_) ?_ ?_
                      rotate_left
                      ·show Act.put _ (some 90) _ = _
                       simp only [Act.put, List.setIfInBounds_toArray, List.set_cons_zero, List.set_cons_succ, i64_w, i32_w]
                       rfl
                      refine one_ (i := 17) (N := some 91) #[true, true, true, true, true, true, true, true, true, true, true, true, true, true, true, true, true, true, false] rfl rfl (one_of HT_.out (by kernel_rfl)) (by decide) (fun K hK => ?_)
                      refine Kd.R_append_step k41 w.heap.size (by rfl) (.tmp 85) (.tmp 90) 23 41 (.agg #[(.int .i64 0), (.int .i64 0)]) 16 rfl Try.underlying23 info41 rfl (by decide) (by omega) v247 y246 (⟨wrap64 (3 + t249), 0⟩ : S41) [.int .i64 (wrap64 (3 + t249)), .int .i64 0] (fun k_ => some k_ ≠ (.slice A241_0 (rd_L4 x7_2 t223).length c241_0 : Value).ownBlock ∧ some k_ ≠ (.slice A245_0 (rd_L4 x7_2 (ji51)).length c245_0 : Value).ownBlock) (fun _ => False) rfl rfl ?aP (fun _ hk => hk.elim) ?aF ?aO (Below.refl _ _) ?aS ?aL ?_
                      (case aP => exact k41_mkM _ _ _ (⟨wrap64 (3 + t249), 0⟩ : S41))
                      (case aF => exact (fun k_ hk => ⟨Kd.fresh' (Kd.R_lt (by (with_reducible repeat apply Kd.R_alloc); exact HL241_0.out)) k_ hk, Kd.fresh' (Kd.R_lt (by (with_reducible repeat apply Kd.R_alloc); exact HL245_0.out)) k_ hk⟩))
                      (case aO => exact (by (with_reducible repeat apply Kd.R_alloc); exact HO248.out))
                      (case aS => exact (keep_size (w := w) (g := g) (row := none) (by repeat (first | (with_reducible first | exact HK.out | apply KeepBut.set_ | apply keep_drewN | apply keep_drew | apply keep_alloc) | exact HK.out))))
                      (case aL => have := LMc56.out; omega)
                      intro v252 w73 ho hb hg hat
                      have HS0_ := cell_grown hg (hHeld.1) (by first | (rw [add_block]; exact ((HO_7.out.1 _ rfl).2)) | (show some (Addr.add _ _).block ≠ _; rw [add_block]; exact ((HO_7.out.1 _ rfl).2)) | exact ((HO_7.out.1 _ rfl).2))
                      have HS1_ := cell_grown hg (hHeld.2) (by first | (rw [add_block]; exact ((HO_7.out.1 _ rfl).2)) | (show some (Addr.add _ _).block ≠ _; rw [add_block]; exact ((HO_7.out.1 _ rfl).2)) | exact ((HO_7.out.1 _ rfl).2))
                      rw [← Ny251.out] at ho
                      have n0_ := Aside0.mk (Kd.R_after (ok := (fun _ => True)) (by (with_reducible repeat apply Kd.R_alloc); exact HO_7.out) hg hat)
                      have n1_ := Aside0.mk (IsS68.grown (by repeat (first | (with_reducible first | exact HI0.out | apply IsS68.alloc | apply IsS68.drewN | apply IsS68.drew | apply IsS68.set_1) | exact HI0.out)) hg (IsS68.own_ne HI0.out HO248.out (by decide)))
                      have n2_ := Aside0.mk (Kd.R_after (ok := (fun k_ => some k_ ≠ (.slice (some ad241) x7_2.length co64 : Value).ownBlock)) (by (with_reducible repeat apply Kd.R_alloc); exact HL241_0.out) hg hat)
                      have n3_ := Aside0.mk (Kd.R_after (ok := (fun k_ => some k_ ≠ (.slice (some ad241) x7_2.length co64 : Value).ownBlock)) (by (with_reducible repeat apply Kd.R_alloc); exact HL245_0.out) hg hat)
                      have n4_ := Aside0.mk (below_weaken (by repeat (first | (with_reducible first | exact HB.out | apply below_alloc | apply pw_below_drewN | apply below_drew1 | refine below_set ?_ (IsS68.ge HI0.out)) | exact HB.out)) HL.out hb)
                      have n5_ := Aside0.mk (KeepBut.trans (by repeat (first | (with_reducible first | exact HK.out | apply KeepBut.set_ | apply keep_drewN | apply keep_drew | apply keep_alloc) | exact HK.out)) (KeepBut.of_grown hg g) (Kd.R_base2 HO248.out))
                      have n6_ := Aside0.mk (ho)
                      clear HO_7
                      clear HI0
                      clear HL241_0
                      clear HL245_0
                      clear HB
                      clear HK
                      clear HO248
                      have HO_7 := n0_
                      have HI0 := n1_
                      have HL241_0 := n2_
                      have HL245_0 := n3_
                      have HB := n4_
                      have HK := n5_
                      have HO253 := n6_
                      clear n0_ n1_ n2_ n3_ n4_ n5_ n6_
                      clear ho hb hg hat
                      refine hK.out _ _ ⟨HS0_, HS1_⟩ (fun hHeld => ?_)
                      clear hK K
                      refine norm_ (a' := ?_) ?_ ?_
                      rotate_left
                      ·show Act.put _ (some 91) _ = _
                       simp only [Act.put, List.setIfInBounds_toArray, List.set_cons_zero, List.set_cons_succ, i64_w, i32_w]
                       rfl
                      refine pure_ (i := 18) (N := some 11) (v := ?_) (a' := ?_) #[true, true, true, true, true, true, true, true, true, true, true, true, true, true, true, true, true, true, true] rfl rfl (any_of HT_.out (by kernel_rfl)) (fun _ _ _ h => h) (Or.inl ⟨by rfl, ?_⟩) ?_ ?_
                      rotate_left
                      ·intro w'
                       go_simp
                       with_reducible rfl
                      rotate_left
                      ·simp only [Act.put, List.setIfInBounds_toArray, List.set_cons_zero, List.set_cons_succ, i64_w, i32_w]
                       rfl
                      refine done_ (done_of HT_.out (by kernel_rfl)) ?_
                      try go_wp2_with (first | ((with_reducible refine gate_dst (N := 92) rfl ?_); refine Kd.R_lit (Kd.slice 41 k41) _ 23 ?hg (N := 92) ?hd (xs := ([] : List (List (S41)))) (inner := []) (ok := fun _ => True) (okp := fun _ => True) ?hr ?hp (fun _ hk => hk) trivial (Below.refl _ _) (Nat.le_refl _) (by simp) ?_; (case hd => rfl); (case hg => rfl); (case hr => first | (go_simp; done) | (go_simp; rfl)); (case hp => exact (Reps.none _ _)); intro v255 w74 ho75 hb hg_ hnew_; clear hg_ hnew_; (first | rw [← Ny254.out] at ho75 | (simp only [Int.reduceToNat] at ho75; rw [← Ny254.out] at ho75)); have n0_ := Aside0.mk (Kd.R_elder' (by (with_reducible repeat apply Kd.R_alloc); exact HO_7.out) (Kd.R_base ho75) hb); have n1_ := Aside0.mk (Kd.R_below (by (with_reducible repeat apply Kd.R_alloc); exact HL241_0.out) hb); have n2_ := Aside0.mk (Kd.R_below (by (with_reducible repeat apply Kd.R_alloc); exact HL245_0.out) hb); have n3_ := Aside0.mk (Kd.R_below (by (with_reducible repeat apply Kd.R_alloc); exact HO253.out) hb); have n4_ := Aside0.mk (Kd.R_lower (Kd.R_new' (Kd.R_new' (Kd.R_new' (Kd.R_new' ho75 (Kd.R_lt (by (with_reducible repeat apply Kd.R_alloc); exact HO_7.out))) (Kd.R_lt (by (with_reducible repeat apply Kd.R_alloc); exact HL241_0.out))) (Kd.R_lt (by (with_reducible repeat apply Kd.R_alloc); exact HL245_0.out))) (Kd.R_lt (by (with_reducible repeat apply Kd.R_alloc); exact HO253.out))) (keep_size (w := w) (g := g) (row := none) (by repeat (first | (with_reducible first | exact HK.out | apply KeepBut.set_ | apply keep_drewN | apply keep_drew | apply keep_alloc) | exact HK.out)))); have n5_ := Aside0.mk (IsS68.below (by repeat (first | (with_reducible first | exact HI0.out | apply IsS68.alloc | apply IsS68.drewN | apply IsS68.drew | apply IsS68.set_1) | exact HI0.out)) hb); have n6_ := Aside0.mk (KeepBut.trans (by repeat (first | (with_reducible first | exact HK.out | apply KeepBut.set_ | apply keep_drewN | apply keep_drew | apply keep_alloc) | exact HK.out)) (KeepBut.of_below hb g none) (.inl rfl)); have n7_ := Aside0.mk (below_step (by repeat (first | (with_reducible first | exact HB.out | apply below_alloc | apply pw_below_drewN | apply below_drew1 | refine below_set ?_ (IsS68.ge HI0.out)) | exact HB.out)) hb); clear HO_7; clear HL241_0; clear HL245_0; clear HO253; clear HI0; clear HK; clear HB; have HO_7 := n0_; have HL241_0 := n1_; have HL245_0 := n2_; have HO253 := n3_; have HO256 := n4_; have HI0 := n5_; have HK := n6_; have HB := n7_; clear n0_ n1_ n2_ n3_ n4_ n5_ n6_ n7_; clear hb ho75; have q76 : (t223 : Int) ≤ ((x7_2.length : Int) : Int) := of_decide_eq_true (by first | (with_reducible assumption) | assumption); obtain ⟨i076, hi076, _, hsz76, _⟩ := info_parts info23; have hroom76 : x7_2.length ≤ co64 := (Kd.R_reads' HO_7.out).2.1; have hC76 : Kd.C (Kd.slice 41 k41) _ (some ad241) x7_2.length x7_2 := (Kd.R_reads' HO_7.out).2.2; have hcut76 := cut_to (P := Try.prog) 72 23 .i64 Try.underlying72 hi076 (some ad241) x7_2.length co64 t223 (of_decide_eq_true (by first | (with_reducible assumption) | assumption)) q76 hroom76; have hr76 := Kd.C_take (m := (t223 : Int).toNat) hC76 (by omega); have hy76 : y257.length = (t223 : Int).toNat := (by rw [Ny257.out, List.length_take]; omega); rw [← Ny257.out] at hr76; rw [← hy76] at hcut76; have HR260 := Aside0.mk hr76; have HC260 := Aside0.mk (show y257.length ≤ co64 from by omega); clear hr76 hC76 hroom76 hi076 hsz76; have KY76 := Aside0.mk hy76; clear hy76; have KL76 := Aside0.mk (show (t223 : Int).toNat ≤ x7_2.length from by omega); replace q76 := eq_true q76) | ((with_reducible refine gate_builtin (b := .append) (xs := #[.tmp 92, .tmp 95]) rfl ?_); at_builtin; refine Kd.R_append_rows (Kd.slice 41 k41) w.heap.size rfl (.tmp 92) (.tmp 95) 72 23 (.slice none 0 0) 24 rfl Try.underlying72 info23 rfl (by decide) (by omega) v255 y254 y257 _ _ _ (fun k_ => some k_ ≠ (.slice (some ad241) x7_2.length co64 : Value).ownBlock ∧ some k_ ≠ (v252 : Value).ownBlock) (fun k_ => ((fun k_ => some k_ ≠ (.slice (some ad241) x7_2.length co64 : Value).ownBlock ∧ some k_ ≠ (v252 : Value).ownBlock)) k_ ∧ some k_ ≠ (v255 : Value).ownBlock) rfl rfl ?aO ?aR (fun _ _ h => h) (fun _ hk => hk) ?aF (Below.refl _ _) ?aS ?aL ?_; (case aR => rw [Ny257.out]; exact Kd.C_take (m := (t223 : Int).toNat) (Kd.R_frozen (okp := (fun k_ => ((fun k_ => some k_ ≠ (.slice (some ad241) x7_2.length co64 : Value).ownBlock ∧ some k_ ≠ (v252 : Value).ownBlock)) k_ ∧ some k_ ≠ (v255 : Value).ownBlock)) (HO_7.out) (fun k_ hk => ⟨⟨hk.2, hk.1.1.2⟩, hk.1.2⟩)).2.2 KL76.out); (case aF => exact (fun k_ hk => ⟨Kd.fresh' (Kd.R_lt (by (with_reducible repeat apply Kd.R_alloc); exact HO_7.out)) k_ hk, Kd.fresh' (Kd.R_lt (by (with_reducible repeat apply Kd.R_alloc); exact HO253.out)) k_ hk⟩)); (case aO => exact (by (with_reducible repeat apply Kd.R_alloc); exact Kd.R_mono HO256.out (fun _ hk => ⟨hk.1.1.1.2, hk.2⟩))); (case aS => exact (keep_size (w := w) (g := g) (row := none) (by repeat (first | (with_reducible first | exact HK.out | apply KeepBut.set_ | apply keep_drewN | apply keep_drew | apply keep_alloc) | exact HK.out)))); (case aL => have := LMc59.out; omega); intro v262 w77 ho hb hg hat; rw [← Ny261.out] at ho; have n0_ := Aside0.mk (Kd.R_after (ok := (fun k_ => some k_ ≠ (v252 : Value).ownBlock)) (by (with_reducible repeat apply Kd.R_alloc); exact Kd.R_mono HO_7.out (fun _ hk => ⟨hk.1.2, hk.2⟩)) hg hat); have n1_ := Aside0.mk (IsS68.grown (by repeat (first | (with_reducible first | exact HI0.out | apply IsS68.alloc | apply IsS68.drewN | apply IsS68.drew | apply IsS68.set_1) | exact HI0.out)) hg (IsS68.own_ne HI0.out HO256.out (by decide))); have n2_ := Aside0.mk (Kd.R_over' (by (with_reducible repeat apply Kd.R_alloc); exact HO253.out) (Kd.R_typed (by (with_reducible repeat apply Kd.R_alloc); exact HO256.out)) (by decide) hg); have n3_ := Aside0.mk (below_weaken (by repeat (first | (with_reducible first | exact HB.out | apply below_alloc | apply pw_below_drewN | apply below_drew1 | refine below_set ?_ (IsS68.ge HI0.out)) | exact HB.out)) HL.out hb); have n4_ := Aside0.mk (KeepBut.trans (by repeat (first | (with_reducible first | exact HK.out | apply KeepBut.set_ | apply keep_drewN | apply keep_drew | apply keep_alloc) | exact HK.out)) (KeepBut.of_grown hg g) (Kd.R_base2 HO256.out)); have n5_ := Aside0.mk ((show Kd.C (Kd.slice 41 k41) w77 (some ad241) y257.length y257 from by rw [Ny257.out]; exact Kd.C_take (m := (t223 : Int).toNat) ((Kd.R_reads' (Kd.R_after (ok := (fun k_ => some k_ ≠ (v252 : Value).ownBlock)) (by (with_reducible repeat apply Kd.R_alloc); exact Kd.R_mono HO_7.out (fun _ hk => ⟨hk.1.2, hk.2⟩)) hg hat)).2.2) KL76.out)); have n6_ := Aside0.mk (ho); clear HO_7; clear HI0; clear HO253; clear HB; clear HK; clear HR260; clear HO256; have HO_7 := n0_; have HI0 := n1_; have HO253 := n2_; have HB := n3_; have HK := n4_; have HR260 := n5_; have HO263 := n6_; clear n0_ n1_ n2_ n3_ n4_ n5_ n6_; clear ho hb hg hat; obtain ⟨Ao79, co79, eo79⟩ := Kd.R_slice HO253.out; subst eo79) | ((with_reducible refine gate_builtin (b := .append) (xs := #[.tmp 97, .tmp 99]) rfl ?_); at_builtin; refine Kd.R_append (Kd.slice 41 k41) w.heap.size rfl (.tmp 97) (.tmp 99) 72 23 (.slice none 0 0) 24 rfl Try.underlying72 info23 rfl (by decide) (by omega) v262 y261 y251 [.slice Ao79 y251.length co79] (fun k_ => some k_ ≠ (.slice (some ad241) x7_2.length co64 : Value).ownBlock) (fun k_ => ((fun k_ => some k_ ≠ (.slice (some ad241) x7_2.length co64 : Value).ownBlock)) k_ ∧ some k_ ≠ (v262 : Value).ownBlock) rfl rfl ?aP (fun _ hk => hk) ?aF ?aO (Below.refl _ _) ?aS ?aL ?_; (case aP => exact Kd.M_row (Kd.R_mono (Kd.R_apart' (Kd.R_apart' (HO253.out) (Kd.R_typed HO_7.out) (by decide)) (Kd.R_typed HO263.out) (by decide)) (fun k_ hk => ⟨hk.1.2, hk.2⟩))); (case aF => exact (fun k_ hk => Kd.fresh' (Kd.R_lt (by (with_reducible repeat apply Kd.R_alloc); exact HO_7.out)) k_ hk)); (case aO => exact (by (with_reducible repeat apply Kd.R_alloc); exact Kd.R_mono HO263.out (fun _ hk => hk.1))); (case aS => exact (keep_size (w := w) (g := g) (row := none) (by repeat (first | (with_reducible first | exact HK.out | apply KeepBut.set_ | apply keep_drewN | apply keep_drew | apply keep_alloc) | exact HK.out)))); (case aL => have := LMc60.out; omega); intro v265 w78 ho hb hg hat; rw [← Ny264.out] at ho; have n0_ := Aside0.mk (Kd.R_after (ok := (fun k_ => some k_ ≠ (.slice Ao79 y251.length co79 : Value).ownBlock)) (by (with_reducible repeat apply Kd.R_alloc); exact HO_7.out) hg hat); have n1_ := Aside0.mk (IsS68.grown (by repeat (first | (with_reducible first | exact HI0.out | apply IsS68.alloc | apply IsS68.drewN | apply IsS68.drew | apply IsS68.set_1) | exact HI0.out)) hg (IsS68.own_ne HI0.out HO263.out (by decide))); have n2_ := Aside0.mk (below_weaken (by repeat (first | (with_reducible first | exact HB.out | apply below_alloc | apply pw_below_drewN | apply below_drew1 | refine below_set ?_ (IsS68.ge HI0.out)) | exact HB.out)) HL.out hb); have n3_ := Aside0.mk (KeepBut.trans (by repeat (first | (with_reducible first | exact HK.out | apply KeepBut.set_ | apply keep_drewN | apply keep_drew | apply keep_alloc) | exact HK.out)) (KeepBut.of_grown hg g) (Kd.R_base2 HO263.out)); have n4_ := Aside0.mk ((show Kd.C (Kd.slice 41 k41) w78 (some ad241) y257.length y257 from by rw [Ny257.out]; exact Kd.C_take (m := (t223 : Int).toNat) ((Kd.R_reads' (Kd.R_after (ok := (fun k_ => some k_ ≠ (.slice Ao79 y251.length co79 : Value).ownBlock)) (by (with_reducible repeat apply Kd.R_alloc); exact HO_7.out) hg hat)).2.2) KL76.out)); have n5_ := Aside0.mk (ho); clear HO_7; clear HI0; clear HB; clear HK; clear HR260; clear HO263; clear HO253; have HO_7 := n0_; have HI0 := n1_; have HB := n2_; have HK := n3_; have HR260 := n4_; have HO266 := n5_; clear n0_ n1_ n2_ n3_ n4_ n5_; clear ho hb hg hat; have q80 : ((wrap64 (t223 + 2)) : Int) ≤ ((x7_2.length : Int) : Int) := of_decide_eq_true (by first | (with_reducible assumption) | assumption); obtain ⟨i080, hi080, _, hsz80, _⟩ := info_parts info23; have hroom80 : x7_2.length ≤ co64 := (Kd.R_reads' HO_7.out).2.1; have hC80 : Kd.C (Kd.slice 41 k41) _ (some ad241) x7_2.length x7_2 := (Kd.R_reads' HO_7.out).2.2; have q080 : (0 : Int) ≤ ((wrap64 (t223 + 2)) : Int) := of_decide_eq_true (by first | (with_reducible assumption) | assumption); have hcut80 := cut_from (P := Try.prog) 72 23 .i64 Try.underlying72 hi080 1 hsz80 (some ad241) x7_2.length co64 (wrap64 (t223 + 2)) q080 q80; have hr80 := Kd.C_drop (m := ((wrap64 (t223 + 2)) : Int).toNat) (c := co64) hC80 (by omega) hroom80; obtain ⟨A80, hA80⟩ : ∃ A1, A1 = (if co64 = ((wrap64 (t223 + 2)) : Int).toNat then (some ad241) else ((some ad241) : Option Addr).map (·.add (((wrap64 (t223 + 2)) : Int).toNat * 1))) := ⟨_, rfl⟩; obtain ⟨c80, hc80⟩ : ∃ c1, c1 = co64 - ((wrap64 (t223 + 2)) : Int).toNat := ⟨_, rfl⟩; have hy80 : y267.length = x7_2.length - ((wrap64 (t223 + 2)) : Int).toNat := (by rw [Ny267.out, List.length_drop] <;> omega); rw [show (x7_2).drop ((wrap64 (t223 + 2)) : Int).toNat = y267 from Ny267.out.symm] at hr80; replace hr80 : Kd.C (Kd.slice 41 k41) _ A80 y267.length y267 := (by rw [hA80]; exact hr80); rw [← hy80, ← hA80, ← hc80] at hcut80; have HR270 := Aside0.mk hr80; have HC270 := Aside0.mk (show y267.length ≤ c80 from by rw [hy80, hc80]; exact Nat.sub_le_sub_right hroom80 _); clear hr80 hC80 hroom80 hi080 hsz80 hc80; have KY80 := Aside0.mk hy80; have KA80 := Aside0.mk hA80; clear hy80 hA80; have KL80 := Aside0.mk (show ((wrap64 (t223 + 2)) : Int).toNat ≤ x7_2.length from by omega); replace q80 := eq_true q80) | ((with_reducible refine gate_builtin (b := .append) (xs := #[.tmp 101, .tmp 105]) rfl ?_); at_builtin; refine Kd.R_append_rows (Kd.slice 41 k41) w.heap.size rfl (.tmp 101) (.tmp 105) 72 23 (.slice none 0 0) 24 rfl Try.underlying72 info23 rfl (by decide) (by omega) v265 y264 y267 _ _ _ (fun k_ => some k_ ≠ (.slice (some ad241) x7_2.length co64 : Value).ownBlock) (fun k_ => ((fun k_ => some k_ ≠ (.slice (some ad241) x7_2.length co64 : Value).ownBlock)) k_ ∧ some k_ ≠ (v265 : Value).ownBlock) rfl rfl ?aO ?aR (fun _ _ h => h) (fun _ hk => hk) ?aF (Below.refl _ _) ?aS ?aL ?_; (case aR => rw [Ny267.out, KA80.out]; exact Kd.C_drop (m := ((wrap64 (t223 + 2)) : Int).toNat) (c := co64) (Kd.R_frozen (okp := (fun k_ => ((fun k_ => some k_ ≠ (.slice (some ad241) x7_2.length co64 : Value).ownBlock)) k_ ∧ some k_ ≠ (v265 : Value).ownBlock)) (HO_7.out) (fun k_ hk => ⟨hk.2, hk.1.2⟩)).2.2 KL80.out (Kd.R_frozen (okp := (fun k_ => ((fun k_ => some k_ ≠ (.slice (some ad241) x7_2.length co64 : Value).ownBlock)) k_ ∧ some k_ ≠ (v265 : Value).ownBlock)) (HO_7.out) (fun k_ hk => ⟨hk.2, hk.1.2⟩)).2.1); (case aF => exact (fun k_ hk => Kd.fresh' (Kd.R_lt (by (with_reducible repeat apply Kd.R_alloc); exact HO_7.out)) k_ hk)); (case aO => exact (by (with_reducible repeat apply Kd.R_alloc); exact HO266.out)); (case aS => exact (keep_size (w := w) (g := g) (row := none) (by repeat (first | (with_reducible first | exact HK.out | apply KeepBut.set_ | apply keep_drewN | apply keep_drew | apply keep_alloc) | exact HK.out)))); (case aL => have := LMc63.out; omega); intro v272 w81 ho hb hg hat; rw [← Ny271.out] at ho; have n0_ := Aside0.mk (Kd.R_after (ok := (fun _ => True)) (by (with_reducible repeat apply Kd.R_alloc); exact Kd.R_mono HO_7.out (fun _ hk => ⟨trivial, hk.2⟩)) hg hat); have n1_ := Aside0.mk (IsS68.grown (by repeat (first | (with_reducible first | exact HI0.out | apply IsS68.alloc | apply IsS68.drewN | apply IsS68.drew | apply IsS68.set_1) | exact HI0.out)) hg (IsS68.own_ne HI0.out HO266.out (by decide))); have n2_ := Aside0.mk (below_weaken (by repeat (first | (with_reducible first | exact HB.out | apply below_alloc | apply pw_below_drewN | apply below_drew1 | refine below_set ?_ (IsS68.ge HI0.out)) | exact HB.out)) HL.out hb); have n3_ := Aside0.mk (KeepBut.trans (by repeat (first | (with_reducible first | exact HK.out | apply KeepBut.set_ | apply keep_drewN | apply keep_drew | apply keep_alloc) | exact HK.out)) (KeepBut.of_grown hg g) (Kd.R_base2 HO266.out)); have n4_ := Aside0.mk ((show Kd.C (Kd.slice 41 k41) w81 (some ad241) y257.length y257 from by rw [Ny257.out]; exact Kd.C_take (m := (t223 : Int).toNat) ((Kd.R_reads' (Kd.R_after (ok := (fun _ => True)) (by (with_reducible repeat apply Kd.R_alloc); exact Kd.R_mono HO_7.out (fun _ hk => ⟨trivial, hk.2⟩)) hg hat)).2.2) KL76.out)); have n5_ := Aside0.mk ((show Kd.C (Kd.slice 41 k41) w81 A80 y267.length y267 from by rw [Ny267.out, KA80.out]; exact Kd.C_drop (m := ((wrap64 (t223 + 2)) : Int).toNat) (c := co64) ((Kd.R_reads' (Kd.R_after (ok := (fun _ => True)) (by (with_reducible repeat apply Kd.R_alloc); exact Kd.R_mono HO_7.out (fun _ hk => ⟨trivial, hk.2⟩)) hg hat)).2.2) KL80.out ((Kd.R_reads' (Kd.R_after (ok := (fun _ => True)) (by (with_reducible repeat apply Kd.R_alloc); exact Kd.R_mono HO_7.out (fun _ hk => ⟨trivial, hk.2⟩)) hg hat)).2.1))); have n6_ := Aside0.mk (ho); clear HO_7; clear HI0; clear HB; clear HK; clear HR260; clear HR270; clear HO266; have HO_7 := n0_; have HI0 := n1_; have HB := n2_; have HK := n3_; have HR260 := n4_; have HR270 := n5_; have HO273 := n6_; clear n0_ n1_ n2_ n3_ n4_ n5_ n6_; clear ho hb hg hat))
                      go_roundg k2
                      case measure => have := HK1.out; have := HK2.out; omega
                      case rel => exact ⟨(y271), (x9_2), (t250), (by first | rfl | (simp; done) | (simp [*]; done)), H', ⟨by have := HK1.out; have := HK2.out; omega⟩, ⟨by (with_reducible repeat apply Kd.R_alloc); exact Kd.R_mono HO273.out (fun _ hk => trivial)⟩, ⟨by repeat (first | (with_reducible first | exact HI0.out | apply IsS68.alloc | apply IsS68.drewN | apply IsS68.drew | apply IsS68.set_1) | exact HI0.out)⟩, ⟨by repeat (first | (with_reducible first | exact HK.out | apply KeepBut.set_ | apply keep_drewN | apply keep_drew | apply keep_alloc) | exact HK.out)⟩, ⟨by repeat (first | (with_reducible first | exact HB.out | apply below_alloc | apply pw_below_drewN | apply below_drew1 | refine below_set ?_ (IsS68.ge HI0.out)) | exact HB.out)⟩⟩
                     ·rw [if_neg c63] at H
                      exact absurd H (by simp)
                    ·rw [if_neg c62] at H
                     exact absurd H (by simp)
                   ·rw [if_neg c61] at H
                    exact absurd H (by simp)
                  ·rw [if_neg c60] at H
                   exact absurd H (by simp)
                 ·rw [if_neg c59] at H
                  exact absurd H (by simp)
                ·rw [if_neg c58] at H
                 exact absurd H (by simp)
               ·rw [if_neg c56] at H
                exact absurd H (by simp)
              ·rw [if_neg c54] at H
               exact absurd H (by simp)
             ·rw [if_neg c53] at H
              exact absurd H (by simp)
            ·rw [if_neg c52] at H
             exact absurd H (by simp)
           ·rw [if_neg c50] at H
            exact absurd H (by simp)
          ·rw [if_neg c49] at H
           exact absurd H (by simp)
         ·rw [if_neg c48] at H
          exact absurd H (by simp)
       ·rw [if_neg c31] at H
        have c31b0 : decide (0 < x9_2) = false := decide_eq_false c31
        clear c31
        obtain ⟨y274, hy274⟩ : ∃ y_ : List (S41), y_ = (([] : List (S41))) := ⟨_, rfl⟩
        replace H : (if 0 ≤ t223 then (if t223 < (x7_2.length : Int) then (if y274.length + (rd_L4 x7_2 t223).length < 8796093022208 then ((some (y274 ++ (rd_L4 x7_2 t223) : List (S41))).bind fun y278 => (if 0 ≤ (wrap64 (t223 + 1)) then (if (wrap64 (t223 + 1)) < (x7_2.length : Int) then (if y278.length + (rd_L4 x7_2 (wrap64 (t223 + 1))).length < 8796093022208 then ((some (y278 ++ (rd_L4 x7_2 (wrap64 (t223 + 1))) : List (S41))).bind fun y282 => ((spec_l20Rd_pick.f k2 s0_0 t224 3).bind fun bt285 => (if y282.length < 8796093022208 then ((some (([] : List (List (S41))) : List (List (S41)))).bind fun y290 => (if t223 ≤ (x7_2.length : Int) then ((some (x7_2.take (t223 : Int).toNat : List (List (S41)))).bind fun y293 => (if y290.length + y293.length < 5864062014805 then ((some (y290 ++ y293 : List (List (S41)))).bind fun y297 => (if y297.length < 5864062014805 then ((some (y297 ++ [(y282 ++ [(⟨wrap64 (3 + bt285.1), 0⟩ : S41)])] : List (List (S41)))).bind fun y300 => (if 0 ≤ (wrap64 (t223 + 2)) then (if (wrap64 (t223 + 2)) ≤ (x7_2.length : Int) then ((some (x7_2.drop ((wrap64 (t223 + 2)) : Int).toNat : List (List (S41)))).bind fun y303 => (if y300.length + y303.length < 5864062014805 then (spec_l20Term.l1 k2 a2 (y300 ++ y303) x9_2 s0_0 bt285.2) else (none))) else (none)) else (none))) else (none))) else (none))) else (none))) else (none)))) else (none)) else (none)) else (none))) else (none)) else (none)) else (none)) = some (r1, r2) := by first | (rw [hy274]; with_reducible exact H) | (have H2_ := (Option.bind_some _ _).symm.trans H; rw [hy274]; with_reducible exact H2_) | (have H2_ := (Option.bind_some _ _).symm.trans H; with_reducible exact H2_) | with_reducible exact H | (rw [hy274]; exact H) | exact H
        have Ny274 := Aside0.mk hy274
        clear hy274
        by_cases c82 : 0 ≤ t223
        ·rw [if_pos c82] at H
         have c82b0 : decide (0 ≤ t223) = true := decide_eq_true c82
         clear c82
         by_cases c83 : t223 < (x7_2.length : Int)
         ·rw [if_pos c83] at H
          have c83b0 : decide (t223 < (x7_2.length : Int)) = true := decide_eq_true c83
          clear c83
          by_cases c84 : y274.length + (rd_L4 x7_2 t223).length < 8796093022208
          ·rw [if_pos c84] at H
           have LMc84 := Aside0.mk c84
           clear c84
           obtain ⟨y278, hy278⟩ : ∃ y_ : List (S41), y_ = (y274 ++ (rd_L4 x7_2 t223)) := ⟨_, rfl⟩
           replace H : (if 0 ≤ (wrap64 (t223 + 1)) then (if (wrap64 (t223 + 1)) < (x7_2.length : Int) then (if y278.length + (rd_L4 x7_2 (wrap64 (t223 + 1))).length < 8796093022208 then ((some (y278 ++ (rd_L4 x7_2 (wrap64 (t223 + 1))) : List (S41))).bind fun y282 => ((spec_l20Rd_pick.f k2 s0_0 t224 3).bind fun bt285 => (if y282.length < 8796093022208 then ((some (([] : List (List (S41))) : List (List (S41)))).bind fun y290 => (if t223 ≤ (x7_2.length : Int) then ((some (x7_2.take (t223 : Int).toNat : List (List (S41)))).bind fun y293 => (if y290.length + y293.length < 5864062014805 then ((some (y290 ++ y293 : List (List (S41)))).bind fun y297 => (if y297.length < 5864062014805 then ((some (y297 ++ [(y282 ++ [(⟨wrap64 (3 + bt285.1), 0⟩ : S41)])] : List (List (S41)))).bind fun y300 => (if 0 ≤ (wrap64 (t223 + 2)) then (if (wrap64 (t223 + 2)) ≤ (x7_2.length : Int) then ((some (x7_2.drop ((wrap64 (t223 + 2)) : Int).toNat : List (List (S41)))).bind fun y303 => (if y300.length + y303.length < 5864062014805 then (spec_l20Term.l1 k2 a2 (y300 ++ y303) x9_2 s0_0 bt285.2) else (none))) else (none)) else (none))) else (none))) else (none))) else (none))) else (none)))) else (none)) else (none)) else (none)) = some (r1, r2) := by first | (rw [hy278]; with_reducible exact H) | (have H2_ := (Option.bind_some _ _).symm.trans H; rw [hy278]; with_reducible exact H2_) | (have H2_ := (Option.bind_some _ _).symm.trans H; with_reducible exact H2_) | with_reducible exact H | (rw [hy278]; exact H) | exact H
           have Ny278 := Aside0.mk hy278
           clear hy278
           obtain ⟨ji85, hji85⟩ : ∃ j_ : Int, (wrap64 (t223 + 1)) = j_ := ⟨_, rfl⟩
           replace H : (if 0 ≤ (ji85) then (if (ji85) < (x7_2.length : Int) then (if y278.length + (rd_L4 x7_2 (ji85)).length < 8796093022208 then ((some (y278 ++ (rd_L4 x7_2 (ji85)) : List (S41))).bind fun y282 => ((spec_l20Rd_pick.f k2 s0_0 t224 3).bind fun bt285 => (if y282.length < 8796093022208 then ((some (([] : List (List (S41))) : List (List (S41)))).bind fun y290 => (if t223 ≤ (x7_2.length : Int) then ((some (x7_2.take (t223 : Int).toNat : List (List (S41)))).bind fun y293 => (if y290.length + y293.length < 5864062014805 then ((some (y290 ++ y293 : List (List (S41)))).bind fun y297 => (if y297.length < 5864062014805 then ((some (y297 ++ [(y282 ++ [(⟨wrap64 (3 + bt285.1), 0⟩ : S41)])] : List (List (S41)))).bind fun y300 => (if 0 ≤ (wrap64 (t223 + 2)) then (if (wrap64 (t223 + 2)) ≤ (x7_2.length : Int) then ((some (x7_2.drop ((wrap64 (t223 + 2)) : Int).toNat : List (List (S41)))).bind fun y303 => (if y300.length + y303.length < 5864062014805 then (spec_l20Term.l1 k2 a2 (y300 ++ y303) x9_2 s0_0 bt285.2) else (none))) else (none)) else (none))) else (none))) else (none))) else (none))) else (none)))) else (none)) else (none)) else (none)) = some (r1, r2) := by first | (rw [hji85] at H; exact H) | (simp only [hji85] at H ⊢; exact H)
           (try rw [hji85] at A30)
           have hji85w : (IntKind.i64.wrap (t223 + 1)) = ji85 := (i64_w _).trans hji85
           by_cases c86 : 0 ≤ (ji85)
           ·rw [if_pos c86] at H
            have c86b0 : decide (0 ≤ (ji85)) = true := decide_eq_true c86
            clear c86
            by_cases c87 : (ji85) < (x7_2.length : Int)
            ·rw [if_pos c87] at H
             have c87b0 : decide ((ji85) < (x7_2.length : Int)) = true := decide_eq_true c87
             clear c87
             by_cases c88 : y278.length + (rd_L4 x7_2 (ji85)).length < 8796093022208
             ·rw [if_pos c88] at H
              have LMc88 := Aside0.mk c88
              clear c88
              obtain ⟨y282, hy282⟩ : ∃ y_ : List (S41), y_ = (y278 ++ (rd_L4 x7_2 (ji85))) := ⟨_, rfl⟩
              replace H : ((spec_l20Rd_pick.f k2 s0_0 t224 3).bind fun bt285 => (if y282.length < 8796093022208 then ((some (([] : List (List (S41))) : List (List (S41)))).bind fun y290 => (if t223 ≤ (x7_2.length : Int) then ((some (x7_2.take (t223 : Int).toNat : List (List (S41)))).bind fun y293 => (if y290.length + y293.length < 5864062014805 then ((some (y290 ++ y293 : List (List (S41)))).bind fun y297 => (if y297.length < 5864062014805 then ((some (y297 ++ [(y282 ++ [(⟨wrap64 (3 + bt285.1), 0⟩ : S41)])] : List (List (S41)))).bind fun y300 => (if 0 ≤ (wrap64 (t223 + 2)) then (if (wrap64 (t223 + 2)) ≤ (x7_2.length : Int) then ((some (x7_2.drop ((wrap64 (t223 + 2)) : Int).toNat : List (List (S41)))).bind fun y303 => (if y300.length + y303.length < 5864062014805 then (spec_l20Term.l1 k2 a2 (y300 ++ y303) x9_2 s0_0 bt285.2) else (none))) else (none)) else (none))) else (none))) else (none))) else (none))) else (none))) = some (r1, r2) := by first | (rw [hy282]; with_reducible exact H) | (have H2_ := (Option.bind_some _ _).symm.trans H; rw [hy282]; with_reducible exact H2_) | (have H2_ := (Option.bind_some _ _).symm.trans H; with_reducible exact H2_) | with_reducible exact H | (rw [hy282]; exact H) | exact H
              have Ny282 := Aside0.mk hy282
              clear hy282
              replace H := Option.bind_eq_some_iff.mp H
              obtain ⟨⟨t285, t286⟩, A890, H⟩ := H
              replace H : (if y282.length < 8796093022208 then ((some (([] : List (List (S41))) : List (List (S41)))).bind fun y290 => (if t223 ≤ (x7_2.length : Int) then ((some (x7_2.take (t223 : Int).toNat : List (List (S41)))).bind fun y293 => (if y290.length + y293.length < 5864062014805 then ((some (y290 ++ y293 : List (List (S41)))).bind fun y297 => (if y297.length < 5864062014805 then ((some (y297 ++ [(y282 ++ [(⟨wrap64 (3 + t285), 0⟩ : S41)])] : List (List (S41)))).bind fun y300 => (if 0 ≤ (wrap64 (t223 + 2)) then (if (wrap64 (t223 + 2)) ≤ (x7_2.length : Int) then ((some (x7_2.drop ((wrap64 (t223 + 2)) : Int).toNat : List (List (S41)))).bind fun y303 => (if y300.length + y303.length < 5864062014805 then (spec_l20Term.l1 k2 a2 (y300 ++ y303) x9_2 s0_0 t286) else (none))) else (none)) else (none))) else (none))) else (none))) else (none))) else (none)) = some (r1, r2) := H
              have A89 := Aside0.mk A890
              clear A890
              by_cases c90 : y282.length < 8796093022208
              ·rw [if_pos c90] at H
               have LMc90 := Aside0.mk c90
               clear c90
               obtain ⟨y287, hy287⟩ : ∃ y_ : List (S41), y_ = (y282 ++ [(⟨wrap64 (3 + t285), 0⟩ : S41)]) := ⟨_, rfl⟩
               replace H : ((some (([] : List (List (S41))) : List (List (S41)))).bind fun y290 => (if t223 ≤ (x7_2.length : Int) then ((some (x7_2.take (t223 : Int).toNat : List (List (S41)))).bind fun y293 => (if y290.length + y293.length < 5864062014805 then ((some (y290 ++ y293 : List (List (S41)))).bind fun y297 => (if y297.length < 5864062014805 then ((some (y297 ++ [y287] : List (List (S41)))).bind fun y300 => (if 0 ≤ (wrap64 (t223 + 2)) then (if (wrap64 (t223 + 2)) ≤ (x7_2.length : Int) then ((some (x7_2.drop ((wrap64 (t223 + 2)) : Int).toNat : List (List (S41)))).bind fun y303 => (if y300.length + y303.length < 5864062014805 then (spec_l20Term.l1 k2 a2 (y300 ++ y303) x9_2 s0_0 t286) else (none))) else (none)) else (none))) else (none))) else (none))) else (none))) = some (r1, r2) := by first | (rw [hy287]; with_reducible exact H) | (have H2_ := (Option.bind_some _ _).symm.trans H; rw [hy287]; with_reducible exact H2_) | (have H2_ := (Option.bind_some _ _).symm.trans H; with_reducible exact H2_) | with_reducible exact H | (rw [hy287]; exact H) | exact H
               have Ny287 := Aside0.mk hy287
               clear hy287
               obtain ⟨y290, hy290⟩ : ∃ y_ : List (List (S41)), y_ = (([] : List (List (S41)))) := ⟨_, rfl⟩
               replace H : (if t223 ≤ (x7_2.length : Int) then ((some (x7_2.take (t223 : Int).toNat : List (List (S41)))).bind fun y293 => (if y290.length + y293.length < 5864062014805 then ((some (y290 ++ y293 : List (List (S41)))).bind fun y297 => (if y297.length < 5864062014805 then ((some (y297 ++ [y287] : List (List (S41)))).bind fun y300 => (if 0 ≤ (wrap64 (t223 + 2)) then (if (wrap64 (t223 + 2)) ≤ (x7_2.length : Int) then ((some (x7_2.drop ((wrap64 (t223 + 2)) : Int).toNat : List (List (S41)))).bind fun y303 => (if y300.length + y303.length < 5864062014805 then (spec_l20Term.l1 k2 a2 (y300 ++ y303) x9_2 s0_0 t286) else (none))) else (none)) else (none))) else (none))) else (none))) else (none)) = some (r1, r2) := by first | (rw [hy290]; with_reducible exact H) | (have H2_ := (Option.bind_some _ _).symm.trans H; rw [hy290]; with_reducible exact H2_) | (have H2_ := (Option.bind_some _ _).symm.trans H; with_reducible exact H2_) | with_reducible exact H | (rw [hy290]; exact H) | exact H
               have Ny290 := Aside0.mk hy290
               clear hy290
               have c91b0 := eq_true (of_decide_eq_true (by first | (with_reducible assumption) | assumption) : 0 ≤ t223)
               by_cases c92 : t223 ≤ (x7_2.length : Int)
               ·rw [if_pos c92] at H
                have c92b0 := eq_true c92
                have c92b1 : decide (t223 ≤ (x7_2.length : Int)) = true := decide_eq_true c92
                clear c92
                obtain ⟨y293, hy293⟩ : ∃ y_ : List (List (S41)), y_ = (x7_2.take (t223 : Int).toNat) := ⟨_, rfl⟩
                replace H : (if y290.length + y293.length < 5864062014805 then ((some (y290 ++ y293 : List (List (S41)))).bind fun y297 => (if y297.length < 5864062014805 then ((some (y297 ++ [y287] : List (List (S41)))).bind fun y300 => (if 0 ≤ (wrap64 (t223 + 2)) then (if (wrap64 (t223 + 2)) ≤ (x7_2.length : Int) then ((some (x7_2.drop ((wrap64 (t223 + 2)) : Int).toNat : List (List (S41)))).bind fun y303 => (if y300.length + y303.length < 5864062014805 then (spec_l20Term.l1 k2 a2 (y300 ++ y303) x9_2 s0_0 t286) else (none))) else (none)) else (none))) else (none))) else (none)) = some (r1, r2) := by first | (rw [hy293]; with_reducible exact H) | (have H2_ := (Option.bind_some _ _).symm.trans H; rw [hy293]; with_reducible exact H2_) | (have H2_ := (Option.bind_some _ _).symm.trans H; with_reducible exact H2_) | with_reducible exact H | (rw [hy293]; exact H) | exact H
                have Ny293 := Aside0.mk hy293
                clear hy293
                by_cases c93 : y290.length + y293.length < 5864062014805
                ·rw [if_pos c93] at H
                 have LMc93 := Aside0.mk c93
                 clear c93
                 obtain ⟨y297, hy297⟩ : ∃ y_ : List (List (S41)), y_ = (y290 ++ y293) := ⟨_, rfl⟩
                 replace H : (if y297.length < 5864062014805 then ((some (y297 ++ [y287] : List (List (S41)))).bind fun y300 => (if 0 ≤ (wrap64 (t223 + 2)) then (if (wrap64 (t223 + 2)) ≤ (x7_2.length : Int) then ((some (x7_2.drop ((wrap64 (t223 + 2)) : Int).toNat : List (List (S41)))).bind fun y303 => (if y300.length + y303.length < 5864062014805 then (spec_l20Term.l1 k2 a2 (y300 ++ y303) x9_2 s0_0 t286) else (none))) else (none)) else (none))) else (none)) = some (r1, r2) := by first | (rw [hy297]; with_reducible exact H) | (have H2_ := (Option.bind_some _ _).symm.trans H; rw [hy297]; with_reducible exact H2_) | (have H2_ := (Option.bind_some _ _).symm.trans H; with_reducible exact H2_) | with_reducible exact H | (rw [hy297]; exact H) | exact H
                 have Ny297 := Aside0.mk hy297
                 clear hy297
                 by_cases c94 : y297.length < 5864062014805
                 ·rw [if_pos c94] at H
                  have LMc94 := Aside0.mk c94
                  clear c94
                  obtain ⟨y300, hy300⟩ : ∃ y_ : List (List (S41)), y_ = (y297 ++ [y287]) := ⟨_, rfl⟩
                  replace H : (if 0 ≤ (wrap64 (t223 + 2)) then (if (wrap64 (t223 + 2)) ≤ (x7_2.length : Int) then ((some (x7_2.drop ((wrap64 (t223 + 2)) : Int).toNat : List (List (S41)))).bind fun y303 => (if y300.length + y303.length < 5864062014805 then (spec_l20Term.l1 k2 a2 (y300 ++ y303) x9_2 s0_0 t286) else (none))) else (none)) else (none)) = some (r1, r2) := by first | (rw [hy300]; with_reducible exact H) | (have H2_ := (Option.bind_some _ _).symm.trans H; rw [hy300]; with_reducible exact H2_) | (have H2_ := (Option.bind_some _ _).symm.trans H; with_reducible exact H2_) | with_reducible exact H | (rw [hy300]; exact H) | exact H
                  have Ny300 := Aside0.mk hy300
                  clear hy300
                  by_cases c95 : 0 ≤ (wrap64 (t223 + 2))
                  ·rw [if_pos c95] at H
                   have c95b0 := eq_true c95
                   have c95b1 : decide (0 ≤ (wrap64 (t223 + 2))) = true := decide_eq_true c95
                   by_cases c96 : (wrap64 (t223 + 2)) ≤ (x7_2.length : Int)
                   ·rw [if_pos c96] at H
                    have c96b0 := eq_true c96
                    have c96b1 : decide ((wrap64 (t223 + 2)) ≤ (x7_2.length : Int)) = true := decide_eq_true c96
                    obtain ⟨y303, hy303⟩ : ∃ y_ : List (List (S41)), y_ = (x7_2.drop ((wrap64 (t223 + 2)) : Int).toNat) := ⟨_, rfl⟩
                    replace H : (if y300.length + y303.length < 5864062014805 then (spec_l20Term.l1 k2 a2 (y300 ++ y303) x9_2 s0_0 t286) else (none)) = some (r1, r2) := by first | (rw [hy303]; with_reducible exact H) | (have H2_ := (Option.bind_some _ _).symm.trans H; rw [hy303]; with_reducible exact H2_) | (have H2_ := (Option.bind_some _ _).symm.trans H; with_reducible exact H2_) | with_reducible exact H | (rw [hy303]; exact H) | exact H
                    have Ny303 := Aside0.mk hy303
                    clear hy303
                    by_cases c97 : y300.length + y303.length < 5864062014805
                    ·rw [if_pos c97] at H
                     have LMc97 := Aside0.mk c97
                     clear c97
                     obtain ⟨y307, hy307⟩ : ∃ y_ : List (List (S41)), y_ = (y300 ++ y303) := ⟨_, rfl⟩
                     replace H : (spec_l20Term.l1 k2 a2 y307 x9_2 s0_0 t286) = some (r1, r2) := by first | (rw [hy307]; with_reducible exact H) | (have H2_ := (Option.bind_some _ _).symm.trans H; rw [hy307]; with_reducible exact H2_) | (have H2_ := (Option.bind_some _ _).symm.trans H; with_reducible exact H2_) | with_reducible exact H | (rw [hy307]; exact H) | exact H
                     have Ny307 := Aside0.mk hy307
                     clear hy307
                     have H' := Aside0.mk H
                     clear H
                     obtain ⟨Ao98, co98, eo98⟩ := Kd.R_slice HO_7.out
                     subst eo98
                     try go_wp2_with (first | ((with_reducible refine gate_callee (f := 64) rfl ?_); refine goesL_ (some 52) rfl rfl Try.func64 (by kernel_rfl) rfl #[.pointer (some ⟨g, 0, none⟩), .int .i64 (wrap64 ((x7_2.length : Int) - 1))] rfl (by (try simp only [List.map_toArray, List.map_cons, List.map_nil]); first | done | rfl | (simp only [List.length_drop, List.length_take]; rfl)) ?_; (with_reducible refine (spec_l20Rd_pick.calls k2 g s0_0 x1001_2 (wrap64 ((x7_2.length : Int) - 1)) t223 t224 w0 _ ?side1 ?side2 A30.out).mono ?_); (case side1 => repeat (first | (with_reducible first | exact HI0.out | apply IsS68.alloc | apply IsS68.drewN | apply IsS68.drew | apply IsS68.set_1) | exact HI0.out)); (case side2 => repeat (first | (with_reducible first | exact HB.out | apply below_alloc | apply pw_below_drewN | apply below_drew1 | refine below_set ?_ (IsS68.ge HI0.out)) | exact HB.out)); rintro e w99 ⟨rfl, hi, hb, hk⟩; refine ⟨_, rfl, ?_⟩; have n0_ := Aside0.mk (Kd.R_mono (Kd.R_keep (IsS68.apart (show IsS68 w0 _ g s0_0 x1001_2 from by repeat (first | (with_reducible first | exact HI0.out | apply IsS68.alloc | apply IsS68.drewN | apply IsS68.drew | apply IsS68.set_1) | exact HI0.out)) (by (with_reducible repeat apply Kd.R_alloc); exact HO_7.out) (by decide)) hk (fun _ h => h.2)) (fun _ h => h.1)); have n1_ := Aside0.mk (KeepBut.trans (by repeat (first | (with_reducible first | exact HK.out | apply KeepBut.set_ | apply keep_drewN | apply keep_drew | apply keep_alloc) | exact HK.out)) hk (.inl rfl)); have n2_ := Aside0.mk (hb); have n3_ := Aside0.mk (hi); clear HO_7; clear HK; clear HB; clear HI0; have HO_7 := n0_; have HK := n1_; have HB := n2_; have HI0 := n3_; clear n0_ n1_ n2_ n3_; (try clear hb); (try clear hb2); (try clear hk); (try clear hi)))
                     have n0_ := Aside0.mk (Kd.R_drew HO_7.out)
                     have n1_ := Aside0.mk (IsS68.drew HI0.out)
                     have n2_ := Aside0.mk (keep_drew HK.out)
                     have n3_ := Aside0.mk (below_drew1 HB.out)
                     clear HO_7
                     clear HI0
                     clear HK
                     clear HB
                     have HO_7 := n0_
                     have HI0 := n1_
                     have HK := n2_
                     have HB := n3_
                     clear n0_ n1_ n2_ n3_
                     have p277 : 0 ≤ (t223 : Int) := of_decide_eq_true (by first | (with_reducible assumption) | assumption)
                     have q277 : t223 < (x7_2.length : Int) := of_decide_eq_true (by first | (with_reducible assumption) | assumption)
                     obtain ⟨ad277, A277_0, c277_0, e277, hx277_0, hl277_0, hi277_0⟩ := at_L4 (Kd.R_reads' HO_7.out).2.2 t223 p277 q277
                     cases e277
                     obtain ⟨ce277, hce277, hMe277, hcc277⟩ := Kd.R_get HO_7.out [] t223 p277 (by first | exact q277 | exact of_decide_eq_true (by first | (with_reducible assumption) | assumption) | (have e_ := (Kd.R_reads' HO_7.out).1; omega))
                     obtain ⟨ve277_0, rfl, ge277_0⟩ := hMe277
                     have hv277_0 := hcc277 0 _ rfl
                     rw [Nat.add_zero, show ((Kd.slice 41 k41)).sz = 1 from rfl, Nat.mul_one] at hv277_0
                     replace hv277_0 := Option.some.inj (hv277_0.symm.trans hx277_0)
                     rw [hv277_0] at ge277_0
                     have HL277_0 := Aside0.mk (show Kd.R k41 41 _ _ _ _ (rd_L4 x7_2 t223) from ge277_0)
                     clear hv277_0 ge277_0
                     clear hcc277 hce277
                     have HR277_0 := Aside0.mk hi277_0
                     have HC277_0 := Aside0.mk hl277_0
                     clear hi277_0 hl277_0
                     replace p277 := eq_true p277
                     replace q277 := eq_true q277
                     have p281 : 0 ≤ ((ji85) : Int) := of_decide_eq_true (by first | (with_reducible assumption) | assumption)
                     have q281 : (ji85) < (x7_2.length : Int) := of_decide_eq_true (by first | (with_reducible assumption) | assumption)
                     obtain ⟨ad281, A281_0, c281_0, e281, hx281_0, hl281_0, hi281_0⟩ := at_L4 (Kd.R_reads' HO_7.out).2.2 (ji85) p281 q281
                     obtain rfl : ad277 = ad281 := (by injection e281)
                     obtain ⟨ce281, hce281, hMe281, hcc281⟩ := Kd.R_get HO_7.out [] (ji85) p281 (by first | exact q281 | exact of_decide_eq_true (by first | (with_reducible assumption) | assumption) | (have e_ := (Kd.R_reads' HO_7.out).1; omega))
                     obtain ⟨ve281_0, rfl, ge281_0⟩ := hMe281
                     have hv281_0 := hcc281 0 _ rfl
                     rw [Nat.add_zero, show ((Kd.slice 41 k41)).sz = 1 from rfl, Nat.mul_one] at hv281_0
                     replace hv281_0 := Option.some.inj (hv281_0.symm.trans hx281_0)
                     rw [hv281_0] at ge281_0
                     have HL281_0 := Aside0.mk (show Kd.R k41 41 _ _ _ _ (rd_L4 x7_2 (ji85)) from ge281_0)
                     clear hv281_0 ge281_0
                     clear hcc281 hce281
                     have HR281_0 := Aside0.mk hi281_0
                     have HC281_0 := Aside0.mk hl281_0
                     clear hi281_0 hl281_0
                     replace p281 := eq_true p281
                     replace q281 := eq_true q281
                     refine start_ (n := 19) (S := fun w' => w'.cell? (ad277.add (t223).toNat) = some (.slice A277_0 (rd_L4 x7_2 t223).length c277_0) ∧ w'.cell? (ad277.add ((ji85)).toNat) = some (.slice A281_0 (rd_L4 x7_2 (ji85)).length c281_0)) (ds := [16]) #[false, false, false, false, false, false, false, false, false, false, false, false, false, false, false, false, false, false, false] (by kernel_rfl) rfl rfl ⟨hx277_0, hx281_0⟩ (fun hHeld => ?_); refine with_tabW spec_l20Term.tab15 spec_l20Term.bits15 (fun HT_ HW_ => ?_)
                     generalize w99.drew = w100 at HO_7 HI0 HK HB HL277_0 HL281_0 HR277_0 HR281_0 hx277_0 hx281_0 hHeld ⊢
                     refine pure_ (i := 1) (N := some 75) (v := ?_) (a' := ?_) #[false, true, false, false, false, false, false, false, false, false, false, false, false, false, false, false, false, false, false] rfl rfl (any_of HT_.out (by kernel_rfl)) (fun _ _ _ h => h) (Or.inl ⟨by rfl, ?_⟩) ?_ ?_
                     rotate_left
                     ·intro w'
                      go_simp
                      with_reducible rfl
                     rotate_left
                     ·simp only [Act.put, List.setIfInBounds_toArray, List.set_cons_zero, List.set_cons_succ, i64_w, i32_w]
                      rfl
                     refine pure_ (i := 2) (N := some 76) (v := ?_) (a' := ?_) #[false, true, true, false, false, false, false, false, false, false, false, false, false, false, false, false, false, false, false] rfl rfl (any_of HT_.out (by kernel_rfl)) (fun _ _ _ h => h) (Or.inl ⟨by rfl, ?_⟩) ?_ ?_
                     rotate_left
                     ·intro w'
                      go_simp
                      with_reducible rfl
                     rotate_left
                     ·simp only [Act.put, List.setIfInBounds_toArray, List.set_cons_zero, List.set_cons_succ, i64_w, i32_w]
                      rfl
                     refine pure_ (i := 3) (N := some 77) (v := ?_) (a' := ?_) #[false, true, true, true, false, false, false, false, false, false, false, false, false, false, false, false, false, false, false] rfl rfl (any_of HT_.out (by kernel_rfl)) (fun _ _ _ h => h) (Or.inl ⟨by rfl, ?_⟩) ?_ ?_
                     rotate_left
                     ·intro w'
                      go_simp
                      with_reducible rfl
                     rotate_left
                     ·simp only [Act.put, List.setIfInBounds_toArray, List.set_cons_zero, List.set_cons_succ, i64_w, i32_w]
                      rfl
                     refine pure_ (i := 6) (N := some 80) (v := ?_) (a' := ?_) #[false, true, true, true, false, false, true, false, false, false, false, false, false, false, false, false, false, false, false] rfl rfl (any_of HT_.out (by kernel_rfl)) (fun _ _ _ h => h) (Or.inl ⟨by rfl, ?_⟩) ?_ ?_
                     rotate_left
                     ·intro w'
                      go_simp
                      with_reducible rfl
                     rotate_left
                     ·simp only [Act.put, List.setIfInBounds_toArray, List.set_cons_zero, List.set_cons_succ, i64_w, i32_w]
                      rfl
                     refine pure_ (i := 7) (N := some 81) (v := ?_) (a' := ?_) #[false, true, true, true, false, false, true, true, false, false, false, false, false, false, false, false, false, false, false] rfl rfl (any_of HT_.out (by kernel_rfl)) (fun _ _ _ h => h) (Or.inl ⟨by rfl, ?_⟩) ?_ ?_
                     rotate_left
                     ·intro w'
                      go_simp
                      with_reducible rfl
                     rotate_left
                     ·simp only [Act.put, List.setIfInBounds_toArray, List.set_cons_zero, List.set_cons_succ, i64_w, i32_w]
                      rfl
                     refine pure_ (i := 8) (N := some 82) (v := ?_) (a' := ?_) #[false, true, true, true, false, false, true, true, true, false, false, false, false, false, false, false, false, false, false] rfl rfl (any_of HT_.out (by kernel_rfl)) (fun _ _ _ h => h) (Or.inl ⟨by rfl, ?_⟩) ?_ ?_
                     rotate_left
                     ·intro w'
                      go_simp
                      with_reducible rfl
                     rotate_left
                     ·simp only [Act.put, List.setIfInBounds_toArray, List.set_cons_zero, List.set_cons_succ, i64_w, i32_w]
                      rfl
                     refine pure_ (i := 9) (N := some 83) (v := ?_) (a' := ?_) #[false, true, true, true, false, false, true, true, true, true, false, false, false, false, false, false, false, false, false] rfl rfl (any_of HT_.out (by kernel_rfl)) (fun _ _ _ h => h) (Or.inl ⟨by rfl, ?_⟩) ?_ ?_
                     rotate_left
                     ·intro w'
                      go_simp
                      with_reducible rfl
                     rotate_left
                     ·simp only [Act.put, List.setIfInBounds_toArray, List.set_cons_zero, List.set_cons_succ, i64_w, i32_w]
                      rfl
                     refine pure_ (i := 12) (N := some 86) (v := ?_) (a' := ?_) #[false, true, true, true, false, false, true, true, true, true, false, false, true, false, false, false, false, false, false] rfl rfl (any_of HT_.out (by kernel_rfl)) (fun _ _ _ h => h) (Or.inl ⟨by rfl, ?_⟩) ?_ ?_
                     rotate_left
                     ·intro w'
                      go_simp
                      with_reducible rfl
                     rotate_left
                     ·simp only [Act.put, List.setIfInBounds_toArray, List.set_cons_zero, List.set_cons_succ, i64_w, i32_w]
                      rfl
                     refine take_ (i := 4) (N := some 78) (v := ?_) (a' := ?_) #[false, true, true, true, true, false, true, true, true, true, false, false, true, false, false, false, false, false, false] rfl rfl (take_ofW HT_.out HW_.out (by kernel_rfl)) (fun _ _ _ h => h) (Or.inl ⟨by rfl, ?_⟩) hHeld ?_ ?_
                     rotate_left
                     ·rintro w' ⟨s0, s1⟩
                      go_simp
                      with_reducible rfl
                     rotate_left
                     ·simp only [Act.put, List.setIfInBounds_toArray, List.set_cons_zero, List.set_cons_succ, i64_w, i32_w]
                      rfl
                     refine take_ (i := 10) (N := some 84) (v := ?_) (a' := ?_) #[false, true, true, true, true, false, true, true, true, true, true, false, true, false, false, false, false, false, false] rfl rfl (take_ofW HT_.out HW_.out (by kernel_rfl)) (fun _ _ _ h => h) (Or.inl ⟨by rfl, ?_⟩) hHeld ?_ ?_
                     rotate_left
                     ·rintro w' ⟨s0, s1⟩
                      go_simp
                      with_reducible rfl
                     rotate_left
                     ·simp only [Act.put, List.setIfInBounds_toArray, List.set_cons_zero, List.set_cons_succ, i64_w, i32_w]
                      rfl
                     refine one_ (i := 0) (N := some 74) #[true, true, true, true, true, false, true, true, true, true, true, false, true, false, false, false, false, false, false] rfl rfl (one_of HT_.out (by kernel_rfl)) (by decide) (fun K hK => ?_)
                     refine Kd.R_lit_step k41 _ 41 ?hg (N := 74) ?hd (xs := ([] : List (S41))) (inner := []) (ok := fun _ => True) (okp := fun _ => True) ?hr ?hp (fun _ hk => hk) trivial (Below.refl _ _) (Nat.le_refl _) (by simp) ?_; (case hd => rfl); (case hg => rfl); (case hr => first | (go_simp; done) | (go_simp; rfl)); (case hp => exact (Reps.none _ _))
                     intro v275 w101 ho102 hb hg_ hnew_
                     have HS0_ := (hb.cell (World.block_lt_of_cell? _ _ (hHeld.1))).trans (hHeld.1)
                     have HS1_ := (hb.cell (World.block_lt_of_cell? _ _ (hHeld.2))).trans (hHeld.2)
                     clear hg_ hnew_
                     (first | rw [← Ny274.out] at ho102 | (simp only [Int.reduceToNat] at ho102; rw [← Ny274.out] at ho102))
                     have n0_ := Aside0.mk (Kd.R_elder' (by (with_reducible repeat apply Kd.R_alloc); exact HO_7.out) (Kd.R_base ho102) hb)
                     have n1_ := Aside0.mk (Kd.R_elder' (by (with_reducible repeat apply Kd.R_alloc); exact HL277_0.out) (Kd.R_base ho102) hb)
                     have n2_ := Aside0.mk (Kd.R_elder' (by (with_reducible repeat apply Kd.R_alloc); exact HL281_0.out) (Kd.R_base ho102) hb)
                     have n3_ := Aside0.mk (Kd.R_lower (Kd.R_new' (Kd.R_new' ho102 (Kd.R_lt (by (with_reducible repeat apply Kd.R_alloc); exact HL277_0.out))) (Kd.R_lt (by (with_reducible repeat apply Kd.R_alloc); exact HL281_0.out))) (keep_size (w := w) (g := g) (row := none) (by repeat (first | (with_reducible first | exact HK.out | apply KeepBut.set_ | apply keep_drewN | apply keep_drew | apply keep_alloc) | exact HK.out))))
                     have n4_ := Aside0.mk (IsS68.below (by repeat (first | (with_reducible first | exact HI0.out | apply IsS68.alloc | apply IsS68.drewN | apply IsS68.drew | apply IsS68.set_1) | exact HI0.out)) hb)
                     have n5_ := Aside0.mk (Kd.C_below (by repeat (first | (with_reducible exact HR277_0.out) | (with_reducible refine Kd.C_alloc ?_ _) | (with_reducible refine Kd.C_drewN ?_ _) | (with_reducible refine Kd.C_drew ?_) | exact HR277_0.out)) hb)
                     have n6_ := Aside0.mk (Kd.C_below (by repeat (first | (with_reducible exact HR281_0.out) | (with_reducible refine Kd.C_alloc ?_ _) | (with_reducible refine Kd.C_drewN ?_ _) | (with_reducible refine Kd.C_drew ?_) | exact HR281_0.out)) hb)
                     have n7_ := Aside0.mk (KeepBut.trans (by repeat (first | (with_reducible first | exact HK.out | apply KeepBut.set_ | apply keep_drewN | apply keep_drew | apply keep_alloc) | exact HK.out)) (KeepBut.of_below hb g none) (.inl rfl))
                     have n8_ := Aside0.mk (below_step (by repeat (first | (with_reducible first | exact HB.out | apply below_alloc | apply pw_below_drewN | apply below_drew1 | refine below_set ?_ (IsS68.ge HI0.out)) | exact HB.out)) hb)
                     clear HO_7
                     clear HL277_0
                     clear HL281_0
                     clear HI0
                     clear HR277_0
                     clear HR281_0
                     clear HK
                     clear HB
                     have HO_7 := n0_
                     have HL277_0 := n1_
                     have HL281_0 := n2_
                     have HO276 := n3_
                     have HI0 := n4_
                     have HR277_0 := n5_
                     have HR281_0 := n6_
                     have HK := n7_
                     have HB := n8_
                     clear n0_ n1_ n2_ n3_ n4_ n5_ n6_ n7_ n8_
                     clear hb ho102
                     refine hK.out _ _ ⟨HS0_, HS1_⟩ (fun hHeld => ?_)
                     clear hK K
                     refine norm_ (a' := ?_) ?_ ?_
                     rotate_left
                     ·show Act.put _ (some 74) _ = _
                      simp only [Act.put, List.setIfInBounds_toArray, List.set_cons_zero, List.set_cons_succ, i64_w, i32_w]
                      rfl
                     refine one_ (i := 5) (N := some 79) #[true, true, true, true, true, true, true, true, true, true, true, false, true, false, false, false, false, false, false] rfl rfl (one_of HT_.out (by kernel_rfl)) (by decide) (fun K hK => ?_)
                     refine Kd.R_append_rows_step k41 w.heap.size (by rfl) (.tmp 74) (.tmp 78) 23 41 (.agg #[(.int .i64 0), (.int .i64 0)]) 16 rfl Try.underlying23 info41 rfl (by decide) (by omega) v275 y274 (rd_L4 x7_2 t223) _ _ _ (fun k_ => some k_ ≠ (.slice A277_0 (rd_L4 x7_2 t223).length c277_0 : Value).ownBlock ∧ some k_ ≠ (.slice A281_0 (rd_L4 x7_2 (ji85)).length c281_0 : Value).ownBlock) (fun _ => False) rfl rfl ?aO ?aR (fun _ _ h => h) (fun _ h => h.elim) ?aF (Below.refl _ _) ?aS ?aL ?_
                     (case aR => repeat (first | exact (by repeat (first | (with_reducible exact HR277_0.out) | (with_reducible refine Kd.C_alloc ?_ _) | (with_reducible refine Kd.C_drewN ?_ _) | (with_reducible refine Kd.C_drew ?_) | exact HR277_0.out)) | (with_reducible refine Kd.C_alloc ?_ _) | (with_reducible refine Kd.C_drewN ?_ _) | (with_reducible refine Kd.C_drew ?_)))
                     (case aF => exact (fun k_ hk => ⟨Kd.fresh' (Kd.R_lt (by (with_reducible repeat apply Kd.R_alloc); exact HL277_0.out)) k_ hk, Kd.fresh' (Kd.R_lt (by (with_reducible repeat apply Kd.R_alloc); exact HL281_0.out)) k_ hk⟩))
                     (case aO => exact (by (with_reducible repeat apply Kd.R_alloc); exact Kd.R_mono HO276.out (fun _ hk => ⟨hk.1.2, hk.2⟩)))
                     (case aS => exact (keep_size (w := w) (g := g) (row := none) (by repeat (first | (with_reducible first | exact HK.out | apply KeepBut.set_ | apply keep_drewN | apply keep_drew | apply keep_alloc) | exact HK.out))))
                     (case aL => have := LMc84.out; omega)
                     intro v279 w103 ho hb hg hat
                     have HS0_ := cell_grown hg (hHeld.1) (by first | (rw [add_block]; exact ((HO_7.out.1 _ rfl).2)) | (show some (Addr.add _ _).block ≠ _; rw [add_block]; exact ((HO_7.out.1 _ rfl).2)) | exact ((HO_7.out.1 _ rfl).2))
                     have HS1_ := cell_grown hg (hHeld.2) (by first | (rw [add_block]; exact ((HO_7.out.1 _ rfl).2)) | (show some (Addr.add _ _).block ≠ _; rw [add_block]; exact ((HO_7.out.1 _ rfl).2)) | exact ((HO_7.out.1 _ rfl).2))
                     rw [← Ny278.out] at ho
                     have n0_ := Aside0.mk (Kd.R_after (ok := (fun _ => True)) (by (with_reducible repeat apply Kd.R_alloc); exact HO_7.out) hg hat)
                     have n1_ := Aside0.mk (IsS68.grown (by repeat (first | (with_reducible first | exact HI0.out | apply IsS68.alloc | apply IsS68.drewN | apply IsS68.drew | apply IsS68.set_1) | exact HI0.out)) hg (IsS68.own_ne HI0.out HO276.out (by decide)))
                     have n2_ := Aside0.mk (Kd.R_after (ok := (fun k_ => some k_ ≠ (.slice (some ad277) x7_2.length co98 : Value).ownBlock)) (by (with_reducible repeat apply Kd.R_alloc); exact Kd.R_mono HL277_0.out (fun _ hk => ⟨hk.1.2, hk.2⟩)) hg hat)
                     have n3_ := Aside0.mk (Kd.R_after (ok := (fun k_ => some k_ ≠ (.slice (some ad277) x7_2.length co98 : Value).ownBlock)) (by (with_reducible repeat apply Kd.R_alloc); exact Kd.R_mono HL281_0.out (fun _ hk => ⟨hk.1.2, hk.2⟩)) hg hat)
                     have n4_ := Aside0.mk (below_weaken (by repeat (first | (with_reducible first | exact HB.out | apply below_alloc | apply pw_below_drewN | apply below_drew1 | refine below_set ?_ (IsS68.ge HI0.out)) | exact HB.out)) HL.out hb)
                     have n5_ := Aside0.mk (KeepBut.trans (by repeat (first | (with_reducible first | exact HK.out | apply KeepBut.set_ | apply keep_drewN | apply keep_drew | apply keep_alloc) | exact HK.out)) (KeepBut.of_grown hg g) (Kd.R_base2 HO276.out))
                     have n6_ := Aside0.mk (ho)
                     clear HO_7
                     clear HI0
                     clear HL277_0
                     clear HL281_0
                     clear HB
                     clear HK
                     clear HO276
                     have HO_7 := n0_
                     have HI0 := n1_
                     have HL277_0 := n2_
                     have HL281_0 := n3_
                     have HB := n4_
                     have HK := n5_
                     have HO280 := n6_
                     clear n0_ n1_ n2_ n3_ n4_ n5_ n6_
                     clear ho hb hg hat
                     refine hK.out _ _ ⟨HS0_, HS1_⟩ (fun hHeld => ?_)
                     clear hK K
                     refine norm_ (a' := ?_) ?_ ?_
                     rotate_left
                     ·show Act.put _ (some 79) _ = _
                      simp only [Act.put, List.setIfInBounds_toArray, List.set_cons_zero, List.set_cons_succ, i64_w, i32_w]
                      rfl
                     refine one_ (i := 11) (N := some 85) #[true, true, true, true, true, true, true, true, true, true, true, true, true, false, false, false, false, false, false] rfl rfl (one_of HT_.out (by kernel_rfl)) (by decide) (fun K hK => ?_)
                     refine Kd.R_append_rows_step k41 w.heap.size (by rfl) (.tmp 79) (.tmp 84) 23 41 (.agg #[(.int .i64 0), (.int .i64 0)]) 16 rfl Try.underlying23 info41 rfl (by decide) (by omega) v279 y278 (rd_L4 x7_2 (ji85)) _ _ _ (fun k_ => some k_ ≠ (.slice A277_0 (rd_L4 x7_2 t223).length c277_0 : Value).ownBlock ∧ some k_ ≠ (.slice A281_0 (rd_L4 x7_2 (ji85)).length c281_0 : Value).ownBlock) (fun _ => False) rfl rfl ?aO ?aR (fun _ _ h => h) (fun _ h => h.elim) ?aF (Below.refl _ _) ?aS ?aL ?_
                     (case aR => repeat (first | exact ((Kd.R_reads' (by (with_reducible repeat apply Kd.R_alloc); exact HL281_0.out)).2.2) | (with_reducible refine Kd.C_alloc ?_ _) | (with_reducible refine Kd.C_drewN ?_ _) | (with_reducible refine Kd.C_drew ?_)))
                     (case aF => exact (fun k_ hk => ⟨Kd.fresh' (Kd.R_lt (by (with_reducible repeat apply Kd.R_alloc); exact HL277_0.out)) k_ hk, Kd.fresh' (Kd.R_lt (by (with_reducible repeat apply Kd.R_alloc); exact HL281_0.out)) k_ hk⟩))
                     (case aO => exact (by (with_reducible repeat apply Kd.R_alloc); exact HO280.out))
                     (case aS => exact (keep_size (w := w) (g := g) (row := none) (by repeat (first | (with_reducible first | exact HK.out | apply KeepBut.set_ | apply keep_drewN | apply keep_drew | apply keep_alloc) | exact HK.out))))
                     (case aL => have := LMc88.out; omega)
                     intro v283 w104 ho hb hg hat
                     have HS0_ := cell_grown hg (hHeld.1) (by first | (rw [add_block]; exact ((HO_7.out.1 _ rfl).2)) | (show some (Addr.add _ _).block ≠ _; rw [add_block]; exact ((HO_7.out.1 _ rfl).2)) | exact ((HO_7.out.1 _ rfl).2))
                     have HS1_ := cell_grown hg (hHeld.2) (by first | (rw [add_block]; exact ((HO_7.out.1 _ rfl).2)) | (show some (Addr.add _ _).block ≠ _; rw [add_block]; exact ((HO_7.out.1 _ rfl).2)) | exact ((HO_7.out.1 _ rfl).2))
                     rw [← Ny282.out] at ho
                     have n0_ := Aside0.mk (Kd.R_after (ok := (fun _ => True)) (by (with_reducible repeat apply Kd.R_alloc); exact HO_7.out) hg hat)
                     have n1_ := Aside0.mk (IsS68.grown (by repeat (first | (with_reducible first | exact HI0.out | apply IsS68.alloc | apply IsS68.drewN | apply IsS68.drew | apply IsS68.set_1) | exact HI0.out)) hg (IsS68.own_ne HI0.out HO280.out (by decide)))
                     have n2_ := Aside0.mk (Kd.R_after (ok := (fun k_ => some k_ ≠ (.slice (some ad277) x7_2.length co98 : Value).ownBlock)) (by (with_reducible repeat apply Kd.R_alloc); exact HL277_0.out) hg hat)
                     have n3_ := Aside0.mk (Kd.R_after (ok := (fun k_ => some k_ ≠ (.slice (some ad277) x7_2.length co98 : Value).ownBlock)) (by (with_reducible repeat apply Kd.R_alloc); exact HL281_0.out) hg hat)
                     have n4_ := Aside0.mk (below_weaken (by repeat (first | (with_reducible first | exact HB.out | apply below_alloc | apply pw_below_drewN | apply below_drew1 | refine below_set ?_ (IsS68.ge HI0.out)) | exact HB.out)) HL.out hb)
                     have n5_ := Aside0.mk (KeepBut.trans (by repeat (first | (with_reducible first | exact HK.out | apply KeepBut.set_ | apply keep_drewN | apply keep_drew | apply keep_alloc) | exact HK.out)) (KeepBut.of_grown hg g) (Kd.R_base2 HO280.out))
                     have n6_ := Aside0.mk (ho)
                     clear HO_7
                     clear HI0
                     clear HL277_0
                     clear HL281_0
                     clear HB
                     clear HK
                     clear HO280
                     have HO_7 := n0_
                     have HI0 := n1_
                     have HL277_0 := n2_
                     have HL281_0 := n3_
                     have HB := n4_
                     have HK := n5_
                     have HO284 := n6_
                     clear n0_ n1_ n2_ n3_ n4_ n5_ n6_
                     clear ho hb hg hat
                     refine hK.out _ _ ⟨HS0_, HS1_⟩ (fun hHeld => ?_)
                     clear hK K
                     refine norm_ (a' := ?_) ?_ ?_
                     rotate_left
                     ·show Act.put _ (some 85) _ = _
                      simp only [Act.put, List.setIfInBounds_toArray, List.set_cons_zero, List.set_cons_succ, i64_w, i32_w]
                      rfl
                     refine one_ (i := 13) (N := some 87) #[true, true, true, true, true, true, true, true, true, true, true, true, true, true, false, false, false, false, false] rfl rfl (one_of HT_.out (by kernel_rfl)) (by decide) (fun K hK => ?_)
                     refine goes_ Try.func64 (by kernel_rfl) rfl #[.pointer (some ⟨g, 0, none⟩), .int .i64 3] (by rfl) rfl rfl (by (try simp only [List.map_toArray, List.map_cons, List.map_nil]); first | done | rfl | (simp only [List.length_drop, List.length_take]; rfl)) ?_
                     with_reducible refine (spec_l20Rd_pick.calls k2 g s0_0 t224 3 t285 t286 w0 _ ?side1 ?side2 A89.out).mono ?_
                     (case side1 => repeat (first | (with_reducible first | exact HI0.out | apply IsS68.alloc | apply IsS68.drewN | apply IsS68.drew | apply IsS68.set_1) | exact HI0.out))
                     (case side2 => repeat (first | (with_reducible first | exact HB.out | apply below_alloc | apply pw_below_drewN | apply below_drew1 | refine below_set ?_ (IsS68.ge HI0.out)) | exact HB.out))
                     rintro e w105 ⟨rfl, hi, hb, hk⟩
                     have HS0_ := keep_cell hk (hHeld.1) (by first | (rw [add_block]; exact Kd.own_blk (IsS68.own_ne HI0.out HO_7.out (by decide))) | (show (Addr.add _ _).block ≠ _; rw [add_block]; exact Kd.own_blk (IsS68.own_ne HI0.out HO_7.out (by decide))) | exact Kd.own_blk (IsS68.own_ne HI0.out HO_7.out (by decide)))
                     have HS1_ := keep_cell hk (hHeld.2) (by first | (rw [add_block]; exact Kd.own_blk (IsS68.own_ne HI0.out HO_7.out (by decide))) | (show (Addr.add _ _).block ≠ _; rw [add_block]; exact Kd.own_blk (IsS68.own_ne HI0.out HO_7.out (by decide))) | exact Kd.own_blk (IsS68.own_ne HI0.out HO_7.out (by decide)))
                     refine ⟨_, rfl, ?_⟩
                     have n0_ := Aside0.mk (Kd.R_mono (Kd.R_keep (IsS68.apart (show IsS68 w0 _ g s0_0 t224 from by repeat (first | (with_reducible first | exact HI0.out | apply IsS68.alloc | apply IsS68.drewN | apply IsS68.drew | apply IsS68.set_1) | exact HI0.out)) (by (with_reducible repeat apply Kd.R_alloc); exact HO_7.out) (by decide)) hk (fun _ h => h.2)) (fun _ h => h.1))
                     have n1_ := Aside0.mk (Kd.R_mono (Kd.R_keep (IsS68.apart (show IsS68 w0 _ g s0_0 t224 from by repeat (first | (with_reducible first | exact HI0.out | apply IsS68.alloc | apply IsS68.drewN | apply IsS68.drew | apply IsS68.set_1) | exact HI0.out)) (by (with_reducible repeat apply Kd.R_alloc); exact HL277_0.out) (by decide)) hk (fun _ h => h.2)) (fun _ h => h.1))
                     have n2_ := Aside0.mk (Kd.R_mono (Kd.R_keep (IsS68.apart (show IsS68 w0 _ g s0_0 t224 from by repeat (first | (with_reducible first | exact HI0.out | apply IsS68.alloc | apply IsS68.drewN | apply IsS68.drew | apply IsS68.set_1) | exact HI0.out)) (by (with_reducible repeat apply Kd.R_alloc); exact HL281_0.out) (by decide)) hk (fun _ h => h.2)) (fun _ h => h.1))
                     have n3_ := Aside0.mk (Kd.R_mono (Kd.R_keep (IsS68.apart (show IsS68 w0 _ g s0_0 t224 from by repeat (first | (with_reducible first | exact HI0.out | apply IsS68.alloc | apply IsS68.drewN | apply IsS68.drew | apply IsS68.set_1) | exact HI0.out)) (by (with_reducible repeat apply Kd.R_alloc); exact HO284.out) (by decide)) hk (fun _ h => h.2)) (fun _ h => h.1))
                     have n4_ := Aside0.mk (KeepBut.trans (by repeat (first | (with_reducible first | exact HK.out | apply KeepBut.set_ | apply keep_drewN | apply keep_drew | apply keep_alloc) | exact HK.out)) hk (.inl rfl))
                     have n5_ := Aside0.mk (hb)
                     have n6_ := Aside0.mk (hi)
                     clear HO_7
                     clear HL277_0
                     clear HL281_0
                     clear HO284
                     clear HK
                     clear HB
                     clear HI0
                     have HO_7 := n0_
                     have HL277_0 := n1_
                     have HL281_0 := n2_
                     have HO284 := n3_
                     have HK := n4_
                     have HB := n5_
                     have HI0 := n6_
                     clear n0_ n1_ n2_ n3_ n4_ n5_ n6_
                     (try clear hb)
                     (try clear hb2)
                     (try clear hk)
                     (try clear hi)
                     refine hK.out _ _ ⟨HS0_, HS1_⟩ (fun hHeld => ?_)
                     clear hK K
                     refine norm_ (a' := ?_) ?_ ?_
                     rotate_left
                     ·show Act.put _ (some 87) _ = _
                      simp only [Act.put, List.setIfInBounds_toArray, List.set_cons_zero, List.set_cons_succ, i64_w, i32_w]
                      rfl
                     refine pure_ (i := 14) (N := some 88) (v := ?_) (a' := ?_) #[true, true, true, true, true, true, true, true, true, true, true, true, true, true, true, false, false, false, false] rfl rfl (any_of HT_.out (by kernel_rfl)) (fun _ _ _ h => h) (Or.inl ⟨by rfl, ?_⟩) ?_ ?_
                     rotate_left
                     ·intro w'
                      go_simp
                      with_reducible rfl
                     rotate_left
                     ·simp only [Act.put, List.setIfInBounds_toArray, List.set_cons_zero, List.set_cons_succ, i64_w, i32_w]
                      rfl
                     refine pure_ (i := 15) (N := some 89) (v := ?_) (a' := ?_) #[true, true, true, true, true, true, true, true, true, true, true, true, true, true, true, true, false, false, false] rfl rfl (any_of HT_.out (by kernel_rfl)) (fun _ _ _ h => h) (Or.inl ⟨by rfl, ?_⟩) ?_ ?_
                     rotate_left
                     ·intro w'
                      go_simp
                      with_reducible rfl
                     rotate_left
                     ·simp only [Act.put, List.setIfInBounds_toArray, List.set_cons_zero, List.set_cons_succ, i64_w, i32_w]
                      rfl
                     refine last_ (i := 16) (N := some 90) #[true, true, true, true, true, true, true, true, true, true, true, true, true, true, true, true, true, false, false] rfl rfl (one_of HT_.out (by kernel_rfl)) (by decide) (fun K hK => ?_)
                     refine value_ (w1 := ?_) (v := ?_) (by rfl) rfl ?_ ?_
                     rotate_left 2
                     ·go_simp
                      constructor
                      ·rfl
                      ·rfl
                     refine hK.out _ _ ?_
                     clear hK K
                     refine norm_ (a' := ?_) ?_ ?_
                     rotate_left
                     ·show Act.put _ (some 90) _ = _
                      simp only [Act.put, List.setIfInBounds_toArray, List.set_cons_zero, List.set_cons_succ, i64_w, i32_w]
                      rfl
                     refine one_ (i := 17) (N := some 91) #[true, true, true, true, true, true, true, true, true, true, true, true, true, true, true, true, true, true, false] rfl rfl (one_of HT_.out (by kernel_rfl)) (by decide) (fun K hK => ?_)
                     refine Kd.R_append_step k41 w.heap.size (by rfl) (.tmp 85) (.tmp 90) 23 41 (.agg #[(.int .i64 0), (.int .i64 0)]) 16 rfl Try.underlying23 info41 rfl (by decide) (by omega) v283 y282 (⟨wrap64 (3 + t285), 0⟩ : S41) [.int .i64 (wrap64 (3 + t285)), .int .i64 0] (fun k_ => some k_ ≠ (.slice A277_0 (rd_L4 x7_2 t223).length c277_0 : Value).ownBlock ∧ some k_ ≠ (.slice A281_0 (rd_L4 x7_2 (ji85)).length c281_0 : Value).ownBlock) (fun _ => False) rfl rfl ?aP (fun _ hk => hk.elim) ?aF ?aO (Below.refl _ _) ?aS ?aL ?_
                     (case aP => exact k41_mkM _ _ _ (⟨wrap64 (3 + t285), 0⟩ : S41))
                     (case aF => exact (fun k_ hk => ⟨Kd.fresh' (Kd.R_lt (by (with_reducible repeat apply Kd.R_alloc); exact HL277_0.out)) k_ hk, Kd.fresh' (Kd.R_lt (by (with_reducible repeat apply Kd.R_alloc); exact HL281_0.out)) k_ hk⟩))
                     (case aO => exact (by (with_reducible repeat apply Kd.R_alloc); exact HO284.out))
                     (case aS => exact (keep_size (w := w) (g := g) (row := none) (by repeat (first | (with_reducible first | exact HK.out | apply KeepBut.set_ | apply keep_drewN | apply keep_drew | apply keep_alloc) | exact HK.out))))
                     (case aL => have := LMc90.out; omega)
                     intro v288 w106 ho hb hg hat
                     have HS0_ := cell_grown hg (hHeld.1) (by first | (rw [add_block]; exact ((HO_7.out.1 _ rfl).2)) | (show some (Addr.add _ _).block ≠ _; rw [add_block]; exact ((HO_7.out.1 _ rfl).2)) | exact ((HO_7.out.1 _ rfl).2))
                     have HS1_ := cell_grown hg (hHeld.2) (by first | (rw [add_block]; exact ((HO_7.out.1 _ rfl).2)) | (show some (Addr.add _ _).block ≠ _; rw [add_block]; exact ((HO_7.out.1 _ rfl).2)) | exact ((HO_7.out.1 _ rfl).2))
                     rw [← Ny287.out] at ho
                     have n0_ := Aside0.mk (Kd.R_after (ok := (fun _ => True)) (by (with_reducible repeat apply Kd.R_alloc); exact HO_7.out) hg hat)
                     have n1_ := Aside0.mk (IsS68.grown (by repeat (first | (with_reducible first | exact HI0.out | apply IsS68.alloc | apply IsS68.drewN | apply IsS68.drew | apply IsS68.set_1) | exact HI0.out)) hg (IsS68.own_ne HI0.out HO284.out (by decide)))
                     have n2_ := Aside0.mk (Kd.R_after (ok := (fun k_ => some k_ ≠ (.slice (some ad277) x7_2.length co98 : Value).ownBlock)) (by (with_reducible repeat apply Kd.R_alloc); exact HL277_0.out) hg hat)
                     have n3_ := Aside0.mk (Kd.R_after (ok := (fun k_ => some k_ ≠ (.slice (some ad277) x7_2.length co98 : Value).ownBlock)) (by (with_reducible repeat apply Kd.R_alloc); exact HL281_0.out) hg hat)
                     have n4_ := Aside0.mk (below_weaken (by repeat (first | (with_reducible first | exact HB.out | apply below_alloc | apply pw_below_drewN | apply below_drew1 | refine below_set ?_ (IsS68.ge HI0.out)) | exact HB.out)) HL.out hb)
                     have n5_ := Aside0.mk (KeepBut.trans (by repeat (first | (with_reducible first | exact HK.out | apply KeepBut.set_ | apply keep_drewN | apply keep_drew | apply keep_alloc) | exact HK.out)) (KeepBut.of_grown hg g) (Kd.R_base2 HO284.out))
                     have n6_ := Aside0.mk (ho)
                     clear HO_7
                     clear HI0
                     clear HL277_0
                     clear HL281_0
                     clear HB
                     clear HK
                     clear HO284
                     have HO_7 := n0_
                     have HI0 := n1_
                     have HL277_0 := n2_
                     have HL281_0 := n3_
                     have HB := n4_
                     have HK := n5_
                     have HO289 := n6_
                     clear n0_ n1_ n2_ n3_ n4_ n5_ n6_
                     clear ho hb hg hat
                     refine hK.out _ _ ⟨HS0_, HS1_⟩ (fun hHeld => ?_)
                     clear hK K
                     refine norm_ (a' := ?_) ?_ ?_
                     rotate_left
                     ·show Act.put _ (some 91) _ = _
                      simp only [Act.put, List.setIfInBounds_toArray, List.set_cons_zero, List.set_cons_succ, i64_w, i32_w]
                      rfl
                     refine pure_ (i := 18) (N := some 11) (v := ?_) (a' := ?_) #[true, true, true, true, true, true, true, true, true, true, true, true, true, true, true, true, true, true, true] rfl rfl (any_of HT_.out (by kernel_rfl)) (fun _ _ _ h => h) (Or.inl ⟨by rfl, ?_⟩) ?_ ?_
                     rotate_left
                     ·intro w'
                      go_simp
                      with_reducible rfl
                     rotate_left
                     ·simp only [Act.put, List.setIfInBounds_toArray, List.set_cons_zero, List.set_cons_succ, i64_w, i32_w]
                      rfl
                     refine done_ (done_of HT_.out (by kernel_rfl)) ?_
                     try go_wp2_with (first | ((with_reducible refine gate_dst (N := 92) rfl ?_); refine Kd.R_lit (Kd.slice 41 k41) _ 23 ?hg (N := 92) ?hd (xs := ([] : List (List (S41)))) (inner := []) (ok := fun _ => True) (okp := fun _ => True) ?hr ?hp (fun _ hk => hk) trivial (Below.refl _ _) (Nat.le_refl _) (by simp) ?_; (case hd => rfl); (case hg => rfl); (case hr => first | (go_simp; done) | (go_simp; rfl)); (case hp => exact (Reps.none _ _)); intro v291 w107 ho108 hb hg_ hnew_; clear hg_ hnew_; (first | rw [← Ny290.out] at ho108 | (simp only [Int.reduceToNat] at ho108; rw [← Ny290.out] at ho108)); have n0_ := Aside0.mk (Kd.R_elder' (by (with_reducible repeat apply Kd.R_alloc); exact HO_7.out) (Kd.R_base ho108) hb); have n1_ := Aside0.mk (Kd.R_below (by (with_reducible repeat apply Kd.R_alloc); exact HL277_0.out) hb); have n2_ := Aside0.mk (Kd.R_below (by (with_reducible repeat apply Kd.R_alloc); exact HL281_0.out) hb); have n3_ := Aside0.mk (Kd.R_below (by (with_reducible repeat apply Kd.R_alloc); exact HO289.out) hb); have n4_ := Aside0.mk (Kd.R_lower (Kd.R_new' (Kd.R_new' (Kd.R_new' (Kd.R_new' ho108 (Kd.R_lt (by (with_reducible repeat apply Kd.R_alloc); exact HO_7.out))) (Kd.R_lt (by (with_reducible repeat apply Kd.R_alloc); exact HL277_0.out))) (Kd.R_lt (by (with_reducible repeat apply Kd.R_alloc); exact HL281_0.out))) (Kd.R_lt (by (with_reducible repeat apply Kd.R_alloc); exact HO289.out))) (keep_size (w := w) (g := g) (row := none) (by repeat (first | (with_reducible first | exact HK.out | apply KeepBut.set_ | apply keep_drewN | apply keep_drew | apply keep_alloc) | exact HK.out)))); have n5_ := Aside0.mk (IsS68.below (by repeat (first | (with_reducible first | exact HI0.out | apply IsS68.alloc | apply IsS68.drewN | apply IsS68.drew | apply IsS68.set_1) | exact HI0.out)) hb); have n6_ := Aside0.mk (KeepBut.trans (by repeat (first | (with_reducible first | exact HK.out | apply KeepBut.set_ | apply keep_drewN | apply keep_drew | apply keep_alloc) | exact HK.out)) (KeepBut.of_below hb g none) (.inl rfl)); have n7_ := Aside0.mk (below_step (by repeat (first | (with_reducible first | exact HB.out | apply below_alloc | apply pw_below_drewN | apply below_drew1 | refine below_set ?_ (IsS68.ge HI0.out)) | exact HB.out)) hb); clear HO_7; clear HL277_0; clear HL281_0; clear HO289; clear HI0; clear HK; clear HB; have HO_7 := n0_; have HL277_0 := n1_; have HL281_0 := n2_; have HO289 := n3_; have HO292 := n4_; have HI0 := n5_; have HK := n6_; have HB := n7_; clear n0_ n1_ n2_ n3_ n4_ n5_ n6_ n7_; clear hb ho108; have q109 : (t223 : Int) ≤ ((x7_2.length : Int) : Int) := of_decide_eq_true (by first | (with_reducible assumption) | assumption); obtain ⟨i0109, hi0109, _, hsz109, _⟩ := info_parts info23; have hroom109 : x7_2.length ≤ co98 := (Kd.R_reads' HO_7.out).2.1; have hC109 : Kd.C (Kd.slice 41 k41) _ (some ad277) x7_2.length x7_2 := (Kd.R_reads' HO_7.out).2.2; have hcut109 := cut_to (P := Try.prog) 72 23 .i64 Try.underlying72 hi0109 (some ad277) x7_2.length co98 t223 (of_decide_eq_true (by first | (with_reducible assumption) | assumption)) q109 hroom109; have hr109 := Kd.C_take (m := (t223 : Int).toNat) hC109 (by omega); have hy109 : y293.length = (t223 : Int).toNat := (by rw [Ny293.out, List.length_take]; omega); rw [← Ny293.out] at hr109; rw [← hy109] at hcut109; have HR296 := Aside0.mk hr109; have HC296 := Aside0.mk (show y293.length ≤ co98 from by omega); clear hr109 hC109 hroom109 hi0109 hsz109; have KY109 := Aside0.mk hy109; clear hy109; have KL109 := Aside0.mk (show (t223 : Int).toNat ≤ x7_2.length from by omega); replace q109 := eq_true q109) | ((with_reducible refine gate_builtin (b := .append) (xs := #[.tmp 92, .tmp 95]) rfl ?_); at_builtin; refine Kd.R_append_rows (Kd.slice 41 k41) w.heap.size rfl (.tmp 92) (.tmp 95) 72 23 (.slice none 0 0) 24 rfl Try.underlying72 info23 rfl (by decide) (by omega) v291 y290 y293 _ _ _ (fun k_ => some k_ ≠ (.slice (some ad277) x7_2.length co98 : Value).ownBlock ∧ some k_ ≠ (v288 : Value).ownBlock) (fun k_ => ((fun k_ => some k_ ≠ (.slice (some ad277) x7_2.length co98 : Value).ownBlock ∧ some k_ ≠ (v288 : Value).ownBlock)) k_ ∧ some k_ ≠ (v291 : Value).ownBlock) rfl rfl ?aO ?aR (fun _ _ h => h) (fun _ hk => hk) ?aF (Below.refl _ _) ?aS ?aL ?_; (case aR => rw [Ny293.out]; exact Kd.C_take (m := (t223 : Int).toNat) (Kd.R_frozen (okp := (fun k_ => ((fun k_ => some k_ ≠ (.slice (some ad277) x7_2.length co98 : Value).ownBlock ∧ some k_ ≠ (v288 : Value).ownBlock)) k_ ∧ some k_ ≠ (v291 : Value).ownBlock)) (HO_7.out) (fun k_ hk => ⟨⟨hk.2, hk.1.1.2⟩, hk.1.2⟩)).2.2 KL109.out); (case aF => exact (fun k_ hk => ⟨Kd.fresh' (Kd.R_lt (by (with_reducible repeat apply Kd.R_alloc); exact HO_7.out)) k_ hk, Kd.fresh' (Kd.R_lt (by (with_reducible repeat apply Kd.R_alloc); exact HO289.out)) k_ hk⟩)); (case aO => exact (by (with_reducible repeat apply Kd.R_alloc); exact Kd.R_mono HO292.out (fun _ hk => ⟨hk.1.1.1.2, hk.2⟩))); (case aS => exact (keep_size (w := w) (g := g) (row := none) (by repeat (first | (with_reducible first | exact HK.out | apply KeepBut.set_ | apply keep_drewN | apply keep_drew | apply keep_alloc) | exact HK.out)))); (case aL => have := LMc93.out; omega); intro v298 w110 ho hb hg hat; rw [← Ny297.out] at ho; have n0_ := Aside0.mk (Kd.R_after (ok := (fun k_ => some k_ ≠ (v288 : Value).ownBlock)) (by (with_reducible repeat apply Kd.R_alloc); exact Kd.R_mono HO_7.out (fun _ hk => ⟨hk.1.2, hk.2⟩)) hg hat); have n1_ := Aside0.mk (IsS68.grown (by repeat (first | (with_reducible first | exact HI0.out | apply IsS68.alloc | apply IsS68.drewN | apply IsS68.drew | apply IsS68.set_1) | exact HI0.out)) hg (IsS68.own_ne HI0.out HO292.out (by decide))); have n2_ := Aside0.mk (Kd.R_over' (by (with_reducible repeat apply Kd.R_alloc); exact HO289.out) (Kd.R_typed (by (with_reducible repeat apply Kd.R_alloc); exact HO292.out)) (by decide) hg); have n3_ := Aside0.mk (below_weaken (by repeat (first | (with_reducible first | exact HB.out | apply below_alloc | apply pw_below_drewN | apply below_drew1 | refine below_set ?_ (IsS68.ge HI0.out)) | exact HB.out)) HL.out hb); have n4_ := Aside0.mk (KeepBut.trans (by repeat (first | (with_reducible first | exact HK.out | apply KeepBut.set_ | apply keep_drewN | apply keep_drew | apply keep_alloc) | exact HK.out)) (KeepBut.of_grown hg g) (Kd.R_base2 HO292.out)); have n5_ := Aside0.mk ((show Kd.C (Kd.slice 41 k41) w110 (some ad277) y293.length y293 from by rw [Ny293.out]; exact Kd.C_take (m := (t223 : Int).toNat) ((Kd.R_reads' (Kd.R_after (ok := (fun k_ => some k_ ≠ (v288 : Value).ownBlock)) (by (with_reducible repeat apply Kd.R_alloc); exact Kd.R_mono HO_7.out (fun _ hk => ⟨hk.1.2, hk.2⟩)) hg hat)).2.2) KL109.out)); have n6_ := Aside0.mk (ho); clear HO_7; clear HI0; clear HO289; clear HB; clear HK; clear HR296; clear HO292; have HO_7 := n0_; have HI0 := n1_; have HO289 := n2_; have HB := n3_; have HK := n4_; have HR296 := n5_; have HO299 := n6_; clear n0_ n1_ n2_ n3_ n4_ n5_ n6_; clear ho hb hg hat; obtain ⟨Ao112, co112, eo112⟩ := Kd.R_slice HO289.out; subst eo112) | ((with_reducible refine gate_builtin (b := .append) (xs := #[.tmp 97, .tmp 99]) rfl ?_); at_builtin; refine Kd.R_append (Kd.slice 41 k41) w.heap.size rfl (.tmp 97) (.tmp 99) 72 23 (.slice none 0 0) 24 rfl Try.underlying72 info23 rfl (by decide) (by omega) v298 y297 y287 [.slice Ao112 y287.length co112] (fun k_ => some k_ ≠ (.slice (some ad277) x7_2.length co98 : Value).ownBlock) (fun k_ => ((fun k_ => some k_ ≠ (.slice (some ad277) x7_2.length co98 : Value).ownBlock)) k_ ∧ some k_ ≠ (v298 : Value).ownBlock) rfl rfl ?aP (fun _ hk => hk) ?aF ?aO (Below.refl _ _) ?aS ?aL ?_; (case aP => exact Kd.M_row (Kd.R_mono (Kd.R_apart' (Kd.R_apart' (HO289.out) (Kd.R_typed HO_7.out) (by decide)) (Kd.R_typed HO299.out) (by decide)) (fun k_ hk => ⟨hk.1.2, hk.2⟩))); (case aF => exact (fun k_ hk => Kd.fresh' (Kd.R_lt (by (with_reducible repeat apply Kd.R_alloc); exact HO_7.out)) k_ hk)); (case aO => exact (by (with_reducible repeat apply Kd.R_alloc); exact Kd.R_mono HO299.out (fun _ hk => hk.1))); (case aS => exact (keep_size (w := w) (g := g) (row := none) (by repeat (first | (with_reducible first | exact HK.out | apply KeepBut.set_ | apply keep_drewN | apply keep_drew | apply keep_alloc) | exact HK.out)))); (case aL => have := LMc94.out; omega); intro v301 w111 ho hb hg hat; rw [← Ny300.out] at ho; have n0_ := Aside0.mk (Kd.R_after (ok := (fun k_ => some k_ ≠ (.slice Ao112 y287.length co112 : Value).ownBlock)) (by (with_reducible repeat apply Kd.R_alloc); exact HO_7.out) hg hat); have n1_ := Aside0.mk (IsS68.grown (by repeat (first | (with_reducible first | exact HI0.out | apply IsS68.alloc | apply IsS68.drewN | apply IsS68.drew | apply IsS68.set_1) | exact HI0.out)) hg (IsS68.own_ne HI0.out HO299.out (by decide))); have n2_ := Aside0.mk (below_weaken (by repeat (first | (with_reducible first | exact HB.out | apply below_alloc | apply pw_below_drewN | apply below_drew1 | refine below_set ?_ (IsS68.ge HI0.out)) | exact HB.out)) HL.out hb); have n3_ := Aside0.mk (KeepBut.trans (by repeat (first | (with_reducible first | exact HK.out | apply KeepBut.set_ | apply keep_drewN | apply keep_drew | apply keep_alloc) | exact HK.out)) (KeepBut.of_grown hg g) (Kd.R_base2 HO299.out)); have n4_ := Aside0.mk ((show Kd.C (Kd.slice 41 k41) w111 (some ad277) y293.length y293 from by rw [Ny293.out]; exact Kd.C_take (m := (t223 : Int).toNat) ((Kd.R_reads' (Kd.R_after (ok := (fun k_ => some k_ ≠ (.slice Ao112 y287.length co112 : Value).ownBlock)) (by (with_reducible repeat apply Kd.R_alloc); exact HO_7.out) hg hat)).2.2) KL109.out)); have n5_ := Aside0.mk (ho); clear HO_7; clear HI0; clear HB; clear HK; clear HR296; clear HO299; clear HO289; have HO_7 := n0_; have HI0 := n1_; have HB := n2_; have HK := n3_; have HR296 := n4_; have HO302 := n5_; clear n0_ n1_ n2_ n3_ n4_ n5_; clear ho hb hg hat; have q113 : ((wrap64 (t223 + 2)) : Int) ≤ ((x7_2.length : Int) : Int) := of_decide_eq_true (by first | (with_reducible assumption) | assumption); obtain ⟨i0113, hi0113, _, hsz113, _⟩ := info_parts info23; have hroom113 : x7_2.length ≤ co98 := (Kd.R_reads' HO_7.out).2.1; have hC113 : Kd.C (Kd.slice 41 k41) _ (some ad277) x7_2.length x7_2 := (Kd.R_reads' HO_7.out).2.2; have q0113 : (0 : Int) ≤ ((wrap64 (t223 + 2)) : Int) := of_decide_eq_true (by first | (with_reducible assumption) | assumption); have hcut113 := cut_from (P := Try.prog) 72 23 .i64 Try.underlying72 hi0113 1 hsz113 (some ad277) x7_2.length co98 (wrap64 (t223 + 2)) q0113 q113; have hr113 := Kd.C_drop (m := ((wrap64 (t223 + 2)) : Int).toNat) (c := co98) hC113 (by omega) hroom113; obtain ⟨A113, hA113⟩ : ∃ A1, A1 = (if co98 = ((wrap64 (t223 + 2)) : Int).toNat then (some ad277) else ((some ad277) : Option Addr).map (·.add (((wrap64 (t223 + 2)) : Int).toNat * 1))) := ⟨_, rfl⟩; obtain ⟨c113, hc113⟩ : ∃ c1, c1 = co98 - ((wrap64 (t223 + 2)) : Int).toNat := ⟨_, rfl⟩; have hy113 : y303.length = x7_2.length - ((wrap64 (t223 + 2)) : Int).toNat := (by rw [Ny303.out, List.length_drop] <;> omega); rw [show (x7_2).drop ((wrap64 (t223 + 2)) : Int).toNat = y303 from Ny303.out.symm] at hr113; replace hr113 : Kd.C (Kd.slice 41 k41) _ A113 y303.length y303 := (by rw [hA113]; exact hr113); rw [← hy113, ← hA113, ← hc113] at hcut113; have HR306 := Aside0.mk hr113; have HC306 := Aside0.mk (show y303.length ≤ c113 from by rw [hy113, hc113]; exact Nat.sub_le_sub_right hroom113 _); clear hr113 hC113 hroom113 hi0113 hsz113 hc113; have KY113 := Aside0.mk hy113; have KA113 := Aside0.mk hA113; clear hy113 hA113; have KL113 := Aside0.mk (show ((wrap64 (t223 + 2)) : Int).toNat ≤ x7_2.length from by omega); replace q113 := eq_true q113) | ((with_reducible refine gate_builtin (b := .append) (xs := #[.tmp 101, .tmp 105]) rfl ?_); at_builtin; refine Kd.R_append_rows (Kd.slice 41 k41) w.heap.size rfl (.tmp 101) (.tmp 105) 72 23 (.slice none 0 0) 24 rfl Try.underlying72 info23 rfl (by decide) (by omega) v301 y300 y303 _ _ _ (fun k_ => some k_ ≠ (.slice (some ad277) x7_2.length co98 : Value).ownBlock) (fun k_ => ((fun k_ => some k_ ≠ (.slice (some ad277) x7_2.length co98 : Value).ownBlock)) k_ ∧ some k_ ≠ (v301 : Value).ownBlock) rfl rfl ?aO ?aR (fun _ _ h => h) (fun _ hk => hk) ?aF (Below.refl _ _) ?aS ?aL ?_; (case aR => rw [Ny303.out, KA113.out]; exact Kd.C_drop (m := ((wrap64 (t223 + 2)) : Int).toNat) (c := co98) (Kd.R_frozen (okp := (fun k_ => ((fun k_ => some k_ ≠ (.slice (some ad277) x7_2.length co98 : Value).ownBlock)) k_ ∧ some k_ ≠ (v301 : Value).ownBlock)) (HO_7.out) (fun k_ hk => ⟨hk.2, hk.1.2⟩)).2.2 KL113.out (Kd.R_frozen (okp := (fun k_ => ((fun k_ => some k_ ≠ (.slice (some ad277) x7_2.length co98 : Value).ownBlock)) k_ ∧ some k_ ≠ (v301 : Value).ownBlock)) (HO_7.out) (fun k_ hk => ⟨hk.2, hk.1.2⟩)).2.1); (case aF => exact (fun k_ hk => Kd.fresh' (Kd.R_lt (by (with_reducible repeat apply Kd.R_alloc); exact HO_7.out)) k_ hk)); (case aO => exact (by (with_reducible repeat apply Kd.R_alloc); exact HO302.out)); (case aS => exact (keep_size (w := w) (g := g) (row := none) (by repeat (first | (with_reducible first | exact HK.out | apply KeepBut.set_ | apply keep_drewN | apply keep_drew | apply keep_alloc) | exact HK.out)))); (case aL => have := LMc97.out; omega); intro v308 w114 ho hb hg hat; rw [← Ny307.out] at ho; have n0_ := Aside0.mk (Kd.R_after (ok := (fun _ => True)) (by (with_reducible repeat apply Kd.R_alloc); exact Kd.R_mono HO_7.out (fun _ hk => ⟨trivial, hk.2⟩)) hg hat); have n1_ := Aside0.mk (IsS68.grown (by repeat (first | (with_reducible first | exact HI0.out | apply IsS68.alloc | apply IsS68.drewN | apply IsS68.drew | apply IsS68.set_1) | exact HI0.out)) hg (IsS68.own_ne HI0.out HO302.out (by decide))); have n2_ := Aside0.mk (below_weaken (by repeat (first | (with_reducible first | exact HB.out | apply below_alloc | apply pw_below_drewN | apply below_drew1 | refine below_set ?_ (IsS68.ge HI0.out)) | exact HB.out)) HL.out hb); have n3_ := Aside0.mk (KeepBut.trans (by repeat (first | (with_reducible first | exact HK.out | apply KeepBut.set_ | apply keep_drewN | apply keep_drew | apply keep_alloc) | exact HK.out)) (KeepBut.of_grown hg g) (Kd.R_base2 HO302.out)); have n4_ := Aside0.mk ((show Kd.C (Kd.slice 41 k41) w114 (some ad277) y293.length y293 from by rw [Ny293.out]; exact Kd.C_take (m := (t223 : Int).toNat) ((Kd.R_reads' (Kd.R_after (ok := (fun _ => True)) (by (with_reducible repeat apply Kd.R_alloc); exact Kd.R_mono HO_7.out (fun _ hk => ⟨trivial, hk.2⟩)) hg hat)).2.2) KL109.out)); have n5_ := Aside0.mk ((show Kd.C (Kd.slice 41 k41) w114 A113 y303.length y303 from by rw [Ny303.out, KA113.out]; exact Kd.C_drop (m := ((wrap64 (t223 + 2)) : Int).toNat) (c := co98) ((Kd.R_reads' (Kd.R_after (ok := (fun _ => True)) (by (with_reducible repeat apply Kd.R_alloc); exact Kd.R_mono HO_7.out (fun _ hk => ⟨trivial, hk.2⟩)) hg hat)).2.2) KL113.out ((Kd.R_reads' (Kd.R_after (ok := (fun _ => True)) (by (with_reducible repeat apply Kd.R_alloc); exact Kd.R_mono HO_7.out (fun _ hk => ⟨trivial, hk.2⟩)) hg hat)).2.1))); have n6_ := Aside0.mk (ho); clear HO_7; clear HI0; clear HB; clear HK; clear HR296; clear HR306; clear HO302; have HO_7 := n0_; have HI0 := n1_; have HB := n2_; have HK := n3_; have HR296 := n4_; have HR306 := n5_; have HO309 := n6_; clear n0_ n1_ n2_ n3_ n4_ n5_ n6_; clear ho hb hg hat))
                     go_roundg k2
                     case measure => have := HK1.out; have := HK2.out; omega
                     case rel => exact ⟨(y307), (x9_2), (t286), (by first | rfl | (simp; done) | (simp [*]; done)), H', ⟨by have := HK1.out; have := HK2.out; omega⟩, ⟨by (with_reducible repeat apply Kd.R_alloc); exact Kd.R_mono HO309.out (fun _ hk => trivial)⟩, ⟨by repeat (first | (with_reducible first | exact HI0.out | apply IsS68.alloc | apply IsS68.drewN | apply IsS68.drew | apply IsS68.set_1) | exact HI0.out)⟩, ⟨by repeat (first | (with_reducible first | exact HK.out | apply KeepBut.set_ | apply keep_drewN | apply keep_drew | apply keep_alloc) | exact HK.out)⟩, ⟨by repeat (first | (with_reducible first | exact HB.out | apply below_alloc | apply pw_below_drewN | apply below_drew1 | refine below_set ?_ (IsS68.ge HI0.out)) | exact HB.out)⟩⟩
                    ·rw [if_neg c97] at H
                     exact absurd H (by simp)
                   ·rw [if_neg c96] at H
                    exact absurd H (by simp)
                  ·rw [if_neg c95] at H
                   exact absurd H (by simp)
                 ·rw [if_neg c94] at H
                  exact absurd H (by simp)
                ·rw [if_neg c93] at H
                 exact absurd H (by simp)
               ·rw [if_neg c92] at H
                exact absurd H (by simp)
              ·rw [if_neg c90] at H
               exact absurd H (by simp)
             ·rw [if_neg c88] at H
              exact absurd H (by simp)
            ·rw [if_neg c87] at H
             exact absurd H (by simp)
           ·rw [if_neg c86] at H
            exact absurd H (by simp)
          ·rw [if_neg c84] at H
           exact absurd H (by simp)
         ·rw [if_neg c83] at H
          exact absurd H (by simp)
        ·rw [if_neg c82] at H
         exact absurd H (by simp)
      ·rw [if_neg c29] at H
       have c29b0 : decide (1 < (x7_2.length : Int)) = false := decide_eq_false c29
       have c29b1 : decide (1 < x7_2.length) = false := decide_eq_false (by omega)
       clear c29
       by_cases c115 : 0 < (x7_2.length : Int)
       ·rw [if_pos c115] at H
        have c115b0 : decide (0 < (x7_2.length : Int)) = true := decide_eq_true c115
        have c115b1 : decide (0 < x7_2.length) = true := decide_eq_true (by omega)
        clear c115
        replace H := Option.bind_eq_some_iff.mp H
        obtain ⟨⟨t311, t312⟩, A1160, H⟩ := H
        replace H : (if t311 = 0 then (if (rd_L4 x7_2 0).length < 8796093022208 then (spec_l20Term.j2 k2 a2 ((rd_L4 x7_2 0) ++ [(⟨2, 0⟩ : S41)]) s0_0 t312) else (none)) else (spec_l20Term.j2 k2 a2 (rd_L4 x7_2 0) s0_0 t312)) = some (r1, r2) := H
        have A116 := Aside0.mk A1160
        clear A1160
        have HC117 := Aside0.mk H
        clear H
        obtain ⟨Ao118, co118, eo118⟩ := Kd.R_slice HO_7.out
        subst eo118
        have p310 : 0 ≤ (0 : Int) := (by omega)
        have q310 : 0 < (x7_2.length : Int) := of_decide_eq_true (by first | (with_reducible assumption) | assumption)
        obtain ⟨ad310, A310_0, c310_0, e310, hx310_0, hl310_0, hi310_0⟩ := at_L4 (Kd.R_reads' HO_7.out).2.2 0 p310 q310
        cases e310
        obtain ⟨ce310, hce310, hMe310, hcc310⟩ := Kd.R_get HO_7.out [] 0 p310 (by first | exact q310 | exact of_decide_eq_true (by first | (with_reducible assumption) | assumption) | (have e_ := (Kd.R_reads' HO_7.out).1; omega))
        obtain ⟨ve310_0, rfl, ge310_0⟩ := hMe310
        have hv310_0 := hcc310 0 _ rfl
        rw [Nat.add_zero, show ((Kd.slice 41 k41)).sz = 1 from rfl, Nat.mul_one] at hv310_0
        replace hv310_0 := Option.some.inj (hv310_0.symm.trans hx310_0)
        rw [hv310_0] at ge310_0
        have HL310_0 := Aside0.mk (show Kd.R k41 41 _ _ _ _ (rd_L4 x7_2 0) from ge310_0)
        clear hv310_0 ge310_0
        clear hcc310 hce310
        have qi310 : (0 < x7_2.length) = True := eq_true (by omega)
        (try rw [show ((0 : Int)).toNat = 0 from rfl] at hx310_0)
        (try rw [Addr.add_zero'] at hx310_0)
        have HR310_0 := Aside0.mk hi310_0
        have HC310_0 := Aside0.mk hl310_0
        clear hi310_0 hl310_0
        replace p310 := eq_true p310
        replace q310 := eq_true q310
        replace HL310_0 := Aside0.mk (show Kd.R k41 41 _ _ (fun _ => True) _ (rd_L4 x7_2 0) from Kd.R_mono HL310_0.out (fun _ hk => trivial))
        go_upto_if 112 with (first | ((with_reducible refine gate_callee (f := 64) rfl ?_); refine goesL_ (some 111) rfl rfl Try.func64 (by kernel_rfl) rfl #[.pointer (some ⟨g, 0, none⟩), .int .i64 5] rfl (by (try simp only [List.map_toArray, List.map_cons, List.map_nil]); first | done | rfl | (simp only [List.length_drop, List.length_take]; rfl)) ?_; (with_reducible refine (spec_l20Rd_pick.calls k2 g s0_0 x1001_2 5 t311 t312 w0 _ ?side1 ?side2 A116.out).mono ?_); (case side1 => repeat (first | (with_reducible first | exact HI0.out | apply IsS68.alloc | apply IsS68.drewN | apply IsS68.drew | apply IsS68.set_1) | exact HI0.out)); (case side2 => repeat (first | (with_reducible first | exact HB.out | apply below_alloc | apply pw_below_drewN | apply below_drew1 | refine below_set ?_ (IsS68.ge HI0.out)) | exact HB.out)); rintro e w119 ⟨rfl, hi, hb, hk⟩; refine ⟨_, rfl, ?_⟩; have n0_ := Aside0.mk (Kd.R_mono (Kd.R_keep (IsS68.apart (show IsS68 w0 _ g s0_0 x1001_2 from by repeat (first | (with_reducible first | exact HI0.out | apply IsS68.alloc | apply IsS68.drewN | apply IsS68.drew | apply IsS68.set_1) | exact HI0.out)) (by (with_reducible repeat apply Kd.R_alloc); exact HL310_0.out) (by decide)) hk (fun _ h => h.2)) (fun _ h => h.1)); have n1_ := Aside0.mk (KeepBut.trans (by repeat (first | (with_reducible first | exact HK.out | apply KeepBut.set_ | apply keep_drewN | apply keep_drew | apply keep_alloc) | exact HK.out)) hk (.inl rfl)); have n2_ := Aside0.mk (hb); have n3_ := Aside0.mk (hi); clear HL310_0; clear HK; clear HB; clear HI0; have HL310_0 := n0_; have HK := n1_; have HB := n2_; have HI0 := n3_; clear n0_ n1_ n2_ n3_; (try clear hb); (try clear hb2); (try clear hk); (try clear hi)))
        (try simp only [Act.put, List.setIfInBounds_toArray, List.set_cons_zero, List.set_cons_succ])
        go_cut [13] (fun v13 wc => ∃ (kq : Nat) (x13_116 : List (S41)), Aside0 (spec_l20Term.j2 kq a2 x13_116 s0_0 t312 = some (r1, r2)) ∧ Aside0 (kq ≤ k2) ∧ Aside0 (Kd.R k41 41 wc w.heap.size (fun _ => True) v13 x13_116) ∧ Aside0 (IsS68 w0 wc g s0_0 t312) ∧ Aside0 (KeepBut w wc g none) ∧ Aside0 (Below w0.heap.size w0 wc))
        case first =>
         have H := HC117.out
         clear HC117
         by_cases c120 : t311 = 0
         ·rw [if_pos c120] at H
          have c120b0 : (t311 == 0) = true := beq_iff_eq.mpr c120
          have c120b1 : (t311 != 0) = false := bne_eq_false_iff_eq.mpr c120
          clear c120
          (first | rw [c120b0] | (simp only [i64_w, i32_w]; rw [c120b0]) | skip)
          by_cases c121 : (rd_L4 x7_2 0).length < 8796093022208
          ·rw [if_pos c121] at H
           have LMc121 := Aside0.mk c121
           clear c121
           obtain ⟨y313, hy313⟩ : ∃ y_ : List (S41), y_ = ((rd_L4 x7_2 0) ++ [(⟨2, 0⟩ : S41)]) := ⟨_, rfl⟩
           replace H : (spec_l20Term.j2 k2 a2 y313 s0_0 t312) = some (r1, r2) := by first | (rw [hy313]; with_reducible exact H) | (have H2_ := (Option.bind_some _ _).symm.trans H; rw [hy313]; with_reducible exact H2_) | (have H2_ := (Option.bind_some _ _).symm.trans H; with_reducible exact H2_) | with_reducible exact H | (rw [hy313]; exact H) | exact H
           have Ny313 := Aside0.mk hy313
           clear hy313
           have H' := Aside0.mk H
           clear H
           go_wp2_with (first | ((with_reducible refine gate_builtin (b := .append) (xs := #[.tmp 113, .tmp 115]) rfl ?_); at_builtin; refine Kd.R_append k41 w.heap.size rfl (.tmp 113) (.tmp 115) 23 41 (.agg #[(.int .i64 0), (.int .i64 0)]) 16 rfl Try.underlying23 info41 rfl (by decide) (by omega) (.slice A310_0 (rd_L4 x7_2 0).length c310_0) (rd_L4 x7_2 0) (⟨2, 0⟩ : S41) [.int .i64 2, .int .i64 0] (fun _ => True) (fun _ => False) rfl rfl ?aP (fun _ hk => hk.elim) ?aF ?aO (Below.refl _ _) ?aS ?aL ?_; (case aP => exact k41_mkM _ _ _ (⟨2, 0⟩ : S41)); (case aF => exact (fun _ _ => trivial)); (case aO => exact (by (with_reducible repeat apply Kd.R_alloc); exact HL310_0.out)); (case aS => exact (keep_size (w := w) (g := g) (row := none) (by repeat (first | (with_reducible first | exact HK.out | apply KeepBut.set_ | apply keep_drewN | apply keep_drew | apply keep_alloc) | exact HK.out)))); (case aL => have := LMc121.out; omega); intro v314 w122 ho hb hg hat; rw [← Ny313.out] at ho; have n0_ := Aside0.mk (IsS68.grown (by repeat (first | (with_reducible first | exact HI0.out | apply IsS68.alloc | apply IsS68.drewN | apply IsS68.drew | apply IsS68.set_1) | exact HI0.out)) hg (IsS68.own_ne HI0.out HL310_0.out (by decide))); have n1_ := Aside0.mk (below_weaken (by repeat (first | (with_reducible first | exact HB.out | apply below_alloc | apply pw_below_drewN | apply below_drew1 | refine below_set ?_ (IsS68.ge HI0.out)) | exact HB.out)) HL.out hb); have n2_ := Aside0.mk (KeepBut.trans (by repeat (first | (with_reducible first | exact HK.out | apply KeepBut.set_ | apply keep_drewN | apply keep_drew | apply keep_alloc) | exact HK.out)) (KeepBut.of_grown hg g) (Kd.R_base2 HL310_0.out)); have n3_ := Aside0.mk (ho); clear HI0; clear HB; clear HK; clear HL310_0; have HI0 := n0_; have HB := n1_; have HK := n2_; have HO315 := n3_; clear n0_ n1_ n2_ n3_; clear ho hb hg hat))
           go_meet
           case rel => exact ⟨_, (y313), H', ⟨by have := HK1.out; have := HK2.out; first | omega | exact Nat.le_refl _⟩, ⟨by (with_reducible repeat apply Kd.R_alloc); exact HO315.out⟩, ⟨by repeat (first | (with_reducible first | exact HI0.out | apply IsS68.alloc | apply IsS68.drewN | apply IsS68.drew | apply IsS68.set_1) | exact HI0.out)⟩, ⟨by repeat (first | (with_reducible first | exact HK.out | apply KeepBut.set_ | apply keep_drewN | apply keep_drew | apply keep_alloc) | exact HK.out)⟩, ⟨by repeat (first | (with_reducible first | exact HB.out | apply below_alloc | apply pw_below_drewN | apply below_drew1 | refine below_set ?_ (IsS68.ge HI0.out)) | exact HB.out)⟩⟩
          ·rw [if_neg c121] at H
           exact absurd H (by simp)
         ·rw [if_neg c120] at H
          have c120b0 : (t311 == 0) = false := beq_eq_false_iff_ne.mpr c120
          have c120b1 : (t311 != 0) = true := bne_iff_ne.mpr c120
          (first | rw [c120b0] | (simp only [i64_w, i32_w]; rw [c120b0]) | skip)
          have H' := Aside0.mk H
          clear H
          go_wp2
          go_meet
          case rel => exact ⟨_, (rd_L4 x7_2 0), H', ⟨by have := HK1.out; have := HK2.out; first | omega | exact Nat.le_refl _⟩, ⟨by (with_reducible repeat apply Kd.R_alloc); exact HL310_0.out⟩, ⟨by repeat (first | (with_reducible first | exact HI0.out | apply IsS68.alloc | apply IsS68.drewN | apply IsS68.drew | apply IsS68.set_1) | exact HI0.out)⟩, ⟨by repeat (first | (with_reducible first | exact HK.out | apply KeepBut.set_ | apply keep_drewN | apply keep_drew | apply keep_alloc) | exact HK.out)⟩, ⟨by repeat (first | (with_reducible first | exact HB.out | apply below_alloc | apply pw_below_drewN | apply below_drew1 | refine below_set ?_ (IsS68.ge HI0.out)) | exact HB.out)⟩⟩
        case rest =>
         clear HC117
         try clear c1
         try clear q1
         try clear c2
         try clear p2
         try clear q2
         try clear hx2
         try clear c3
         try clear p3
         try clear q3
         try clear hx3
         try clear qi3
         try clear c4
         try clear c6
         try clear p6
         try clear c8
         try clear c9
         try clear q10
         try clear c11
         try clear q11
         try clear c12
         try clear c27
         try clear p27
         try clear q27
         try clear hx27
         try clear c28
         try clear p28
         try clear q28
         try clear hx28
         try clear c29
         try clear c29b0
         try clear c29b1
         try clear c31
         try clear c31b0
         try clear p31
         try clear q31
         try clear hx31
         try clear qi31
         try clear c48
         try clear c49
         try clear c64
         try clear p64
         try clear c82
         try clear c82b0
         try clear c83
         try clear c83b0
         try clear c84
         try clear c86
         try clear c86b0
         try clear c87
         try clear c87b0
         try clear c88
         try clear c90
         try clear c91
         try clear c91b0
         try clear c92
         try clear c92b0
         try clear c92b1
         try clear c93
         try clear c94
         try clear c95
         try clear c95b0
         try clear c95b1
         try clear c96
         try clear c96b0
         try clear c96b1
         try clear c97
         try clear q109
         try clear c113
         try clear q113
         try clear c115
         try clear c115b0
         try clear c115b1
         try clear c120
         try clear c120b0
         try clear c120b1
         try clear c121
         try clear hx277_0
         try clear hx281_0
         try clear hx310_0
         try clear p277
         try clear p281
         try clear p310
         try clear q0113
         try clear q109
         try clear q113
         try clear q277
         try clear q281
         try clear q310
         obtain ⟨kq, x13_116, HA, HJ116, HO_13, HI0, HK, HB⟩ := hcut
         cases kq with
         | zero => exact absurd HA.out (by simp [spec_l20Term.j2])
         | succ kj116 =>
          have H := HA.out
          clear HA
          simp only [spec_l20Term.j2] at H
          replace H := Option.bind_eq_some_iff.mp H
          obtain ⟨⟨t316, t317⟩, A1230, H⟩ := H
          replace H : (if t316 = true then ((spec_l20Rd_pick.f kj116 s0_0 t317 3).bind fun bt318 => (if bt318.1 = 0 then (some ((([] : List (S41))), bt318.2)) else (if bt318.1 = 1 then (if x13_116.length < 8796093022208 then (some ((x13_116 ++ [(⟨5, 0⟩ : S41)]), bt318.2)) else (none)) else ((spec_l20Rd_pick.f kj116 s0_0 bt318.2 2).bind fun bt326 => (if 0 < (x13_116.length : Int) then (some ((x13_116.set (0 : Int).toNat (⟨bt326.1, 6⟩ : S41)), bt326.2)) else (none)))))) else (some (x13_116, t317))) = some (r1, r2) := H
          have A123 := Aside0.mk A1230
          clear A1230
          by_cases c124 : t316 = true
          ·subst c124
           have H1 : ((spec_l20Rd_pick.f kj116 s0_0 t317 3).bind fun bt318 => (if bt318.1 = 0 then (some ((([] : List (S41))), bt318.2)) else (if bt318.1 = 1 then (if x13_116.length < 8796093022208 then (some ((x13_116 ++ [(⟨5, 0⟩ : S41)]), bt318.2)) else (none)) else ((spec_l20Rd_pick.f kj116 s0_0 bt318.2 2).bind fun bt326 => (if 0 < (x13_116.length : Int) then (some ((x13_116.set (0 : Int).toNat (⟨bt326.1, 6⟩ : S41)), bt326.2)) else (none)))))) = some (r1, r2) := by rw [if_pos rfl] at H; exact H
           clear H
           have H := H1
           clear H1
           replace H := Option.bind_eq_some_iff.mp H
           obtain ⟨⟨t318, t319⟩, A1250, H⟩ := H
           replace H : (if t318 = 0 then (some ((([] : List (S41))), t319)) else (if t318 = 1 then (if x13_116.length < 8796093022208 then (some ((x13_116 ++ [(⟨5, 0⟩ : S41)]), t319)) else (none)) else ((spec_l20Rd_pick.f kj116 s0_0 t319 2).bind fun bt326 => (if 0 < (x13_116.length : Int) then (some ((x13_116.set (0 : Int).toNat (⟨bt326.1, 6⟩ : S41)), bt326.2)) else (none))))) = some (r1, r2) := H
           have A125 := Aside0.mk A1250
           clear A1250
           by_cases c126 : t318 = 0
           ·rw [if_pos c126] at H
            have c126b0 : (t318 == 0) = true := beq_iff_eq.mpr c126
            have c126b1 : (t318 != 0) = false := bne_eq_false_iff_eq.mpr c126
            clear c126
            obtain ⟨y320, hy320⟩ : ∃ y_ : List (S41), y_ = (([] : List (S41))) := ⟨_, rfl⟩
            replace H : (some (y320, t319)) = some (r1, r2) := by first | (rw [hy320]; with_reducible exact H) | (have H2_ := (Option.bind_some _ _).symm.trans H; rw [hy320]; with_reducible exact H2_) | (have H2_ := (Option.bind_some _ _).symm.trans H; with_reducible exact H2_) | with_reducible exact H | (rw [hy320]; exact H) | exact H
            have Ny320 := Aside0.mk hy320
            clear hy320
            simp only [Option.some.injEq, Prod.mk.injEq] at H
            obtain ⟨rfl, rfl⟩ := H
            go_wp2_with (first | ((with_reducible refine gate_callee (f := 69) rfl ?_); refine goesL_ (some 119) rfl rfl Try.func69 (by kernel_rfl) rfl #[.pointer (some ⟨g, 0, none⟩), .int .i64 a2] rfl (by (try simp only [List.map_toArray, List.map_cons, List.map_nil]); first | done | rfl | (simp only [List.length_drop, List.length_take]; rfl)) ?_; (with_reducible refine (spec_l20Rd_odd.calls kj116 g s0_0 t312 a2 true t317 w0 _ ?side1 ?side2 A123.out).mono ?_); (case side1 => repeat (first | (with_reducible first | exact HI0.out | apply IsS68.alloc | apply IsS68.drewN | apply IsS68.drew | apply IsS68.set_1) | exact HI0.out)); (case side2 => repeat (first | (with_reducible first | exact HB.out | apply below_alloc | apply pw_below_drewN | apply below_drew1 | refine below_set ?_ (IsS68.ge HI0.out)) | exact HB.out)); rintro e w127 ⟨rfl, hi, hb, hk⟩; refine ⟨_, rfl, ?_⟩; have n0_ := Aside0.mk (Kd.R_mono (Kd.R_keep (IsS68.apart (show IsS68 w0 _ g s0_0 t312 from by repeat (first | (with_reducible first | exact HI0.out | apply IsS68.alloc | apply IsS68.drewN | apply IsS68.drew | apply IsS68.set_1) | exact HI0.out)) (by (with_reducible repeat apply Kd.R_alloc); exact HO_13.out) (by decide)) hk (fun _ h => h.2)) (fun _ h => h.1)); have n1_ := Aside0.mk (KeepBut.trans (by repeat (first | (with_reducible first | exact HK.out | apply KeepBut.set_ | apply keep_drewN | apply keep_drew | apply keep_alloc) | exact HK.out)) hk (.inl rfl)); have n2_ := Aside0.mk (hb); have n3_ := Aside0.mk (hi); clear HO_13; clear HK; clear HB; clear HI0; have HO_13 := n0_; have HK := n1_; have HB := n2_; have HI0 := n3_; clear n0_ n1_ n2_ n3_; (try clear hb); (try clear hb2); (try clear hk); (try clear hi)) | ((with_reducible refine gate_callee (f := 64) rfl ?_); refine goesL_ (some 121) rfl rfl Try.func64 (by kernel_rfl) rfl #[.pointer (some ⟨g, 0, none⟩), .int .i64 3] rfl (by (try simp only [List.map_toArray, List.map_cons, List.map_nil]); first | done | rfl | (simp only [List.length_drop, List.length_take]; rfl)) ?_; (with_reducible refine (spec_l20Rd_pick.calls kj116 g s0_0 t317 3 t318 t319 w0 _ ?side1 ?side2 A125.out).mono ?_); (case side1 => repeat (first | (with_reducible first | exact HI0.out | apply IsS68.alloc | apply IsS68.drewN | apply IsS68.drew | apply IsS68.set_1) | exact HI0.out)); (case side2 => repeat (first | (with_reducible first | exact HB.out | apply below_alloc | apply pw_below_drewN | apply below_drew1 | refine below_set ?_ (IsS68.ge HI0.out)) | exact HB.out)); rintro e w128 ⟨rfl, hi, hb, hk⟩; refine ⟨_, rfl, ?_⟩; have n0_ := Aside0.mk (Kd.R_mono (Kd.R_keep (IsS68.apart (show IsS68 w0 _ g s0_0 t317 from by repeat (first | (with_reducible first | exact HI0.out | apply IsS68.alloc | apply IsS68.drewN | apply IsS68.drew | apply IsS68.set_1) | exact HI0.out)) (by (with_reducible repeat apply Kd.R_alloc); exact HO_13.out) (by decide)) hk (fun _ h => h.2)) (fun _ h => h.1)); have n1_ := Aside0.mk (KeepBut.trans (by repeat (first | (with_reducible first | exact HK.out | apply KeepBut.set_ | apply keep_drewN | apply keep_drew | apply keep_alloc) | exact HK.out)) hk (.inl rfl)); have n2_ := Aside0.mk (hb); have n3_ := Aside0.mk (hi); clear HO_13; clear HK; clear HB; clear HI0; have HO_13 := n0_; have HK := n1_; have HB := n2_; have HI0 := n3_; clear n0_ n1_ n2_ n3_; (try clear hb); (try clear hb2); (try clear hk); (try clear hi)) | ((with_reducible refine gate_dst (N := 129) rfl ?_); refine Kd.R_lit k41 _ 41 ?hg (N := 129) ?hd (xs := ([] : List (S41))) (inner := []) (ok := fun _ => True) (okp := fun _ => True) ?hr ?hp (fun _ hk => hk) trivial (Below.refl _ _) (Nat.le_refl _) (by simp) ?_; (case hd => rfl); (case hg => rfl); (case hr => first | (go_simp; done) | (go_simp; rfl)); (case hp => exact (Reps.none _ _)); intro v321 w129 ho130 hb hg_ hnew_; clear hg_ hnew_; (first | rw [← Ny320.out] at ho130 | (simp only [Int.reduceToNat] at ho130; rw [← Ny320.out] at ho130)); have n0_ := Aside0.mk (Kd.R_elder' (by (with_reducible repeat apply Kd.R_alloc); exact HO_13.out) (Kd.R_base ho130) hb); have n1_ := Aside0.mk (Kd.R_lower (Kd.R_new' ho130 (Kd.R_lt (by (with_reducible repeat apply Kd.R_alloc); exact HO_13.out))) (keep_size (w := w) (g := g) (row := none) (by repeat (first | (with_reducible first | exact HK.out | apply KeepBut.set_ | apply keep_drewN | apply keep_drew | apply keep_alloc) | exact HK.out)))); have n2_ := Aside0.mk (IsS68.below (by repeat (first | (with_reducible first | exact HI0.out | apply IsS68.alloc | apply IsS68.drewN | apply IsS68.drew | apply IsS68.set_1) | exact HI0.out)) hb); have n3_ := Aside0.mk (KeepBut.trans (by repeat (first | (with_reducible first | exact HK.out | apply KeepBut.set_ | apply keep_drewN | apply keep_drew | apply keep_alloc) | exact HK.out)) (KeepBut.of_below hb g none) (.inl rfl)); have n4_ := Aside0.mk (below_step (by repeat (first | (with_reducible first | exact HB.out | apply below_alloc | apply pw_below_drewN | apply below_drew1 | refine below_set ?_ (IsS68.ge HI0.out)) | exact HB.out)) hb); clear HO_13; clear HI0; clear HK; clear HB; have HO_13 := n0_; have HO322 := n1_; have HI0 := n2_; have HK := n3_; have HB := n4_; clear n0_ n1_ n2_ n3_ n4_; clear hb ho130))
            go_ret
            exact ⟨_, by first | rfl | (simp [errW_none, errW_some] <;> rfl) | (simp only [← hji4, ← hji5]; first | rfl | (simp [errW_none, errW_some] <;> rfl)) | (simp [*, errW_none, errW_some] <;> rfl), by (with_reducible repeat apply Kd.R_alloc); exact Kd.R_mono HO322.out (fun _ hk => trivial), by repeat (first | (with_reducible first | exact HI0.out | apply IsS68.alloc | apply IsS68.drewN | apply IsS68.drew | apply IsS68.set_1) | exact HI0.out), by repeat (first | (with_reducible first | exact HB.out | apply below_alloc | apply pw_below_drewN | apply below_drew1 | refine below_set ?_ (IsS68.ge HI0.out)) | exact HB.out), by repeat (first | (with_reducible first | exact HK.out | apply KeepBut.set_ | apply keep_drewN | apply keep_drew | apply keep_alloc) | exact HK.out)⟩
           ·rw [if_neg c126] at H
            have c126b0 : (t318 == 0) = false := beq_eq_false_iff_ne.mpr c126
            have c126b1 : (t318 != 0) = true := bne_iff_ne.mpr c126
            by_cases c131 : t318 = 1
            ·rw [if_pos c131] at H
             have c131b0 : (t318 == 1) = true := beq_iff_eq.mpr c131
             have c131b1 : (t318 != 1) = false := bne_eq_false_iff_eq.mpr c131
             clear c131
             by_cases c132 : x13_116.length < 8796093022208
             ·rw [if_pos c132] at H
              have LMc132 := Aside0.mk c132
              clear c132
              obtain ⟨y323, hy323⟩ : ∃ y_ : List (S41), y_ = (x13_116 ++ [(⟨5, 0⟩ : S41)]) := ⟨_, rfl⟩
              replace H : (some (y323, t319)) = some (r1, r2) := by first | (rw [hy323]; with_reducible exact H) | (have H2_ := (Option.bind_some _ _).symm.trans H; rw [hy323]; with_reducible exact H2_) | (have H2_ := (Option.bind_some _ _).symm.trans H; with_reducible exact H2_) | with_reducible exact H | (rw [hy323]; exact H) | exact H
              have Ny323 := Aside0.mk hy323
              clear hy323
              simp only [Option.some.injEq, Prod.mk.injEq] at H
              obtain ⟨rfl, rfl⟩ := H
              go_wp2_with (first | ((with_reducible refine gate_callee (f := 69) rfl ?_); refine goesL_ (some 119) rfl rfl Try.func69 (by kernel_rfl) rfl #[.pointer (some ⟨g, 0, none⟩), .int .i64 a2] rfl (by (try simp only [List.map_toArray, List.map_cons, List.map_nil]); first | done | rfl | (simp only [List.length_drop, List.length_take]; rfl)) ?_; (with_reducible refine (spec_l20Rd_odd.calls kj116 g s0_0 t312 a2 true t317 w0 _ ?side1 ?side2 A123.out).mono ?_); (case side1 => repeat (first | (with_reducible first | exact HI0.out | apply IsS68.alloc | apply IsS68.drewN | apply IsS68.drew | apply IsS68.set_1) | exact HI0.out)); (case side2 => repeat (first | (with_reducible first | exact HB.out | apply below_alloc | apply pw_below_drewN | apply below_drew1 | refine below_set ?_ (IsS68.ge HI0.out)) | exact HB.out)); rintro e w133 ⟨rfl, hi, hb, hk⟩; refine ⟨_, rfl, ?_⟩; have n0_ := Aside0.mk (Kd.R_mono (Kd.R_keep (IsS68.apart (show IsS68 w0 _ g s0_0 t312 from by repeat (first | (with_reducible first | exact HI0.out | apply IsS68.alloc | apply IsS68.drewN | apply IsS68.drew | apply IsS68.set_1) | exact HI0.out)) (by (with_reducible repeat apply Kd.R_alloc); exact HO_13.out) (by decide)) hk (fun _ h => h.2)) (fun _ h => h.1)); have n1_ := Aside0.mk (KeepBut.trans (by repeat (first | (with_reducible first | exact HK.out | apply KeepBut.set_ | apply keep_drewN | apply keep_drew | apply keep_alloc) | exact HK.out)) hk (.inl rfl)); have n2_ := Aside0.mk (hb); have n3_ := Aside0.mk (hi); clear HO_13; clear HK; clear HB; clear HI0; have HO_13 := n0_; have HK := n1_; have HB := n2_; have HI0 := n3_; clear n0_ n1_ n2_ n3_; (try clear hb); (try clear hb2); (try clear hk); (try clear hi)) | ((with_reducible refine gate_callee (f := 64) rfl ?_); refine goesL_ (some 121) rfl rfl Try.func64 (by kernel_rfl) rfl #[.pointer (some ⟨g, 0, none⟩), .int .i64 3] rfl (by (try simp only [List.map_toArray, List.map_cons, List.map_nil]); first | done | rfl | (simp only [List.length_drop, List.length_take]; rfl)) ?_; (with_reducible refine (spec_l20Rd_pick.calls kj116 g s0_0 t317 3 t318 t319 w0 _ ?side1 ?side2 A125.out).mono ?_); (case side1 => repeat (first | (with_reducible first | exact HI0.out | apply IsS68.alloc | apply IsS68.drewN | apply IsS68.drew | apply IsS68.set_1) | exact HI0.out)); (case side2 => repeat (first | (with_reducible first | exact HB.out | apply below_alloc | apply pw_below_drewN | apply below_drew1 | refine below_set ?_ (IsS68.ge HI0.out)) | exact HB.out)); rintro e w134 ⟨rfl, hi, hb, hk⟩; refine ⟨_, rfl, ?_⟩; have n0_ := Aside0.mk (Kd.R_mono (Kd.R_keep (IsS68.apart (show IsS68 w0 _ g s0_0 t317 from by repeat (first | (with_reducible first | exact HI0.out | apply IsS68.alloc | apply IsS68.drewN | apply IsS68.drew | apply IsS68.set_1) | exact HI0.out)) (by (with_reducible repeat apply Kd.R_alloc); exact HO_13.out) (by decide)) hk (fun _ h => h.2)) (fun _ h => h.1)); have n1_ := Aside0.mk (KeepBut.trans (by repeat (first | (with_reducible first | exact HK.out | apply KeepBut.set_ | apply keep_drewN | apply keep_drew | apply keep_alloc) | exact HK.out)) hk (.inl rfl)); have n2_ := Aside0.mk (hb); have n3_ := Aside0.mk (hi); clear HO_13; clear HK; clear HB; clear HI0; have HO_13 := n0_; have HK := n1_; have HB := n2_; have HI0 := n3_; clear n0_ n1_ n2_ n3_; (try clear hb); (try clear hb2); (try clear hk); (try clear hi)) | ((with_reducible refine gate_builtin (b := .append) (xs := #[.tmp 132, .tmp 134]) rfl ?_); at_builtin; refine Kd.R_append k41 w.heap.size rfl (.tmp 132) (.tmp 134) 23 41 (.agg #[(.int .i64 0), (.int .i64 0)]) 16 rfl Try.underlying23 info41 rfl (by decide) (by omega) u13 x13_116 (⟨5, 0⟩ : S41) [.int .i64 5, .int .i64 0] (fun _ => True) (fun _ => False) rfl rfl ?aP (fun _ hk => hk.elim) ?aF ?aO (Below.refl _ _) ?aS ?aL ?_; (case aP => exact k41_mkM _ _ _ (⟨5, 0⟩ : S41)); (case aF => exact (fun _ _ => trivial)); (case aO => exact (by (with_reducible repeat apply Kd.R_alloc); exact HO_13.out)); (case aS => exact (keep_size (w := w) (g := g) (row := none) (by repeat (first | (with_reducible first | exact HK.out | apply KeepBut.set_ | apply keep_drewN | apply keep_drew | apply keep_alloc) | exact HK.out)))); (case aL => have := LMc132.out; omega); intro v324 w135 ho hb hg hat; rw [← Ny323.out] at ho; have n0_ := Aside0.mk (IsS68.grown (by repeat (first | (with_reducible first | exact HI0.out | apply IsS68.alloc | apply IsS68.drewN | apply IsS68.drew | apply IsS68.set_1) | exact HI0.out)) hg (IsS68.own_ne HI0.out HO_13.out (by decide))); have n1_ := Aside0.mk (below_weaken (by repeat (first | (with_reducible first | exact HB.out | apply below_alloc | apply pw_below_drewN | apply below_drew1 | refine below_set ?_ (IsS68.ge HI0.out)) | exact HB.out)) HL.out hb); have n2_ := Aside0.mk (KeepBut.trans (by repeat (first | (with_reducible first | exact HK.out | apply KeepBut.set_ | apply keep_drewN | apply keep_drew | apply keep_alloc) | exact HK.out)) (KeepBut.of_grown hg g) (Kd.R_base2 HO_13.out)); have n3_ := Aside0.mk (ho); clear HI0; clear HB; clear HK; clear HO_13; have HI0 := n0_; have HB := n1_; have HK := n2_; have HO325 := n3_; clear n0_ n1_ n2_ n3_; clear ho hb hg hat))
              go_ret
              exact ⟨_, by first | rfl | (simp [errW_none, errW_some] <;> rfl) | (simp only [← hji4, ← hji5]; first | rfl | (simp [errW_none, errW_some] <;> rfl)) | (simp [*, errW_none, errW_some] <;> rfl), by (with_reducible repeat apply Kd.R_alloc); exact HO325.out, by repeat (first | (with_reducible first | exact HI0.out | apply IsS68.alloc | apply IsS68.drewN | apply IsS68.drew | apply IsS68.set_1) | exact HI0.out), by repeat (first | (with_reducible first | exact HB.out | apply below_alloc | apply pw_below_drewN | apply below_drew1 | refine below_set ?_ (IsS68.ge HI0.out)) | exact HB.out), by repeat (first | (with_reducible first | exact HK.out | apply KeepBut.set_ | apply keep_drewN | apply keep_drew | apply keep_alloc) | exact HK.out)⟩
             ·rw [if_neg c132] at H
              exact absurd H (by simp)
            ·rw [if_neg c131] at H
             have c131b0 : (t318 == 1) = false := beq_eq_false_iff_ne.mpr c131
             have c131b1 : (t318 != 1) = true := bne_iff_ne.mpr c131
             replace H := Option.bind_eq_some_iff.mp H
             obtain ⟨⟨t326, t327⟩, A1360, H⟩ := H
             replace H : (if 0 < (x13_116.length : Int) then (some ((x13_116.set (0 : Int).toNat (⟨t326, 6⟩ : S41)), t327)) else (none)) = some (r1, r2) := H
             have A136 := Aside0.mk A1360
             clear A1360
             by_cases c137 : 0 < (x13_116.length : Int)
             ·rw [if_pos c137] at H
              have c137b0 : decide (0 < (x13_116.length : Int)) = true := decide_eq_true c137
              have c137b1 : decide (0 < x13_116.length) = true := decide_eq_true (by omega)
              clear c137
              obtain ⟨y328, hy328⟩ : ∃ y_ : List (S41), y_ = (x13_116.set (0 : Int).toNat (⟨t326, 6⟩ : S41)) := ⟨_, rfl⟩
              replace H : (some (y328, t327)) = some (r1, r2) := by first | (rw [hy328]; with_reducible exact H) | (have H2_ := (Option.bind_some _ _).symm.trans H; rw [hy328]; with_reducible exact H2_) | (have H2_ := (Option.bind_some _ _).symm.trans H; with_reducible exact H2_) | with_reducible exact H | (rw [hy328]; exact H) | exact H
              have Ny328 := Aside0.mk hy328
              clear hy328
              simp only [Option.some.injEq, Prod.mk.injEq] at H
              obtain ⟨rfl, rfl⟩ := H
              go_wp2_with (first | ((with_reducible refine gate_callee (f := 69) rfl ?_); refine goesL_ (some 119) rfl rfl Try.func69 (by kernel_rfl) rfl #[.pointer (some ⟨g, 0, none⟩), .int .i64 a2] rfl (by (try simp only [List.map_toArray, List.map_cons, List.map_nil]); first | done | rfl | (simp only [List.length_drop, List.length_take]; rfl)) ?_; (with_reducible refine (spec_l20Rd_odd.calls kj116 g s0_0 t312 a2 true t317 w0 _ ?side1 ?side2 A123.out).mono ?_); (case side1 => repeat (first | (with_reducible first | exact HI0.out | apply IsS68.alloc | apply IsS68.drewN | apply IsS68.drew | apply IsS68.set_1) | exact HI0.out)); (case side2 => repeat (first | (with_reducible first | exact HB.out | apply below_alloc | apply pw_below_drewN | apply below_drew1 | refine below_set ?_ (IsS68.ge HI0.out)) | exact HB.out)); rintro e w139 ⟨rfl, hi, hb, hk⟩; refine ⟨_, rfl, ?_⟩; have n0_ := Aside0.mk (Kd.R_mono (Kd.R_keep (IsS68.apart (show IsS68 w0 _ g s0_0 t312 from by repeat (first | (with_reducible first | exact HI0.out | apply IsS68.alloc | apply IsS68.drewN | apply IsS68.drew | apply IsS68.set_1) | exact HI0.out)) (by (with_reducible repeat apply Kd.R_alloc); exact HO_13.out) (by decide)) hk (fun _ h => h.2)) (fun _ h => h.1)); have n1_ := Aside0.mk (KeepBut.trans (by repeat (first | (with_reducible first | exact HK.out | apply KeepBut.set_ | apply keep_drewN | apply keep_drew | apply keep_alloc) | exact HK.out)) hk (.inl rfl)); have n2_ := Aside0.mk (hb); have n3_ := Aside0.mk (hi); clear HO_13; clear HK; clear HB; clear HI0; have HO_13 := n0_; have HK := n1_; have HB := n2_; have HI0 := n3_; clear n0_ n1_ n2_ n3_; (try clear hb); (try clear hb2); (try clear hk); (try clear hi)) | ((with_reducible refine gate_callee (f := 64) rfl ?_); refine goesL_ (some 121) rfl rfl Try.func64 (by kernel_rfl) rfl #[.pointer (some ⟨g, 0, none⟩), .int .i64 3] rfl (by (try simp only [List.map_toArray, List.map_cons, List.map_nil]); first | done | rfl | (simp only [List.length_drop, List.length_take]; rfl)) ?_; (with_reducible refine (spec_l20Rd_pick.calls kj116 g s0_0 t317 3 t318 t319 w0 _ ?side1 ?side2 A125.out).mono ?_); (case side1 => repeat (first | (with_reducible first | exact HI0.out | apply IsS68.alloc | apply IsS68.drewN | apply IsS68.drew | apply IsS68.set_1) | exact HI0.out)); (case side2 => repeat (first | (with_reducible first | exact HB.out | apply below_alloc | apply pw_below_drewN | apply below_drew1 | refine below_set ?_ (IsS68.ge HI0.out)) | exact HB.out)); rintro e w140 ⟨rfl, hi, hb, hk⟩; refine ⟨_, rfl, ?_⟩; have n0_ := Aside0.mk (Kd.R_mono (Kd.R_keep (IsS68.apart (show IsS68 w0 _ g s0_0 t317 from by repeat (first | (with_reducible first | exact HI0.out | apply IsS68.alloc | apply IsS68.drewN | apply IsS68.drew | apply IsS68.set_1) | exact HI0.out)) (by (with_reducible repeat apply Kd.R_alloc); exact HO_13.out) (by decide)) hk (fun _ h => h.2)) (fun _ h => h.1)); have n1_ := Aside0.mk (KeepBut.trans (by repeat (first | (with_reducible first | exact HK.out | apply KeepBut.set_ | apply keep_drewN | apply keep_drew | apply keep_alloc) | exact HK.out)) hk (.inl rfl)); have n2_ := Aside0.mk (hb); have n3_ := Aside0.mk (hi); clear HO_13; clear HK; clear HB; clear HI0; have HO_13 := n0_; have HK := n1_; have HB := n2_; have HI0 := n3_; clear n0_ n1_ n2_ n3_; (try clear hb); (try clear hb2); (try clear hk); (try clear hi)) | ((with_reducible refine gate_callee (f := 64) rfl ?_); refine goesL_ (some 124) rfl rfl Try.func64 (by kernel_rfl) rfl #[.pointer (some ⟨g, 0, none⟩), .int .i64 2] rfl (by (try simp only [List.map_toArray, List.map_cons, List.map_nil]); first | done | rfl | (simp only [List.length_drop, List.length_take]; rfl)) ?_; (with_reducible refine (spec_l20Rd_pick.calls kj116 g s0_0 t319 2 t326 t327 w0 _ ?side1 ?side2 A136.out).mono ?_); (case side1 => repeat (first | (with_reducible first | exact HI0.out | apply IsS68.alloc | apply IsS68.drewN | apply IsS68.drew | apply IsS68.set_1) | exact HI0.out)); (case side2 => repeat (first | (with_reducible first | exact HB.out | apply below_alloc | apply pw_below_drewN | apply below_drew1 | refine below_set ?_ (IsS68.ge HI0.out)) | exact HB.out)); rintro e w141 ⟨rfl, hi, hb, hk⟩; refine ⟨_, rfl, ?_⟩; have n0_ := Aside0.mk (Kd.R_mono (Kd.R_keep (IsS68.apart (show IsS68 w0 _ g s0_0 t319 from by repeat (first | (with_reducible first | exact HI0.out | apply IsS68.alloc | apply IsS68.drewN | apply IsS68.drew | apply IsS68.set_1) | exact HI0.out)) (by (with_reducible repeat apply Kd.R_alloc); exact HO_13.out) (by decide)) hk (fun _ h => h.2)) (fun _ h => h.1)); have n1_ := Aside0.mk (KeepBut.trans (by repeat (first | (with_reducible first | exact HK.out | apply KeepBut.set_ | apply keep_drewN | apply keep_drew | apply keep_alloc) | exact HK.out)) hk (.inl rfl)); have n2_ := Aside0.mk (hb); have n3_ := Aside0.mk (hi); clear HO_13; clear HK; clear HB; clear HI0; have HO_13 := n0_; have HK := n1_; have HB := n2_; have HI0 := n3_; clear n0_ n1_ n2_ n3_; (try clear hb); (try clear hb2); (try clear hk); (try clear hi); have p138 : 0 ≤ (0 : Int) := (by omega); have q138 : (0 : Int) < ((x13_116.length : Int) : Int) := of_decide_eq_true (by first | (with_reducible assumption) | assumption); have qi138 : (0 < x13_116.length) = True := eq_true (by omega); obtain ⟨go138, co138, eo138, gb138, gl138, cl138, HG138⟩ := Kd.R_form HO_13.out (by omega); (first | cases eo138 | (injection eo138 with ea_ en_ ec_; (first | subst ea_ | (injection ea_ with ea_; subst ea_)); subst ec_; clear en_)); have GB138 := Aside0.mk gb138; have GG138 := Aside0.mk HG138; clear gb138 gl138 HG138; obtain ⟨ce138, hcl138, hM138, hcc138, hfr138⟩ := Kd.R_elem HO_13.out z41 (0 : Int) p138 q138; obtain rfl := k41_openM hM138; have hx138_0 : w141.cell? ⟨go138, (0 : Int).toNat * 2, none⟩ = some (.int .i64 ((rd_T41 x13_116 0).f0)) := hcc138 0 _ rfl; have hx138_1 : w141.cell? ⟨go138, (0 : Int).toNat * 2 + 1, none⟩ = some (.int .i64 ((rd_T41 x13_116 0).f1)) := hcc138 1 _ rfl; have hf138_0 : w141.frozen? ⟨go138, (0 : Int).toNat * 2, none⟩ = false := hfr138 0; have hf138_1 : w141.frozen? ⟨go138, (0 : Int).toNat * 2 + 1, none⟩ = false := hfr138 1; clear hcl138 hcc138 hfr138; (try clear hM138); skip; (try rw [show ((0 : Int)).toNat = 0 from rfl] at hx138_0); (try simp only [Nat.reduceMul, Nat.zero_mul, Nat.zero_add, Nat.reduceAdd] at hx138_0); (try rw [show ((0 : Int)).toNat = 0 from rfl] at hf138_0); (try simp only [Nat.reduceMul, Nat.zero_mul, Nat.zero_add, Nat.reduceAdd] at hf138_0); (try rw [show ((0 : Int)).toNat = 0 from rfl] at hx138_1); (try simp only [Nat.reduceMul, Nat.zero_mul, Nat.zero_add, Nat.reduceAdd] at hx138_1); (try rw [show ((0 : Int)).toNat = 0 from rfl] at hf138_1); (try simp only [Nat.reduceMul, Nat.zero_mul, Nat.zero_add, Nat.reduceAdd] at hf138_1); replace p138 := eq_true p138; replace q138 := eq_true q138; have HX142 := Aside0.mk (show Kd.R k41 41 w141 w.heap.size (fun _ => True) (.slice (some ⟨go138, 0, none⟩) x13_116.length co138) x13_116 from (by (with_reducible repeat apply Kd.R_alloc); exact HO_13.out)); obtain ⟨ce142, hcl142, hM142, hcc142, hfr142⟩ := Kd.R_elem HX142.out z41 (0 : Int) (by omega) (by have h_ : (0 : Int) < ((x13_116.length : Int) : Int) := of_decide_eq_true (by first | (with_reducible assumption) | assumption); first | exact h_ | (have e_ := (Kd.R_reads' HO_13.out).1; omega) | simpa using h_); obtain rfl := k41_openM hM142; have HP142 := Kd.R_seg HX142.out (0 : Int) (by omega) (by have h_ : (0 : Int) < ((x13_116.length : Int) : Int) := of_decide_eq_true (by first | (with_reducible assumption) | assumption); first | exact h_ | (have e_ := (Kd.R_reads' HO_13.out).1; omega) | simpa using h_) (seg := [.int .i64 t326, .int .i64 6]) (j := 0) hcl142 hcc142 (show 2 ≤ 2 from by decide) (x' := (⟨t326, 6⟩ : S41)) (k41_mkM _ _ _ (⟨t326, 6⟩ : S41) ) (fun _ hk => hk); have hx142_0 := hcc142 0 _ rfl; (try simp only [show (k41).sz = 2 from rfl, Nat.mul_one, Nat.add_zero] at hx142_0); (try rw [show ((0 : Int)).toNat = 0 from rfl] at hx142_0); (try simp only [Nat.reduceMul, Nat.zero_mul, Nat.zero_add, Nat.reduceAdd] at hx142_0); have hf142_0 := hfr142 0; (try simp only [show (k41).sz = 2 from rfl, Nat.mul_one, Nat.add_zero] at hf142_0); (try rw [show ((0 : Int)).toNat = 0 from rfl] at hf142_0); (try simp only [Nat.reduceMul, Nat.zero_mul, Nat.zero_add, Nat.reduceAdd] at hf142_0); have hx142_1 := hcc142 1 _ rfl; (try simp only [show (k41).sz = 2 from rfl, Nat.mul_one, Nat.add_zero] at hx142_1); (try rw [show ((0 : Int)).toNat = 0 from rfl] at hx142_1); (try simp only [Nat.reduceMul, Nat.zero_mul, Nat.zero_add, Nat.reduceAdd] at hx142_1); have hf142_1 := hfr142 1; (try simp only [show (k41).sz = 2 from rfl, Nat.mul_one, Nat.add_zero] at hf142_1); (try rw [show ((0 : Int)).toNat = 0 from rfl] at hf142_1); (try simp only [Nat.reduceMul, Nat.zero_mul, Nat.zero_add, Nat.reduceAdd] at hf142_1); clear hcl142 hcc142 hfr142; (try clear hM142); skip) | ((with_reducible refine gate_store (t := 41) (p := 126) rfl ?_); refine store_event (t := 41) (p := 126) (v := ?vo_w143) (w1 := ((w141.setCell ⟨go138, 0, none⟩ (.int .i64 t326)).setCell ⟨go138, 1, none⟩ (.int .i64 6))) ?hg ?ho ?hn ?hr ?_; (case ho => rfl); (case hg => rfl); (case hn => rfl); (case hr => first | (go_simp; done) | (go_simp; rfl)); intro w143 hw; have hg : w141.grownBy w143 (some go138) := (by rw [hw]; exact HP142.2); have hp_ : Kd.R k41 41 w143 w.heap.size (fun _ => True) (.slice (some ⟨go138, 0, none⟩) x13_116.length co138) y328 := (by rw [hw, Ny328.out]; exact HP142.1); clear HP142; have n0_ := Aside0.mk (hp_); have n1_ := Aside0.mk (IsS68.grown (by repeat (first | (with_reducible first | exact HI0.out | apply IsS68.alloc | apply IsS68.drewN | apply IsS68.drew | apply IsS68.set_1) | exact HI0.out)) hg (IsS68.own_ne HI0.out HO_13.out (by decide))); have n2_ := Aside0.mk ((by rw [hw]; exact below_set (below_set (HB.out) (Nat.le_trans HL.out GB138.out)) (Nat.le_trans HL.out GB138.out) : Below w0.heap.size w0 w143)); have n3_ := Aside0.mk (KeepBut.trans (by repeat (first | (with_reducible first | exact HK.out | apply KeepBut.set_ | apply keep_drewN | apply keep_drew | apply keep_alloc) | exact HK.out)) (KeepBut.of_grown hg g) (Kd.R_base2 HO_13.out)); clear HO_13; clear HI0; clear HB; clear HK; have HO_13 := n0_; have HI0 := n1_; have HB := n2_; have HK := n3_; clear n0_ n1_ n2_ n3_; clear hg hw hp_))
              go_ret
              exact ⟨_, by first | rfl | (simp [errW_none, errW_some] <;> rfl) | (simp only [← hji4, ← hji5]; first | rfl | (simp [errW_none, errW_some] <;> rfl)) | (simp [*, errW_none, errW_some] <;> rfl), by (with_reducible repeat apply Kd.R_alloc); exact HO_13.out, by repeat (first | (with_reducible first | exact HI0.out | apply IsS68.alloc | apply IsS68.drewN | apply IsS68.drew | apply IsS68.set_1) | exact HI0.out), by repeat (first | (with_reducible first | exact HB.out | apply below_alloc | apply pw_below_drewN | apply below_drew1 | refine below_set ?_ (IsS68.ge HI0.out)) | exact HB.out), by repeat (first | (with_reducible first | exact HK.out | apply KeepBut.set_ | apply keep_drewN | apply keep_drew | apply keep_alloc) | exact HK.out)⟩
             ·rw [if_neg c137] at H
              exact absurd H (by simp)
          ·replace c124 := Bool.eq_false_iff.mpr c124
           subst c124
           have H1 : (some (x13_116, t317)) = some (r1, r2) := by rw [if_neg (show ¬ (false = true) by decide)] at H; exact H
           clear H
           have H := H1
           clear H1
           simp only [Option.some.injEq, Prod.mk.injEq] at H
           obtain ⟨rfl, rfl⟩ := H
           go_wp2_with (first | ((with_reducible refine gate_callee (f := 69) rfl ?_); refine goesL_ (some 119) rfl rfl Try.func69 (by kernel_rfl) rfl #[.pointer (some ⟨g, 0, none⟩), .int .i64 a2] rfl (by (try simp only [List.map_toArray, List.map_cons, List.map_nil]); first | done | rfl | (simp only [List.length_drop, List.length_take]; rfl)) ?_; (with_reducible refine (spec_l20Rd_odd.calls kj116 g s0_0 t312 a2 false t317 w0 _ ?side1 ?side2 A123.out).mono ?_); (case side1 => repeat (first | (with_reducible first | exact HI0.out | apply IsS68.alloc | apply IsS68.drewN | apply IsS68.drew | apply IsS68.set_1) | exact HI0.out)); (case side2 => repeat (first | (with_reducible first | exact HB.out | apply below_alloc | apply pw_below_drewN | apply below_drew1 | refine below_set ?_ (IsS68.ge HI0.out)) | exact HB.out)); rintro e w144 ⟨rfl, hi, hb, hk⟩; refine ⟨_, rfl, ?_⟩; have n0_ := Aside0.mk (Kd.R_mono (Kd.R_keep (IsS68.apart (show IsS68 w0 _ g s0_0 t312 from by repeat (first | (with_reducible first | exact HI0.out | apply IsS68.alloc | apply IsS68.drewN | apply IsS68.drew | apply IsS68.set_1) | exact HI0.out)) (by (with_reducible repeat apply Kd.R_alloc); exact HO_13.out) (by decide)) hk (fun _ h => h.2)) (fun _ h => h.1)); have n1_ := Aside0.mk (KeepBut.trans (by repeat (first | (with_reducible first | exact HK.out | apply KeepBut.set_ | apply keep_drewN | apply keep_drew | apply keep_alloc) | exact HK.out)) hk (.inl rfl)); have n2_ := Aside0.mk (hb); have n3_ := Aside0.mk (hi); clear HO_13; clear HK; clear HB; clear HI0; have HO_13 := n0_; have HK := n1_; have HB := n2_; have HI0 := n3_; clear n0_ n1_ n2_ n3_; (try clear hb); (try clear hb2); (try clear hk); (try clear hi)))
           go_ret
           exact ⟨_, by first | rfl | (simp [errW_none, errW_some] <;> rfl) | (simp only [← hji4, ← hji5]; first | rfl | (simp [errW_none, errW_some] <;> rfl)) | (simp [*, errW_none, errW_some] <;> rfl), by (with_reducible repeat apply Kd.R_alloc); exact HO_13.out, by repeat (first | (with_reducible first | exact HI0.out | apply IsS68.alloc | apply IsS68.drewN | apply IsS68.drew | apply IsS68.set_1) | exact HI0.out), by repeat (first | (with_reducible first | exact HB.out | apply below_alloc | apply pw_below_drewN | apply below_drew1 | refine below_set ?_ (IsS68.ge HI0.out)) | exact HB.out), by repeat (first | (with_reducible first | exact HK.out | apply KeepBut.set_ | apply keep_drewN | apply keep_drew | apply keep_alloc) | exact HK.out)⟩
       ·rw [if_neg c115] at H
        exact absurd H (by simp)

end Go.Proofs.Ytigkmppgbaoafaa.PFnMatterIn
