-- Made by a program of this session (wip/tools/patchprint.py), not by the kit itself.
import Derived.Test.YtigkmppgbaoafaaPFnAlwaysOkx0
import Derived.Test.YtigkmppgbaoafaaPFnAlwaysOkx7
namespace Go.Proofs.Ytigkmppgbaoafaa.PFnAlwaysOk
open Go.RowKit Go.Proofs.YtigkmppgbaoafaaW.PrintWords Go.Proofs.YtigkmppgbaoafaaW.PrintLast Go.Proofs.YtigkmppgbaoafaaW.PrintMore
attribute [local go_sem] max2_int min2_int max_two min_two max_three min_three max_four min_four   -- for this text's walks alone
set_option linter.unusedVariables false
set_option linter.unusedSimpArgs false

attribute [local go_sem] setCell_isSome
/-! ### spec_l20Term: function 65 -/
mutual
def spec_l20Term.l0 : Nat → Int → Int → List (List (S41)) → Int → List Int → Int → Option ((List (S41)) × Int)
 | 0, _, _, _, _, _, _ => none
 | k + 1, x1, x2, x7, x8, x1000, x1001 => if x8 > 0 then ((spec_l20Rd_pick.f k x1000 x1001 4).bind fun bt189 => (if bt189.1 = 0 then ((spec_l20Rd_pick.f k x1000 bt189.2 (wrap64 (x1 + 2))).bind fun bt191 => (if x7.length < 5864062014805 then (spec_l20Term.l0 k x1 x2 (x7 ++ [(([(⟨1, bt191.1⟩ : S41)] : List (S41)))]) (wrap64 (x8 - 1)) x1000 bt191.2) else (none))) else ((spec_l20Rd_pick.f k x1000 bt189.2 x1).bind fun bt199 => (if x7.length < 5864062014805 then (spec_l20Term.l0 k x1 x2 (x7 ++ [(([(⟨0, bt199.1⟩ : S41)] : List (S41)))]) (wrap64 (x8 - 1)) x1000 bt199.2) else (none))))) else (spec_l20Term.l1 k x2 x7 3 x1000 x1001)
def spec_l20Term.l1 : Nat → Int → List (List (S41)) → Int → List Int → Int → Option ((List (S41)) × Int)
 | 0, _, _, _, _, _ => none
 | k + 1, x2, x7, x9, x1000, x1001 => if (x7.length : Int) > 1 then ((spec_l20Rd_pick.f k x1000 x1001 (wrap64 ((x7.length : Int) - 1))).bind fun bt207 => (if x9 > 0 then ((spec_l20Rd_pick.f k x1000 bt207.2 4).bind fun bt209 => (if bt209.1 = 0 then ((some (([] : List (S41)) : List (S41))).bind fun y211 => (if 0 ≤ bt207.1 then (if bt207.1 < (x7.length : Int) then (if y211.length + (rd_L3 x7 bt207.1).length < 8796093022208 then ((some (y211 ++ (rd_L3 x7 bt207.1) : List (S41))).bind fun y215 => (if y215.length < 8796093022208 then (spec_l20Term.l1 k x2 (x7.set (bt207.1 : Int).toNat (y215 ++ [(⟨2, 0⟩ : S41)])) (wrap64 (x9 - 1)) x1000 bt209.2) else (none))) else (none)) else (none)) else (none))) else ((some (([] : List (S41)) : List (S41))).bind fun y222 => (if 0 ≤ bt207.1 then (if bt207.1 < (x7.length : Int) then (if y222.length + (rd_L3 x7 bt207.1).length < 8796093022208 then ((some (y222 ++ (rd_L3 x7 bt207.1) : List (S41))).bind fun y226 => (if 0 ≤ (wrap64 (bt207.1 + 1)) then (if (wrap64 (bt207.1 + 1)) < (x7.length : Int) then (if y226.length + (rd_L3 x7 (wrap64 (bt207.1 + 1))).length < 8796093022208 then ((some (y226 ++ (rd_L3 x7 (wrap64 (bt207.1 + 1))) : List (S41))).bind fun y230 => ((spec_l20Rd_pick.f k x1000 bt209.2 3).bind fun bt233 => (if y230.length < 8796093022208 then ((some (([] : List (List (S41))) : List (List (S41)))).bind fun y238 => (if bt207.1 ≤ (x7.length : Int) then ((some (x7.take (bt207.1 : Int).toNat : List (List (S41)))).bind fun y241 => (if y238.length + y241.length < 5864062014805 then ((some (y238 ++ y241 : List (List (S41)))).bind fun y245 => (if y245.length < 5864062014805 then ((some (y245 ++ [(y230 ++ [(⟨wrap64 (3 + bt233.1), 0⟩ : S41)])] : List (List (S41)))).bind fun y248 => (if 0 ≤ (wrap64 (bt207.1 + 2)) then (if (wrap64 (bt207.1 + 2)) ≤ (x7.length : Int) then ((some (x7.drop ((wrap64 (bt207.1 + 2)) : Int).toNat : List (List (S41)))).bind fun y251 => (if y248.length + y251.length < 5864062014805 then (spec_l20Term.l1 k x2 (y248 ++ y251) x9 x1000 bt233.2) else (none))) else (none)) else (none))) else (none))) else (none))) else (none))) else (none)))) else (none)) else (none)) else (none))) else (none)) else (none)) else (none))))) else ((some (([] : List (S41)) : List (S41))).bind fun y258 => (if 0 ≤ bt207.1 then (if bt207.1 < (x7.length : Int) then (if y258.length + (rd_L3 x7 bt207.1).length < 8796093022208 then ((some (y258 ++ (rd_L3 x7 bt207.1) : List (S41))).bind fun y262 => (if 0 ≤ (wrap64 (bt207.1 + 1)) then (if (wrap64 (bt207.1 + 1)) < (x7.length : Int) then (if y262.length + (rd_L3 x7 (wrap64 (bt207.1 + 1))).length < 8796093022208 then ((some (y262 ++ (rd_L3 x7 (wrap64 (bt207.1 + 1))) : List (S41))).bind fun y266 => ((spec_l20Rd_pick.f k x1000 bt207.2 3).bind fun bt269 => (if y266.length < 8796093022208 then ((some (([] : List (List (S41))) : List (List (S41)))).bind fun y274 => (if bt207.1 ≤ (x7.length : Int) then ((some (x7.take (bt207.1 : Int).toNat : List (List (S41)))).bind fun y277 => (if y274.length + y277.length < 5864062014805 then ((some (y274 ++ y277 : List (List (S41)))).bind fun y281 => (if y281.length < 5864062014805 then ((some (y281 ++ [(y266 ++ [(⟨wrap64 (3 + bt269.1), 0⟩ : S41)])] : List (List (S41)))).bind fun y284 => (if 0 ≤ (wrap64 (bt207.1 + 2)) then (if (wrap64 (bt207.1 + 2)) ≤ (x7.length : Int) then ((some (x7.drop ((wrap64 (bt207.1 + 2)) : Int).toNat : List (List (S41)))).bind fun y287 => (if y284.length + y287.length < 5864062014805 then (spec_l20Term.l1 k x2 (y284 ++ y287) x9 x1000 bt269.2) else (none))) else (none)) else (none))) else (none))) else (none))) else (none))) else (none)))) else (none)) else (none)) else (none))) else (none)) else (none)) else (none))))) else (if 0 < (x7.length : Int) then ((spec_l20Rd_pick.f k x1000 x1001 5).bind fun bt295 => (if bt295.1 = 0 then (if (rd_L3 x7 0).length < 8796093022208 then (spec_l20Term.j2 k x2 ((rd_L3 x7 0) ++ [(⟨2, 0⟩ : S41)]) x1000 bt295.2) else (none)) else (spec_l20Term.j2 k x2 (rd_L3 x7 0) x1000 bt295.2))) else (none))
def spec_l20Term.j2 : Nat → Int → List (S41) → List Int → Int → Option ((List (S41)) × Int)
 | 0, _, _, _, _ => none
 | k + 1, x2, x13, x1000, x1001 => (spec_l20Rd_odd.f k x1000 x1001 x2).bind fun bt300 => (if bt300.1 = true then ((spec_l20Rd_pick.f k x1000 bt300.2 3).bind fun bt302 => (if bt302.1 = 0 then (some ((([] : List (S41))), bt302.2)) else (if bt302.1 = 1 then (if x13.length < 8796093022208 then (some ((x13 ++ [(⟨5, 0⟩ : S41)]), bt302.2)) else (none)) else ((spec_l20Rd_pick.f k x1000 bt302.2 2).bind fun bt310 => (if 0 < (x13.length : Int) then (some ((x13.set (0 : Int).toNat (⟨bt310.1, 6⟩ : S41)), bt310.2)) else (none)))))) else (some (x13, bt300.2)))
end
def spec_l20Term.f (k : Nat) (s0_0 : List Int) (s0_1 : Int) (a1 : Int) (a2 : Int) : Option ((List (S41)) × Int) := (spec_l20Rd_pick.f k s0_0 s0_1 4).bind fun bt187 => (spec_l20Term.l0 k (mn (mx a1 1) 4) a2 (([] : List (List (S41)))) (wrap64 (1 + bt187.1)) s0_0 bt187.2)
theorem spec_l20Term.mono_l : ∀ k, (∀ y0 y1 y2 y3 y4 y5, LeO (spec_l20Term.l0 k y0 y1 y2 y3 y4 y5) (spec_l20Term.l0 (k + 1) y0 y1 y2 y3 y4 y5)) ∧ (∀ y0 y1 y2 y3 y4, LeO (spec_l20Term.l1 k y0 y1 y2 y3 y4) (spec_l20Term.l1 (k + 1) y0 y1 y2 y3 y4)) ∧ (∀ y0 y1 y2 y3, LeO (spec_l20Term.j2 k y0 y1 y2 y3) (spec_l20Term.j2 (k + 1) y0 y1 y2 y3))
 | 0 => ⟨fun _ _ _ _ _ _ r h => by simp [spec_l20Term.l0] at h, fun _ _ _ _ _ r h => by simp [spec_l20Term.l1] at h, fun _ _ _ _ r h => by simp [spec_l20Term.j2] at h⟩
 | k + 1 => by
  obtain ⟨ih0, ih1, ih2⟩ := spec_l20Term.mono_l k
  refine ⟨?_, ?_, ?_⟩
  ·intro y0 y1 y2 y3 y4 y5
   unfold spec_l20Term.l0
   repeat' first
   | (with_reducible exact ih0 _ _ _ _ _ _)
   | (with_reducible exact ih1 _ _ _ _ _)
   | (with_reducible exact ih2 _ _ _ _)
   | (with_reducible exact spec_l20Rd_odd.mono _ _ _ _)
   | (with_reducible exact spec_l20Rd_pick.mono _ _ _ _)
   | (with_reducible exact LeO.refl _)
   | (with_reducible exact LeO.none _)
   | (with_reducible refine LeO.ite ?_ ?_)
   | (with_reducible refine LeO.bind ?_ (fun _ => ?_))
   | exact ih0 _ _ _ _ _ _
   | exact ih1 _ _ _ _ _
   | exact ih2 _ _ _ _
   | exact spec_l20Rd_odd.mono _ _ _ _
   | exact spec_l20Rd_pick.mono _ _ _ _
   | exact LeO.none _
   | refine LeO.ite ?_ ?_
   | refine LeO.bind ?_ (fun _ => ?_)
  ·intro y0 y1 y2 y3 y4
   unfold spec_l20Term.l1
   repeat' first
   | (with_reducible exact ih0 _ _ _ _ _ _)
   | (with_reducible exact ih1 _ _ _ _ _)
   | (with_reducible exact ih2 _ _ _ _)
   | (with_reducible exact spec_l20Rd_odd.mono _ _ _ _)
   | (with_reducible exact spec_l20Rd_pick.mono _ _ _ _)
   | (with_reducible exact LeO.refl _)
   | (with_reducible exact LeO.none _)
   | (with_reducible refine LeO.ite ?_ ?_)
   | (with_reducible refine LeO.bind ?_ (fun _ => ?_))
   | exact ih0 _ _ _ _ _ _
   | exact ih1 _ _ _ _ _
   | exact ih2 _ _ _ _
   | exact spec_l20Rd_odd.mono _ _ _ _
   | exact spec_l20Rd_pick.mono _ _ _ _
   | exact LeO.none _
   | refine LeO.ite ?_ ?_
   | refine LeO.bind ?_ (fun _ => ?_)
  ·intro y0 y1 y2 y3
   unfold spec_l20Term.j2
   repeat' first
   | (with_reducible exact ih0 _ _ _ _ _ _)
   | (with_reducible exact ih1 _ _ _ _ _)
   | (with_reducible exact ih2 _ _ _ _)
   | (with_reducible exact spec_l20Rd_odd.mono _ _ _ _)
   | (with_reducible exact spec_l20Rd_pick.mono _ _ _ _)
   | (with_reducible exact LeO.refl _)
   | (with_reducible exact LeO.none _)
   | (with_reducible refine LeO.ite ?_ ?_)
   | (with_reducible refine LeO.bind ?_ (fun _ => ?_))
   | exact ih0 _ _ _ _ _ _
   | exact ih1 _ _ _ _ _
   | exact ih2 _ _ _ _
   | exact spec_l20Rd_odd.mono _ _ _ _
   | exact spec_l20Rd_pick.mono _ _ _ _
   | exact LeO.none _
   | refine LeO.ite ?_ ?_
   | refine LeO.bind ?_ (fun _ => ?_)
theorem spec_l20Term.mono : ∀ a0 a1 a2 a3 k, LeO (spec_l20Term.f k a0 a1 a2 a3) (spec_l20Term.f (k + 1) a0 a1 a2 a3) := by
 intro a0 a1 a2 a3 k
 obtain ⟨ih0, ih1, ih2⟩ := spec_l20Term.mono_l k
 unfold spec_l20Term.f
 repeat' first
   | (with_reducible exact ih0 _ _ _ _ _ _)
   | (with_reducible exact ih1 _ _ _ _ _)
   | (with_reducible exact ih2 _ _ _ _)
   | (with_reducible exact spec_l20Rd_odd.mono _ _ _ _)
   | (with_reducible exact spec_l20Rd_pick.mono _ _ _ _)
   | (with_reducible exact LeO.refl _)
   | (with_reducible exact LeO.none _)
   | (with_reducible refine LeO.ite ?_ ?_)
   | (with_reducible refine LeO.bind ?_ (fun _ => ?_))
   | exact ih0 _ _ _ _ _ _
   | exact ih1 _ _ _ _ _
   | exact ih2 _ _ _ _
   | exact spec_l20Rd_odd.mono _ _ _ _
   | exact spec_l20Rd_pick.mono _ _ _ _
   | exact LeO.none _
   | refine LeO.ite ?_ ?_
   | refine LeO.bind ?_ (fun _ => ?_)
def spec_l20Term.T15 : Bool × List (List Nat × List Nat) := (true, [([], []), ([], []), ([], []), ([1, 2], [1, 2]), ([3], [3]), ([0, 4], [0, 4]), ([], []), ([], []), ([7], [7]), ([6, 8], [6, 8]), ([9], [9]), ([5, 10, 5], [5, 10]), ([], []), ([12, 11], [12]), ([13], [13]), ([14], [14]), ([15], [15]), ([11, 16, 13], [11, 16]), ([17, 17, 0, 1, 2, 3, 4, 5, 6, 7, 8, 9, 10, 11, 12, 13, 14, 15, 16, 17], [17])])
def spec_l20Term.B15 : List Nat := [0, 0, 0, 6, 14, 31, 0, 0, 128, 448, 960, 2047, 0, 8191, 16383, 32767, 65535, 131071, 262143]
theorem spec_l20Term.tab15 : rtab .any (opsOf Try.f65 15) = spec_l20Term.T15 := by kernel_rfl
theorem spec_l20Term.bits15 : waitsOk spec_l20Term.T15.2 spec_l20Term.B15 = true := by kernel_rfl
set_option maxHeartbeats 8000000 in
set_option maxRecDepth 100000 in
theorem spec_l20Term.calls (k : Nat) (g : Nat) (s0_0 : List Int) (s0_1 : Int) (a1 : Int) (a2 : Int) (r1 : List (S41)) (r2 : Int) (w0 w : World) (hI : IsS68 w0 w g s0_0 s0_1) (hB : Below w0.heap.size w0 w) (h : spec_l20Term.f k s0_0 s0_1 a1 a2 = some (r1, r2)) :
  Calls Try.prog 65 #[.pointer (some ⟨g, 0, none⟩), .int .i64 a1, .int .i64 a2] w fun e w' => ∃ v0_ : Value, e = .returned (v0_) ∧ Kd.R k41 41 w' w.heap.size (fun _ => True) v0_ r1 ∧ IsS68 w0 w' g s0_0 r2 ∧ Below w0.heap.size w0 w' ∧ KeepBut w w' g none := by
 have hu41 := Try.underlying41
 have HI0 := Aside0.mk hI
 have HK := Aside0.mk (KeepBut.refl w g none)
 have HL := Aside0.mk hB.size
 clear hI
 have HW0 := Aside0.mk hB.size
 have HB := Aside0.mk hB
 clear hB
 have H : ((spec_l20Rd_pick.f k s0_0 s0_1 4).bind fun bt187 => (spec_l20Term.l0 k (mn (mx a1 1) 4) a2 (([] : List (List (S41)))) (wrap64 (1 + bt187.1)) s0_0 bt187.2)) = some (r1, r2) := h
 clear h
 obtain ⟨ji4, hji4⟩ : ∃ j_ : Int, (mx a1 1) = j_ := ⟨_, rfl⟩
 replace H : ((spec_l20Rd_pick.f k s0_0 s0_1 4).bind fun bt187 => (spec_l20Term.l0 k (mn (ji4) 4) a2 (([] : List (List (S41)))) (wrap64 (1 + bt187.1)) s0_0 bt187.2)) = some (r1, r2) := by first | (rw [hji4] at H; exact H) | (simp only [hji4] at H ⊢; exact H)
 (try (have hji4l : 1 ≤ ji4 := by (rw [← hji4]; unfold mx; (repeat' split) <;> omega)))
 (try (have hji4m : 0 ≤ ji4 := by omega))
 have hji4_ : (if a1 < 1 then 1 else a1) = ji4 := hji4
 obtain ⟨ji5, hji5⟩ : ∃ j_ : Int, (mn (ji4) 4) = j_ := ⟨_, rfl⟩
 replace H : ((spec_l20Rd_pick.f k s0_0 s0_1 4).bind fun bt187 => (spec_l20Term.l0 k ji5 a2 (([] : List (List (S41)))) (wrap64 (1 + bt187.1)) s0_0 bt187.2)) = some (r1, r2) := by first | (rw [hji5] at H; exact H) | (simp only [hji5] at H ⊢; exact H)
 have hji5_ : (if 4 < (ji4) then 4 else (ji4)) = ji5 := hji5
 obtain ⟨y184, hy184⟩ : ∃ y_ : List (List (S41)), y_ = (([] : List (List (S41)))) := ⟨_, rfl⟩
 replace H : ((spec_l20Rd_pick.f k s0_0 s0_1 4).bind fun bt187 => (spec_l20Term.l0 k ji5 a2 y184 (wrap64 (1 + bt187.1)) s0_0 bt187.2)) = some (r1, r2) := by first | (rw [hy184]; with_reducible exact H) | (have H2_ := (Option.bind_some _ _).symm.trans H; rw [hy184]; with_reducible exact H2_) | (have H2_ := (Option.bind_some _ _).symm.trans H; with_reducible exact H2_) | with_reducible exact H | (rw [hy184]; exact H) | exact H
 have Ny184 := Aside0.mk hy184
 clear hy184
 replace H := Option.bind_eq_some_iff.mp H
 obtain ⟨⟨t187, t188⟩, A60, H⟩ := H
 replace H : (spec_l20Term.l0 k ji5 a2 y184 (wrap64 (1 + t187)) s0_0 t188) = some (r1, r2) := H
 have A6 := Aside0.mk A60
 clear A60
 have H' := Aside0.mk H
 clear H
 go_enter Try.func65, Try.ntmps65
 go_wp2_with (first | ((with_reducible refine gate_dst (N := 17) rfl ?_); refine Kd.R_lit (Kd.slice 41 k41) _ 23 ?hg (N := 17) ?hd (xs := ([] : List (List (S41)))) (inner := []) (ok := fun _ => True) (okp := fun _ => True) ?hr ?hp (fun _ hk => hk) trivial (Below.refl _ _) (Nat.le_refl _) (by simp) ?_; (case hd => rfl); (case hg => rfl); (case hr => first | (go_simp; done) | (go_simp; rfl)); (case hp => exact (Reps.none _ _)); intro v185 w7 ho8 hb hg_ hnew_; clear hg_ hnew_; (first | rw [← Ny184.out] at ho8 | (simp only [Int.reduceToNat] at ho8; rw [← Ny184.out] at ho8)); have n0_ := Aside0.mk (Kd.R_lower ho8 (keep_size (w := w) (g := g) (row := none) (by repeat (first | (with_reducible first | exact HK.out | apply KeepBut.set_ | apply keep_drewN | apply keep_drew | apply keep_alloc) | exact HK.out)))); have n1_ := Aside0.mk (IsS68.below (by repeat (first | (with_reducible first | exact HI0.out | apply IsS68.alloc | apply IsS68.drewN | apply IsS68.drew | apply IsS68.set_1) | exact HI0.out)) hb); have n2_ := Aside0.mk (KeepBut.trans (by repeat (first | (with_reducible first | exact HK.out | apply KeepBut.set_ | apply keep_drewN | apply keep_drew | apply keep_alloc) | exact HK.out)) (KeepBut.of_below hb g none) (.inl rfl)); have n3_ := Aside0.mk (below_step (by repeat (first | (with_reducible first | exact HB.out | apply below_alloc | apply pw_below_drewN | apply below_drew1 | refine below_set ?_ (IsS68.ge HI0.out)) | exact HB.out)) hb); clear HI0; clear HK; clear HB; have HO186 := n0_; have HI0 := n1_; have HK := n2_; have HB := n3_; clear n0_ n1_ n2_ n3_; clear hb ho8) | ((with_reducible refine gate_callee (f := 64) rfl ?_); refine goesL_ (some 19) rfl rfl Try.func64 (by kernel_rfl) rfl #[.pointer (some ⟨g, 0, none⟩), .int .i64 4] rfl (by (try simp only [List.map_toArray, List.map_cons, List.map_nil]); first | done | rfl | (simp only [List.length_drop, List.length_take]; rfl)) ?_; (with_reducible refine (spec_l20Rd_pick.calls k g s0_0 s0_1 4 t187 t188 w0 _ ?side1 ?side2 A6.out).mono ?_); (case side1 => repeat (first | (with_reducible first | exact HI0.out | apply IsS68.alloc | apply IsS68.drewN | apply IsS68.drew | apply IsS68.set_1) | exact HI0.out)); (case side2 => repeat (first | (with_reducible first | exact HB.out | apply below_alloc | apply pw_below_drewN | apply below_drew1 | refine below_set ?_ (IsS68.ge HI0.out)) | exact HB.out)); rintro e w9 ⟨rfl, hi, hb, hk⟩; refine ⟨_, rfl, ?_⟩; have n0_ := Aside0.mk (Kd.R_mono (Kd.R_keep (IsS68.apart (show IsS68 w0 _ g s0_0 s0_1 from by repeat (first | (with_reducible first | exact HI0.out | apply IsS68.alloc | apply IsS68.drewN | apply IsS68.drew | apply IsS68.set_1) | exact HI0.out)) (by (with_reducible repeat apply Kd.R_alloc); exact HO186.out) (by decide)) hk (fun _ h => h.2)) (fun _ h => h.1)); have n1_ := Aside0.mk (KeepBut.trans (by repeat (first | (with_reducible first | exact HK.out | apply KeepBut.set_ | apply keep_drewN | apply keep_drew | apply keep_alloc) | exact HK.out)) hk (.inl rfl)); have n2_ := Aside0.mk (hb); have n3_ := Aside0.mk (hi); clear HO186; clear HK; clear HB; clear HI0; have HO186 := n0_; have HK := n1_; have HB := n2_; have HI0 := n3_; clear n0_ n1_ n2_ n3_; (try clear hb); (try clear hb2); (try clear hk); (try clear hi)))
 go_loopg [7, 8] k (fun kq v7 v8 w' => ∃ (x7_1 : List (List (S41))) (x8_1 : Int) (x1001_1 : Int), v8 = .int .i64 x8_1 ∧ Aside0 (spec_l20Term.l0 kq ji5 a2 x7_1 x8_1 s0_0 x1001_1 = some (r1, r2)) ∧ Aside0 (kq ≤ k) ∧ Aside0 (Kd.R (Kd.slice 41 k41) 23 w' w.heap.size (fun _ => True) v7 x7_1) ∧ Aside0 (IsS68 w0 w' g s0_0 x1001_1) ∧ Aside0 (KeepBut w w' g none) ∧ Aside0 (Below w0.heap.size w0 w'))
 case atStart => exact ⟨(y184), (wrap64 (1 + t187)), (t188), (by first | rfl | (simp; done) | (simp [*]; done)), H', ⟨Nat.le_refl _⟩, ⟨by (with_reducible repeat apply Kd.R_alloc); exact HO186.out⟩, ⟨by repeat (first | (with_reducible first | exact HI0.out | apply IsS68.alloc | apply IsS68.drewN | apply IsS68.drew | apply IsS68.set_1) | exact HI0.out)⟩, ⟨by repeat (first | (with_reducible first | exact HK.out | apply KeepBut.set_ | apply keep_drewN | apply keep_drew | apply keep_alloc) | exact HK.out)⟩, ⟨by repeat (first | (with_reducible first | exact HB.out | apply below_alloc | apply pw_below_drewN | apply below_drew1 | refine below_set ?_ (IsS68.ge HI0.out)) | exact HB.out)⟩⟩
 case round =>
  clear H'
  try clear p2
  try clear c6
  try clear p6
  obtain ⟨x7_1, x8_1, x1001_1, rfl, HA, HK1, HO_7, HI0, HK, HB⟩ := hrel
  cases gk with
  | zero => exact absurd HA.out (by simp [spec_l20Term.l0])
  | succ k1 =>
   have H := HA.out
   clear HA
   simp only [spec_l20Term.l0] at H
   by_cases c10 : x8_1 > 0
   ·rw [if_pos c10] at H
    have c10b0 : decide (0 < x8_1) = true := decide_eq_true c10
    clear c10
    replace H := Option.bind_eq_some_iff.mp H
    obtain ⟨⟨t189, t190⟩, A110, H⟩ := H
    replace H : (if t189 = 0 then ((spec_l20Rd_pick.f k1 s0_0 t190 (wrap64 (ji5 + 2))).bind fun bt191 => (if x7_1.length < 5864062014805 then (spec_l20Term.l0 k1 ji5 a2 (x7_1 ++ [(([(⟨1, bt191.1⟩ : S41)] : List (S41)))]) (wrap64 (x8_1 - 1)) s0_0 bt191.2) else (none))) else ((spec_l20Rd_pick.f k1 s0_0 t190 ji5).bind fun bt199 => (if x7_1.length < 5864062014805 then (spec_l20Term.l0 k1 ji5 a2 (x7_1 ++ [(([(⟨0, bt199.1⟩ : S41)] : List (S41)))]) (wrap64 (x8_1 - 1)) s0_0 bt199.2) else (none)))) = some (r1, r2) := H
    have A11 := Aside0.mk A110
    clear A110
    by_cases c12 : t189 = 0
    ·rw [if_pos c12] at H
     have c12b0 : (t189 == 0) = true := beq_iff_eq.mpr c12
     have c12b1 : (t189 != 0) = false := bne_eq_false_iff_eq.mpr c12
     clear c12
     replace H := Option.bind_eq_some_iff.mp H
     obtain ⟨⟨t191, t192⟩, A130, H⟩ := H
     replace H : (if x7_1.length < 5864062014805 then (spec_l20Term.l0 k1 ji5 a2 (x7_1 ++ [(([(⟨1, t191⟩ : S41)] : List (S41)))]) (wrap64 (x8_1 - 1)) s0_0 t192) else (none)) = some (r1, r2) := H
     have A13 := Aside0.mk A130
     clear A130
     obtain ⟨y193, hy193⟩ : ∃ y_ : List (S41), y_ = (([(⟨1, t191⟩ : S41)] : List (S41))) := ⟨_, rfl⟩
     replace H : (if x7_1.length < 5864062014805 then (spec_l20Term.l0 k1 ji5 a2 (x7_1 ++ [y193]) (wrap64 (x8_1 - 1)) s0_0 t192) else (none)) = some (r1, r2) := by first | (rw [hy193]; with_reducible exact H) | (have H2_ := (Option.bind_some _ _).symm.trans H; rw [hy193]; with_reducible exact H2_) | (have H2_ := (Option.bind_some _ _).symm.trans H; with_reducible exact H2_) | with_reducible exact H | (rw [hy193]; exact H) | exact H
     have Ny193 := Aside0.mk hy193
     clear hy193
     by_cases c14 : x7_1.length < 5864062014805
     ·rw [if_pos c14] at H
      have LMc14 := Aside0.mk c14
      clear c14
      obtain ⟨y196, hy196⟩ : ∃ y_ : List (List (S41)), y_ = (x7_1 ++ [y193]) := ⟨_, rfl⟩
      replace H : (spec_l20Term.l0 k1 ji5 a2 y196 (wrap64 (x8_1 - 1)) s0_0 t192) = some (r1, r2) := by first | (rw [hy196]; with_reducible exact H) | (have H2_ := (Option.bind_some _ _).symm.trans H; rw [hy196]; with_reducible exact H2_) | (have H2_ := (Option.bind_some _ _).symm.trans H; with_reducible exact H2_) | with_reducible exact H | (rw [hy196]; exact H) | exact H
      have Ny196 := Aside0.mk hy196
      clear hy196
      have H' := Aside0.mk H
      clear H
      go_wp2_with (first | ((with_reducible refine gate_callee (f := 64) rfl ?_); refine goesL_ (some 26) rfl rfl Try.func64 (by kernel_rfl) rfl #[.pointer (some ⟨g, 0, none⟩), .int .i64 4] rfl (by (try simp only [List.map_toArray, List.map_cons, List.map_nil]); first | done | rfl | (simp only [List.length_drop, List.length_take]; rfl)) ?_; (with_reducible refine (spec_l20Rd_pick.calls k1 g s0_0 x1001_1 4 t189 t190 w0 _ ?side1 ?side2 A11.out).mono ?_); (case side1 => repeat (first | (with_reducible first | exact HI0.out | apply IsS68.alloc | apply IsS68.drewN | apply IsS68.drew | apply IsS68.set_1) | exact HI0.out)); (case side2 => repeat (first | (with_reducible first | exact HB.out | apply below_alloc | apply pw_below_drewN | apply below_drew1 | refine below_set ?_ (IsS68.ge HI0.out)) | exact HB.out)); rintro e w15 ⟨rfl, hi, hb, hk⟩; refine ⟨_, rfl, ?_⟩; have n0_ := Aside0.mk (Kd.R_mono (Kd.R_keep (IsS68.apart (show IsS68 w0 _ g s0_0 x1001_1 from by repeat (first | (with_reducible first | exact HI0.out | apply IsS68.alloc | apply IsS68.drewN | apply IsS68.drew | apply IsS68.set_1) | exact HI0.out)) (by (with_reducible repeat apply Kd.R_alloc); exact HO_7.out) (by decide)) hk (fun _ h => h.2)) (fun _ h => h.1)); have n1_ := Aside0.mk (KeepBut.trans (by repeat (first | (with_reducible first | exact HK.out | apply KeepBut.set_ | apply keep_drewN | apply keep_drew | apply keep_alloc) | exact HK.out)) hk (.inl rfl)); have n2_ := Aside0.mk (hb); have n3_ := Aside0.mk (hi); clear HO_7; clear HK; clear HB; clear HI0; have HO_7 := n0_; have HK := n1_; have HB := n2_; have HI0 := n3_; clear n0_ n1_ n2_ n3_; (try clear hb); (try clear hb2); (try clear hk); (try clear hi)) | ((with_reducible refine gate_callee (f := 64) rfl ?_); refine goesL_ (some 32) rfl rfl Try.func64 (by kernel_rfl) rfl #[.pointer (some ⟨g, 0, none⟩), .int .i64 (wrap64 (ji5 + 2))] rfl (by (try simp only [List.map_toArray, List.map_cons, List.map_nil]); first | done | (simp only [show wrap64 (ji5 + 2) = ji5 + 2 from (by have h4_ := hji5_; unfold wrap64; split at h4_ <;> omega)]; rfl) | (simp only [hji5]; rfl) | rfl | (simp only [List.length_drop, List.length_take]; rfl)) ?_; (with_reducible refine (spec_l20Rd_pick.calls k1 g s0_0 t190 (wrap64 (ji5 + 2)) t191 t192 w0 _ ?side1 ?side2 A13.out).mono ?_); (case side1 => repeat (first | (with_reducible first | exact HI0.out | apply IsS68.alloc | apply IsS68.drewN | apply IsS68.drew | apply IsS68.set_1) | exact HI0.out)); (case side2 => repeat (first | (with_reducible first | exact HB.out | apply below_alloc | apply pw_below_drewN | apply below_drew1 | refine below_set ?_ (IsS68.ge HI0.out)) | exact HB.out)); rintro e w16 ⟨rfl, hi, hb, hk⟩; refine ⟨_, rfl, ?_⟩; have n0_ := Aside0.mk (Kd.R_mono (Kd.R_keep (IsS68.apart (show IsS68 w0 _ g s0_0 t190 from by repeat (first | (with_reducible first | exact HI0.out | apply IsS68.alloc | apply IsS68.drewN | apply IsS68.drew | apply IsS68.set_1) | exact HI0.out)) (by (with_reducible repeat apply Kd.R_alloc); exact HO_7.out) (by decide)) hk (fun _ h => h.2)) (fun _ h => h.1)); have n1_ := Aside0.mk (KeepBut.trans (by repeat (first | (with_reducible first | exact HK.out | apply KeepBut.set_ | apply keep_drewN | apply keep_drew | apply keep_alloc) | exact HK.out)) hk (.inl rfl)); have n2_ := Aside0.mk (hb); have n3_ := Aside0.mk (hi); clear HO_7; clear HK; clear HB; clear HI0; have HO_7 := n0_; have HK := n1_; have HB := n2_; have HI0 := n3_; clear n0_ n1_ n2_ n3_; (try clear hb); (try clear hb2); (try clear hk); (try clear hi)) | ((with_reducible refine gate_dst (N := 34) rfl ?_); refine Kd.R_lit k41 _ 41 ?hg (N := 34) ?hd (xs := ([(⟨1, t191⟩ : S41)] : List (S41))) (inner := [.int .i64 1, .int .i64 t191]) (ok := fun _ => True) (okp := fun _ => True) ?hr ?hp (fun _ hk => hk) trivial (Below.refl _ _) (Nat.le_refl _) (by simp) ?_; (case hd => rfl); (case hg => rfl); (case hr => first | (go_simp; done) | (go_simp; rfl)); (case hp => exact (Reps.c2 (show Kd.M k41 _ _ _ (⟨1, t191⟩ : S41) [.int .i64 1, .int .i64 t191] from (k41_mkM _ _ _ (⟨1, t191⟩ : S41) )) (Reps.none _ _))); intro v194 w17 ho18 hb hg_ hnew_; clear hg_ hnew_; (first | rw [← Ny193.out] at ho18 | (simp only [Int.reduceToNat] at ho18; rw [← Ny193.out] at ho18)); have n0_ := Aside0.mk (Kd.R_elder' (by (with_reducible repeat apply Kd.R_alloc); exact HO_7.out) (Kd.R_base ho18) hb); have n1_ := Aside0.mk (Kd.R_lower ho18 (keep_size (w := w) (g := g) (row := none) (by repeat (first | (with_reducible first | exact HK.out | apply KeepBut.set_ | apply keep_drewN | apply keep_drew | apply keep_alloc) | exact HK.out)))); have n2_ := Aside0.mk (IsS68.below (by repeat (first | (with_reducible first | exact HI0.out | apply IsS68.alloc | apply IsS68.drewN | apply IsS68.drew | apply IsS68.set_1) | exact HI0.out)) hb); have n3_ := Aside0.mk (KeepBut.trans (by repeat (first | (with_reducible first | exact HK.out | apply KeepBut.set_ | apply keep_drewN | apply keep_drew | apply keep_alloc) | exact HK.out)) (KeepBut.of_below hb g none) (.inl rfl)); have n4_ := Aside0.mk (below_step (by repeat (first | (with_reducible first | exact HB.out | apply below_alloc | apply pw_below_drewN | apply below_drew1 | refine below_set ?_ (IsS68.ge HI0.out)) | exact HB.out)) hb); clear HO_7; clear HI0; clear HK; clear HB; have HO_7 := n0_; have HO195 := n1_; have HI0 := n2_; have HK := n3_; have HB := n4_; clear n0_ n1_ n2_ n3_ n4_; clear hb ho18; obtain ⟨Ao20, co20, eo20⟩ := Kd.R_slice HO195.out; subst eo20) | ((with_reducible refine gate_builtin (b := .append) (xs := #[.tmp 28, .tmp 35]) rfl ?_); at_builtin; refine Kd.R_append (Kd.slice 41 k41) w.heap.size rfl (.tmp 28) (.tmp 35) 72 23 (.slice none 0 0) 24 rfl Try.underlying72 info23 rfl (by decide) (by omega) u7 x7_1 y193 [.slice Ao20 y193.length co20] (fun _ => True) (fun k_ => ((fun _ => True)) k_ ∧ some k_ ≠ (u7 : Value).ownBlock) rfl rfl ?aP (fun _ hk => hk) ?aF ?aO (Below.refl _ _) ?aS ?aL ?_; (case aP => exact Kd.M_row (Kd.R_mono (Kd.R_apart' (HO195.out) (Kd.R_typed HO_7.out) (by decide)) (fun k_ hk => ⟨trivial, hk.2⟩))); (case aF => exact (fun _ _ => trivial)); (case aO => exact (by (with_reducible repeat apply Kd.R_alloc); exact Kd.R_mono HO_7.out (fun _ hk => trivial))); (case aS => exact (keep_size (w := w) (g := g) (row := none) (by repeat (first | (with_reducible first | exact HK.out | apply KeepBut.set_ | apply keep_drewN | apply keep_drew | apply keep_alloc) | exact HK.out)))); (case aL => have := LMc14.out; omega); intro v197 w19 ho hb hg hat; rw [← Ny196.out] at ho; have n0_ := Aside0.mk (IsS68.grown (by repeat (first | (with_reducible first | exact HI0.out | apply IsS68.alloc | apply IsS68.drewN | apply IsS68.drew | apply IsS68.set_1) | exact HI0.out)) hg (IsS68.own_ne HI0.out HO_7.out (by decide))); have n1_ := Aside0.mk (below_weaken (by repeat (first | (with_reducible first | exact HB.out | apply below_alloc | apply pw_below_drewN | apply below_drew1 | refine below_set ?_ (IsS68.ge HI0.out)) | exact HB.out)) HL.out hb); have n2_ := Aside0.mk (KeepBut.trans (by repeat (first | (with_reducible first | exact HK.out | apply KeepBut.set_ | apply keep_drewN | apply keep_drew | apply keep_alloc) | exact HK.out)) (KeepBut.of_grown hg g) (Kd.R_base2 HO_7.out)); have n3_ := Aside0.mk (ho); clear HI0; clear HB; clear HK; clear HO_7; clear HO195; have HI0 := n0_; have HB := n1_; have HK := n2_; have HO198 := n3_; clear n0_ n1_ n2_ n3_; clear ho hb hg hat))
      go_roundg k1
      case measure => have := HK1.out; omega
      case rel => exact ⟨(y196), (wrap64 (x8_1 - 1)), (t192), (by first | rfl | (simp; done) | (simp [*]; done)), H', ⟨by have := HK1.out; omega⟩, ⟨by (with_reducible repeat apply Kd.R_alloc); exact HO198.out⟩, ⟨by repeat (first | (with_reducible first | exact HI0.out | apply IsS68.alloc | apply IsS68.drewN | apply IsS68.drew | apply IsS68.set_1) | exact HI0.out)⟩, ⟨by repeat (first | (with_reducible first | exact HK.out | apply KeepBut.set_ | apply keep_drewN | apply keep_drew | apply keep_alloc) | exact HK.out)⟩, ⟨by repeat (first | (with_reducible first | exact HB.out | apply below_alloc | apply pw_below_drewN | apply below_drew1 | refine below_set ?_ (IsS68.ge HI0.out)) | exact HB.out)⟩⟩
     ·rw [if_neg c14] at H
      exact absurd H (by simp)
    ·rw [if_neg c12] at H
     have c12b0 : (t189 == 0) = false := beq_eq_false_iff_ne.mpr c12
     have c12b1 : (t189 != 0) = true := bne_iff_ne.mpr c12
     replace H := Option.bind_eq_some_iff.mp H
     obtain ⟨⟨t199, t200⟩, A210, H⟩ := H
     replace H : (if x7_1.length < 5864062014805 then (spec_l20Term.l0 k1 ji5 a2 (x7_1 ++ [(([(⟨0, t199⟩ : S41)] : List (S41)))]) (wrap64 (x8_1 - 1)) s0_0 t200) else (none)) = some (r1, r2) := H
     have A21 := Aside0.mk A210
     clear A210
     obtain ⟨y201, hy201⟩ : ∃ y_ : List (S41), y_ = (([(⟨0, t199⟩ : S41)] : List (S41))) := ⟨_, rfl⟩
     replace H : (if x7_1.length < 5864062014805 then (spec_l20Term.l0 k1 ji5 a2 (x7_1 ++ [y201]) (wrap64 (x8_1 - 1)) s0_0 t200) else (none)) = some (r1, r2) := by first | (rw [hy201]; with_reducible exact H) | (have H2_ := (Option.bind_some _ _).symm.trans H; rw [hy201]; with_reducible exact H2_) | (have H2_ := (Option.bind_some _ _).symm.trans H; with_reducible exact H2_) | with_reducible exact H | (rw [hy201]; exact H) | exact H
     have Ny201 := Aside0.mk hy201
     clear hy201
     by_cases c22 : x7_1.length < 5864062014805
     ·rw [if_pos c22] at H
      have LMc22 := Aside0.mk c22
      clear c22
      obtain ⟨y204, hy204⟩ : ∃ y_ : List (List (S41)), y_ = (x7_1 ++ [y201]) := ⟨_, rfl⟩
      replace H : (spec_l20Term.l0 k1 ji5 a2 y204 (wrap64 (x8_1 - 1)) s0_0 t200) = some (r1, r2) := by first | (rw [hy204]; with_reducible exact H) | (have H2_ := (Option.bind_some _ _).symm.trans H; rw [hy204]; with_reducible exact H2_) | (have H2_ := (Option.bind_some _ _).symm.trans H; with_reducible exact H2_) | with_reducible exact H | (rw [hy204]; exact H) | exact H
      have Ny204 := Aside0.mk hy204
      clear hy204
      have H' := Aside0.mk H
      clear H
      go_wp2_with (first | ((with_reducible refine gate_callee (f := 64) rfl ?_); refine goesL_ (some 26) rfl rfl Try.func64 (by kernel_rfl) rfl #[.pointer (some ⟨g, 0, none⟩), .int .i64 4] rfl (by (try simp only [List.map_toArray, List.map_cons, List.map_nil]); first | done | rfl | (simp only [List.length_drop, List.length_take]; rfl)) ?_; (with_reducible refine (spec_l20Rd_pick.calls k1 g s0_0 x1001_1 4 t189 t190 w0 _ ?side1 ?side2 A11.out).mono ?_); (case side1 => repeat (first | (with_reducible first | exact HI0.out | apply IsS68.alloc | apply IsS68.drewN | apply IsS68.drew | apply IsS68.set_1) | exact HI0.out)); (case side2 => repeat (first | (with_reducible first | exact HB.out | apply below_alloc | apply pw_below_drewN | apply below_drew1 | refine below_set ?_ (IsS68.ge HI0.out)) | exact HB.out)); rintro e w23 ⟨rfl, hi, hb, hk⟩; refine ⟨_, rfl, ?_⟩; have n0_ := Aside0.mk (Kd.R_mono (Kd.R_keep (IsS68.apart (show IsS68 w0 _ g s0_0 x1001_1 from by repeat (first | (with_reducible first | exact HI0.out | apply IsS68.alloc | apply IsS68.drewN | apply IsS68.drew | apply IsS68.set_1) | exact HI0.out)) (by (with_reducible repeat apply Kd.R_alloc); exact HO_7.out) (by decide)) hk (fun _ h => h.2)) (fun _ h => h.1)); have n1_ := Aside0.mk (KeepBut.trans (by repeat (first | (with_reducible first | exact HK.out | apply KeepBut.set_ | apply keep_drewN | apply keep_drew | apply keep_alloc) | exact HK.out)) hk (.inl rfl)); have n2_ := Aside0.mk (hb); have n3_ := Aside0.mk (hi); clear HO_7; clear HK; clear HB; clear HI0; have HO_7 := n0_; have HK := n1_; have HB := n2_; have HI0 := n3_; clear n0_ n1_ n2_ n3_; (try clear hb); (try clear hb2); (try clear hk); (try clear hi)) | ((with_reducible refine gate_callee (f := 64) rfl ?_); refine goesL_ (some 40) rfl rfl Try.func64 (by kernel_rfl) rfl #[.pointer (some ⟨g, 0, none⟩), .int .i64 ji5] rfl (by (try simp only [List.map_toArray, List.map_cons, List.map_nil]); first | done | (simp only [hji5]; rfl) | rfl | (simp only [List.length_drop, List.length_take]; rfl)) ?_; (with_reducible refine (spec_l20Rd_pick.calls k1 g s0_0 t190 ji5 t199 t200 w0 _ ?side1 ?side2 A21.out).mono ?_); (case side1 => repeat (first | (with_reducible first | exact HI0.out | apply IsS68.alloc | apply IsS68.drewN | apply IsS68.drew | apply IsS68.set_1) | exact HI0.out)); (case side2 => repeat (first | (with_reducible first | exact HB.out | apply below_alloc | apply pw_below_drewN | apply below_drew1 | refine below_set ?_ (IsS68.ge HI0.out)) | exact HB.out)); rintro e w24 ⟨rfl, hi, hb, hk⟩; refine ⟨_, rfl, ?_⟩; have n0_ := Aside0.mk (Kd.R_mono (Kd.R_keep (IsS68.apart (show IsS68 w0 _ g s0_0 t190 from by repeat (first | (with_reducible first | exact HI0.out | apply IsS68.alloc | apply IsS68.drewN | apply IsS68.drew | apply IsS68.set_1) | exact HI0.out)) (by (with_reducible repeat apply Kd.R_alloc); exact HO_7.out) (by decide)) hk (fun _ h => h.2)) (fun _ h => h.1)); have n1_ := Aside0.mk (KeepBut.trans (by repeat (first | (with_reducible first | exact HK.out | apply KeepBut.set_ | apply keep_drewN | apply keep_drew | apply keep_alloc) | exact HK.out)) hk (.inl rfl)); have n2_ := Aside0.mk (hb); have n3_ := Aside0.mk (hi); clear HO_7; clear HK; clear HB; clear HI0; have HO_7 := n0_; have HK := n1_; have HB := n2_; have HI0 := n3_; clear n0_ n1_ n2_ n3_; (try clear hb); (try clear hb2); (try clear hk); (try clear hi)) | ((with_reducible refine gate_dst (N := 42) rfl ?_); refine Kd.R_lit k41 _ 41 ?hg (N := 42) ?hd (xs := ([(⟨0, t199⟩ : S41)] : List (S41))) (inner := [.int .i64 0, .int .i64 t199]) (ok := fun _ => True) (okp := fun _ => True) ?hr ?hp (fun _ hk => hk) trivial (Below.refl _ _) (Nat.le_refl _) (by simp) ?_; (case hd => rfl); (case hg => rfl); (case hr => first | (go_simp; done) | (go_simp; rfl)); (case hp => exact (Reps.c2 (show Kd.M k41 _ _ _ (⟨0, t199⟩ : S41) [.int .i64 0, .int .i64 t199] from (k41_mkM _ _ _ (⟨0, t199⟩ : S41) )) (Reps.none _ _))); intro v202 w25 ho26 hb hg_ hnew_; clear hg_ hnew_; (first | rw [← Ny201.out] at ho26 | (simp only [Int.reduceToNat] at ho26; rw [← Ny201.out] at ho26)); have n0_ := Aside0.mk (Kd.R_elder' (by (with_reducible repeat apply Kd.R_alloc); exact HO_7.out) (Kd.R_base ho26) hb); have n1_ := Aside0.mk (Kd.R_lower ho26 (keep_size (w := w) (g := g) (row := none) (by repeat (first | (with_reducible first | exact HK.out | apply KeepBut.set_ | apply keep_drewN | apply keep_drew | apply keep_alloc) | exact HK.out)))); have n2_ := Aside0.mk (IsS68.below (by repeat (first | (with_reducible first | exact HI0.out | apply IsS68.alloc | apply IsS68.drewN | apply IsS68.drew | apply IsS68.set_1) | exact HI0.out)) hb); have n3_ := Aside0.mk (KeepBut.trans (by repeat (first | (with_reducible first | exact HK.out | apply KeepBut.set_ | apply keep_drewN | apply keep_drew | apply keep_alloc) | exact HK.out)) (KeepBut.of_below hb g none) (.inl rfl)); have n4_ := Aside0.mk (below_step (by repeat (first | (with_reducible first | exact HB.out | apply below_alloc | apply pw_below_drewN | apply below_drew1 | refine below_set ?_ (IsS68.ge HI0.out)) | exact HB.out)) hb); clear HO_7; clear HI0; clear HK; clear HB; have HO_7 := n0_; have HO203 := n1_; have HI0 := n2_; have HK := n3_; have HB := n4_; clear n0_ n1_ n2_ n3_ n4_; clear hb ho26; obtain ⟨Ao28, co28, eo28⟩ := Kd.R_slice HO203.out; subst eo28) | ((with_reducible refine gate_builtin (b := .append) (xs := #[.tmp 37, .tmp 43]) rfl ?_); at_builtin; refine Kd.R_append (Kd.slice 41 k41) w.heap.size rfl (.tmp 37) (.tmp 43) 72 23 (.slice none 0 0) 24 rfl Try.underlying72 info23 rfl (by decide) (by omega) u7 x7_1 y201 [.slice Ao28 y201.length co28] (fun _ => True) (fun k_ => ((fun _ => True)) k_ ∧ some k_ ≠ (u7 : Value).ownBlock) rfl rfl ?aP (fun _ hk => hk) ?aF ?aO (Below.refl _ _) ?aS ?aL ?_; (case aP => exact Kd.M_row (Kd.R_mono (Kd.R_apart' (HO203.out) (Kd.R_typed HO_7.out) (by decide)) (fun k_ hk => ⟨trivial, hk.2⟩))); (case aF => exact (fun _ _ => trivial)); (case aO => exact (by (with_reducible repeat apply Kd.R_alloc); exact Kd.R_mono HO_7.out (fun _ hk => trivial))); (case aS => exact (keep_size (w := w) (g := g) (row := none) (by repeat (first | (with_reducible first | exact HK.out | apply KeepBut.set_ | apply keep_drewN | apply keep_drew | apply keep_alloc) | exact HK.out)))); (case aL => have := LMc22.out; omega); intro v205 w27 ho hb hg hat; rw [← Ny204.out] at ho; have n0_ := Aside0.mk (IsS68.grown (by repeat (first | (with_reducible first | exact HI0.out | apply IsS68.alloc | apply IsS68.drewN | apply IsS68.drew | apply IsS68.set_1) | exact HI0.out)) hg (IsS68.own_ne HI0.out HO_7.out (by decide))); have n1_ := Aside0.mk (below_weaken (by repeat (first | (with_reducible first | exact HB.out | apply below_alloc | apply pw_below_drewN | apply below_drew1 | refine below_set ?_ (IsS68.ge HI0.out)) | exact HB.out)) HL.out hb); have n2_ := Aside0.mk (KeepBut.trans (by repeat (first | (with_reducible first | exact HK.out | apply KeepBut.set_ | apply keep_drewN | apply keep_drew | apply keep_alloc) | exact HK.out)) (KeepBut.of_grown hg g) (Kd.R_base2 HO_7.out)); have n3_ := Aside0.mk (ho); clear HI0; clear HB; clear HK; clear HO_7; clear HO203; have HI0 := n0_; have HB := n1_; have HK := n2_; have HO206 := n3_; clear n0_ n1_ n2_ n3_; clear ho hb hg hat))
      go_roundg k1
      case measure => have := HK1.out; omega
      case rel => exact ⟨(y204), (wrap64 (x8_1 - 1)), (t200), (by first | rfl | (simp; done) | (simp [*]; done)), H', ⟨by have := HK1.out; omega⟩, ⟨by (with_reducible repeat apply Kd.R_alloc); exact HO206.out⟩, ⟨by repeat (first | (with_reducible first | exact HI0.out | apply IsS68.alloc | apply IsS68.drewN | apply IsS68.drew | apply IsS68.set_1) | exact HI0.out)⟩, ⟨by repeat (first | (with_reducible first | exact HK.out | apply KeepBut.set_ | apply keep_drewN | apply keep_drew | apply keep_alloc) | exact HK.out)⟩, ⟨by repeat (first | (with_reducible first | exact HB.out | apply below_alloc | apply pw_below_drewN | apply below_drew1 | refine below_set ?_ (IsS68.ge HI0.out)) | exact HB.out)⟩⟩
     ·rw [if_neg c22] at H
      exact absurd H (by simp)
   ·rw [if_neg c10] at H
    have c10b0 : decide (0 < x8_1) = false := decide_eq_false c10
    clear c10
    have H' := Aside0.mk H
    clear H
    go_wp2
    go_loopg [7, 9] k1 (fun kq v7 v9 w' => ∃ (x7_2 : List (List (S41))) (x9_2 : Int) (x1001_2 : Int), v9 = .int .i64 x9_2 ∧ Aside0 (spec_l20Term.l1 kq a2 x7_2 x9_2 s0_0 x1001_2 = some (r1, r2)) ∧ Aside0 (kq ≤ k1) ∧ Aside0 (Kd.R (Kd.slice 41 k41) 23 w' w.heap.size (fun _ => True) v7 x7_2) ∧ Aside0 (IsS68 w0 w' g s0_0 x1001_2) ∧ Aside0 (KeepBut w w' g none) ∧ Aside0 (Below w0.heap.size w0 w'))
    case atStart => exact ⟨(x7_1), (3), (x1001_1), (by first | rfl | (simp; done) | (simp [*]; done)), H', ⟨Nat.le_refl _⟩, ⟨by (with_reducible repeat apply Kd.R_alloc); exact HO_7.out⟩, ⟨by repeat (first | (with_reducible first | exact HI0.out | apply IsS68.alloc | apply IsS68.drewN | apply IsS68.drew | apply IsS68.set_1) | exact HI0.out)⟩, ⟨by repeat (first | (with_reducible first | exact HK.out | apply KeepBut.set_ | apply keep_drewN | apply keep_drew | apply keep_alloc) | exact HK.out)⟩, ⟨by repeat (first | (with_reducible first | exact HB.out | apply below_alloc | apply pw_below_drewN | apply below_drew1 | refine below_set ?_ (IsS68.ge HI0.out)) | exact HB.out)⟩⟩
    case round =>
     clear H'
     try clear c1
     try clear c2
     try clear p2
     try clear c6
     try clear p6
     try clear c10
     try clear c10b0
     try clear c12
     try clear c12b0
     try clear c12b1
     try clear c14
     try clear c22
     try clear p2
     try clear p6
     obtain ⟨x7_2, x9_2, x1001_2, rfl, HA, HK2, HO_7, HI0, HK, HB⟩ := hrel
     cases gk with
     | zero => exact absurd HA.out (by simp [spec_l20Term.l1])
     | succ k2 =>
      have H := HA.out
      clear HA
      simp only [spec_l20Term.l1] at H
      by_cases c29 : (x7_2.length : Int) > 1
      ·rw [if_pos c29] at H
       have c29b0 : decide (1 < (x7_2.length : Int)) = true := decide_eq_true c29
       have c29b1 : decide (1 < x7_2.length) = true := decide_eq_true (by omega)
       clear c29
       replace H := Option.bind_eq_some_iff.mp H
       obtain ⟨⟨t207, t208⟩, A300, H⟩ := H
       replace H : (if x9_2 > 0 then ((spec_l20Rd_pick.f k2 s0_0 t208 4).bind fun bt209 => (if bt209.1 = 0 then ((some (([] : List (S41)) : List (S41))).bind fun y211 => (if 0 ≤ t207 then (if t207 < (x7_2.length : Int) then (if y211.length + (rd_L3 x7_2 t207).length < 8796093022208 then ((some (y211 ++ (rd_L3 x7_2 t207) : List (S41))).bind fun y215 => (if y215.length < 8796093022208 then (spec_l20Term.l1 k2 a2 (x7_2.set (t207 : Int).toNat (y215 ++ [(⟨2, 0⟩ : S41)])) (wrap64 (x9_2 - 1)) s0_0 bt209.2) else (none))) else (none)) else (none)) else (none))) else ((some (([] : List (S41)) : List (S41))).bind fun y222 => (if 0 ≤ t207 then (if t207 < (x7_2.length : Int) then (if y222.length + (rd_L3 x7_2 t207).length < 8796093022208 then ((some (y222 ++ (rd_L3 x7_2 t207) : List (S41))).bind fun y226 => (if 0 ≤ (wrap64 (t207 + 1)) then (if (wrap64 (t207 + 1)) < (x7_2.length : Int) then (if y226.length + (rd_L3 x7_2 (wrap64 (t207 + 1))).length < 8796093022208 then ((some (y226 ++ (rd_L3 x7_2 (wrap64 (t207 + 1))) : List (S41))).bind fun y230 => ((spec_l20Rd_pick.f k2 s0_0 bt209.2 3).bind fun bt233 => (if y230.length < 8796093022208 then ((some (([] : List (List (S41))) : List (List (S41)))).bind fun y238 => (if t207 ≤ (x7_2.length : Int) then ((some (x7_2.take (t207 : Int).toNat : List (List (S41)))).bind fun y241 => (if y238.length + y241.length < 5864062014805 then ((some (y238 ++ y241 : List (List (S41)))).bind fun y245 => (if y245.length < 5864062014805 then ((some (y245 ++ [(y230 ++ [(⟨wrap64 (3 + bt233.1), 0⟩ : S41)])] : List (List (S41)))).bind fun y248 => (if 0 ≤ (wrap64 (t207 + 2)) then (if (wrap64 (t207 + 2)) ≤ (x7_2.length : Int) then ((some (x7_2.drop ((wrap64 (t207 + 2)) : Int).toNat : List (List (S41)))).bind fun y251 => (if y248.length + y251.length < 5864062014805 then (spec_l20Term.l1 k2 a2 (y248 ++ y251) x9_2 s0_0 bt233.2) else (none))) else (none)) else (none))) else (none))) else (none))) else (none))) else (none)))) else (none)) else (none)) else (none))) else (none)) else (none)) else (none))))) else ((some (([] : List (S41)) : List (S41))).bind fun y258 => (if 0 ≤ t207 then (if t207 < (x7_2.length : Int) then (if y258.length + (rd_L3 x7_2 t207).length < 8796093022208 then ((some (y258 ++ (rd_L3 x7_2 t207) : List (S41))).bind fun y262 => (if 0 ≤ (wrap64 (t207 + 1)) then (if (wrap64 (t207 + 1)) < (x7_2.length : Int) then (if y262.length + (rd_L3 x7_2 (wrap64 (t207 + 1))).length < 8796093022208 then ((some (y262 ++ (rd_L3 x7_2 (wrap64 (t207 + 1))) : List (S41))).bind fun y266 => ((spec_l20Rd_pick.f k2 s0_0 t208 3).bind fun bt269 => (if y266.length < 8796093022208 then ((some (([] : List (List (S41))) : List (List (S41)))).bind fun y274 => (if t207 ≤ (x7_2.length : Int) then ((some (x7_2.take (t207 : Int).toNat : List (List (S41)))).bind fun y277 => (if y274.length + y277.length < 5864062014805 then ((some (y274 ++ y277 : List (List (S41)))).bind fun y281 => (if y281.length < 5864062014805 then ((some (y281 ++ [(y266 ++ [(⟨wrap64 (3 + bt269.1), 0⟩ : S41)])] : List (List (S41)))).bind fun y284 => (if 0 ≤ (wrap64 (t207 + 2)) then (if (wrap64 (t207 + 2)) ≤ (x7_2.length : Int) then ((some (x7_2.drop ((wrap64 (t207 + 2)) : Int).toNat : List (List (S41)))).bind fun y287 => (if y284.length + y287.length < 5864062014805 then (spec_l20Term.l1 k2 a2 (y284 ++ y287) x9_2 s0_0 bt269.2) else (none))) else (none)) else (none))) else (none))) else (none))) else (none))) else (none)))) else (none)) else (none)) else (none))) else (none)) else (none)) else (none)))) = some (r1, r2) := H
       have A30 := Aside0.mk A300
       clear A300
       by_cases c31 : x9_2 > 0
       ·rw [if_pos c31] at H
        have c31b0 : decide (0 < x9_2) = true := decide_eq_true c31
        clear c31
        replace H := Option.bind_eq_some_iff.mp H
        obtain ⟨⟨t209, t210⟩, A320, H⟩ := H
        replace H : (if t209 = 0 then ((some (([] : List (S41)) : List (S41))).bind fun y211 => (if 0 ≤ t207 then (if t207 < (x7_2.length : Int) then (if y211.length + (rd_L3 x7_2 t207).length < 8796093022208 then ((some (y211 ++ (rd_L3 x7_2 t207) : List (S41))).bind fun y215 => (if y215.length < 8796093022208 then (spec_l20Term.l1 k2 a2 (x7_2.set (t207 : Int).toNat (y215 ++ [(⟨2, 0⟩ : S41)])) (wrap64 (x9_2 - 1)) s0_0 t210) else (none))) else (none)) else (none)) else (none))) else ((some (([] : List (S41)) : List (S41))).bind fun y222 => (if 0 ≤ t207 then (if t207 < (x7_2.length : Int) then (if y222.length + (rd_L3 x7_2 t207).length < 8796093022208 then ((some (y222 ++ (rd_L3 x7_2 t207) : List (S41))).bind fun y226 => (if 0 ≤ (wrap64 (t207 + 1)) then (if (wrap64 (t207 + 1)) < (x7_2.length : Int) then (if y226.length + (rd_L3 x7_2 (wrap64 (t207 + 1))).length < 8796093022208 then ((some (y226 ++ (rd_L3 x7_2 (wrap64 (t207 + 1))) : List (S41))).bind fun y230 => ((spec_l20Rd_pick.f k2 s0_0 t210 3).bind fun bt233 => (if y230.length < 8796093022208 then ((some (([] : List (List (S41))) : List (List (S41)))).bind fun y238 => (if t207 ≤ (x7_2.length : Int) then ((some (x7_2.take (t207 : Int).toNat : List (List (S41)))).bind fun y241 => (if y238.length + y241.length < 5864062014805 then ((some (y238 ++ y241 : List (List (S41)))).bind fun y245 => (if y245.length < 5864062014805 then ((some (y245 ++ [(y230 ++ [(⟨wrap64 (3 + bt233.1), 0⟩ : S41)])] : List (List (S41)))).bind fun y248 => (if 0 ≤ (wrap64 (t207 + 2)) then (if (wrap64 (t207 + 2)) ≤ (x7_2.length : Int) then ((some (x7_2.drop ((wrap64 (t207 + 2)) : Int).toNat : List (List (S41)))).bind fun y251 => (if y248.length + y251.length < 5864062014805 then (spec_l20Term.l1 k2 a2 (y248 ++ y251) x9_2 s0_0 bt233.2) else (none))) else (none)) else (none))) else (none))) else (none))) else (none))) else (none)))) else (none)) else (none)) else (none))) else (none)) else (none)) else (none)))) = some (r1, r2) := H
        have A32 := Aside0.mk A320
        clear A320
        by_cases c33 : t209 = 0
        ·rw [if_pos c33] at H
         have c33b0 : (t209 == 0) = true := beq_iff_eq.mpr c33
         have c33b1 : (t209 != 0) = false := bne_eq_false_iff_eq.mpr c33
         clear c33
         obtain ⟨y211, hy211⟩ : ∃ y_ : List (S41), y_ = (([] : List (S41))) := ⟨_, rfl⟩
         replace H : (if 0 ≤ t207 then (if t207 < (x7_2.length : Int) then (if y211.length + (rd_L3 x7_2 t207).length < 8796093022208 then ((some (y211 ++ (rd_L3 x7_2 t207) : List (S41))).bind fun y215 => (if y215.length < 8796093022208 then (spec_l20Term.l1 k2 a2 (x7_2.set (t207 : Int).toNat (y215 ++ [(⟨2, 0⟩ : S41)])) (wrap64 (x9_2 - 1)) s0_0 t210) else (none))) else (none)) else (none)) else (none)) = some (r1, r2) := by first | (rw [hy211]; with_reducible exact H) | (have H2_ := (Option.bind_some _ _).symm.trans H; rw [hy211]; with_reducible exact H2_) | (have H2_ := (Option.bind_some _ _).symm.trans H; with_reducible exact H2_) | with_reducible exact H | (rw [hy211]; exact H) | exact H
         have Ny211 := Aside0.mk hy211
         clear hy211
         by_cases c34 : 0 ≤ t207
         ·rw [if_pos c34] at H
          have c34b0 : decide (0 ≤ t207) = true := decide_eq_true c34
          clear c34
          by_cases c35 : t207 < (x7_2.length : Int)
          ·rw [if_pos c35] at H
           have c35b0 : decide (t207 < (x7_2.length : Int)) = true := decide_eq_true c35
           clear c35
           by_cases c36 : y211.length + (rd_L3 x7_2 t207).length < 8796093022208
           ·rw [if_pos c36] at H
            have LMc36 := Aside0.mk c36
            clear c36
            obtain ⟨y215, hy215⟩ : ∃ y_ : List (S41), y_ = (y211 ++ (rd_L3 x7_2 t207)) := ⟨_, rfl⟩
            replace H : (if y215.length < 8796093022208 then (spec_l20Term.l1 k2 a2 (x7_2.set (t207 : Int).toNat (y215 ++ [(⟨2, 0⟩ : S41)])) (wrap64 (x9_2 - 1)) s0_0 t210) else (none)) = some (r1, r2) := by first | (rw [hy215]; with_reducible exact H) | (have H2_ := (Option.bind_some _ _).symm.trans H; rw [hy215]; with_reducible exact H2_) | (have H2_ := (Option.bind_some _ _).symm.trans H; with_reducible exact H2_) | with_reducible exact H | (rw [hy215]; exact H) | exact H
            have Ny215 := Aside0.mk hy215
            clear hy215
            by_cases c37 : y215.length < 8796093022208
            ·rw [if_pos c37] at H
             have LMc37 := Aside0.mk c37
             clear c37
             obtain ⟨y218, hy218⟩ : ∃ y_ : List (S41), y_ = (y215 ++ [(⟨2, 0⟩ : S41)]) := ⟨_, rfl⟩
             replace H : (spec_l20Term.l1 k2 a2 (x7_2.set (t207 : Int).toNat y218) (wrap64 (x9_2 - 1)) s0_0 t210) = some (r1, r2) := by first | (rw [hy218]; with_reducible exact H) | (have H2_ := (Option.bind_some _ _).symm.trans H; rw [hy218]; with_reducible exact H2_) | (have H2_ := (Option.bind_some _ _).symm.trans H; with_reducible exact H2_) | with_reducible exact H | (rw [hy218]; exact H) | exact H
             have Ny218 := Aside0.mk hy218
             clear hy218
             obtain ⟨y221, hy221⟩ : ∃ y_ : List (List (S41)), y_ = (x7_2.set (t207 : Int).toNat y218) := ⟨_, rfl⟩
             replace H : (spec_l20Term.l1 k2 a2 y221 (wrap64 (x9_2 - 1)) s0_0 t210) = some (r1, r2) := by first | (rw [hy221]; with_reducible exact H) | (have H2_ := (Option.bind_some _ _).symm.trans H; rw [hy221]; with_reducible exact H2_) | (have H2_ := (Option.bind_some _ _).symm.trans H; with_reducible exact H2_) | with_reducible exact H | (rw [hy221]; exact H) | exact H
             have Ny221 := Aside0.mk hy221
             clear hy221
             have H' := Aside0.mk H
             clear H
             obtain ⟨Ao39, co39, eo39⟩ := Kd.R_slice HO_7.out
             subst eo39
             go_wp2_with (first | ((with_reducible refine gate_callee (f := 64) rfl ?_); refine goesL_ (some 52) rfl rfl Try.func64 (by kernel_rfl) rfl #[.pointer (some ⟨g, 0, none⟩), .int .i64 (wrap64 ((x7_2.length : Int) - 1))] rfl (by (try simp only [List.map_toArray, List.map_cons, List.map_nil]); first | done | rfl | (simp only [List.length_drop, List.length_take]; rfl)) ?_; (with_reducible refine (spec_l20Rd_pick.calls k2 g s0_0 x1001_2 (wrap64 ((x7_2.length : Int) - 1)) t207 t208 w0 _ ?side1 ?side2 A30.out).mono ?_); (case side1 => repeat (first | (with_reducible first | exact HI0.out | apply IsS68.alloc | apply IsS68.drewN | apply IsS68.drew | apply IsS68.set_1) | exact HI0.out)); (case side2 => repeat (first | (with_reducible first | exact HB.out | apply below_alloc | apply pw_below_drewN | apply below_drew1 | refine below_set ?_ (IsS68.ge HI0.out)) | exact HB.out)); rintro e w40 ⟨rfl, hi, hb, hk⟩; refine ⟨_, rfl, ?_⟩; have n0_ := Aside0.mk (Kd.R_mono (Kd.R_keep (IsS68.apart (show IsS68 w0 _ g s0_0 x1001_2 from by repeat (first | (with_reducible first | exact HI0.out | apply IsS68.alloc | apply IsS68.drewN | apply IsS68.drew | apply IsS68.set_1) | exact HI0.out)) (by (with_reducible repeat apply Kd.R_alloc); exact HO_7.out) (by decide)) hk (fun _ h => h.2)) (fun _ h => h.1)); have n1_ := Aside0.mk (KeepBut.trans (by repeat (first | (with_reducible first | exact HK.out | apply KeepBut.set_ | apply keep_drewN | apply keep_drew | apply keep_alloc) | exact HK.out)) hk (.inl rfl)); have n2_ := Aside0.mk (hb); have n3_ := Aside0.mk (hi); clear HO_7; clear HK; clear HB; clear HI0; have HO_7 := n0_; have HK := n1_; have HB := n2_; have HI0 := n3_; clear n0_ n1_ n2_ n3_; (try clear hb); (try clear hb2); (try clear hk); (try clear hi)) | (go_at_call 64; (with_reducible refine (spec_l20Rd_pick.calls k2 g s0_0 t208 4 t209 t210 w0 _ ?side1 ?side2 A32.out).mono ?_); (case side1 => repeat (first | (with_reducible first | exact HI0.out | apply IsS68.alloc | apply IsS68.drewN | apply IsS68.drew | apply IsS68.set_1) | exact HI0.out)); (case side2 => repeat (first | (with_reducible first | exact HB.out | apply below_alloc | apply pw_below_drewN | apply below_drew1 | refine below_set ?_ (IsS68.ge HI0.out)) | exact HB.out)); rintro e w41 ⟨rfl, hi, hb, hk⟩; have n0_ := Aside0.mk (Kd.R_mono (Kd.R_keep (IsS68.apart (show IsS68 w0 _ g s0_0 t208 from by repeat (first | (with_reducible first | exact HI0.out | apply IsS68.alloc | apply IsS68.drewN | apply IsS68.drew | apply IsS68.set_1) | exact HI0.out)) (by (with_reducible repeat apply Kd.R_alloc); exact HO_7.out) (by decide)) hk (fun _ h => h.2)) (fun _ h => h.1)); have n1_ := Aside0.mk (KeepBut.trans (by repeat (first | (with_reducible first | exact HK.out | apply KeepBut.set_ | apply keep_drewN | apply keep_drew | apply keep_alloc) | exact HK.out)) hk (.inl rfl)); have n2_ := Aside0.mk (hb); have n3_ := Aside0.mk (hi); clear HO_7; clear HK; clear HB; clear HI0; have HO_7 := n0_; have HK := n1_; have HB := n2_; have HI0 := n3_; clear n0_ n1_ n2_ n3_; (try clear hb); (try clear hb2); (try clear hk); (try clear hi)) | ((with_reducible refine gate_dst (N := 64) rfl ?_); refine Kd.R_lit k41 _ 41 ?hg (N := 64) ?hd (xs := ([] : List (S41))) (inner := []) (ok := fun _ => True) (okp := fun _ => True) ?hr ?hp (fun _ hk => hk) trivial (Below.refl _ _) (Nat.le_refl _) (by simp) ?_; (case hd => rfl); (case hg => rfl); (case hr => first | (go_simp; done) | (go_simp; rfl)); (case hp => exact (Reps.none _ _)); intro v212 w42 ho43 hb hg_ hnew_; clear hg_ hnew_; (first | rw [← Ny211.out] at ho43 | (simp only [Int.reduceToNat] at ho43; rw [← Ny211.out] at ho43)); have n0_ := Aside0.mk (Kd.R_elder' (by (with_reducible repeat apply Kd.R_alloc); exact HO_7.out) (Kd.R_base ho43) hb); have n1_ := Aside0.mk (Kd.R_lower ho43 (keep_size (w := w) (g := g) (row := none) (by repeat (first | (with_reducible first | exact HK.out | apply KeepBut.set_ | apply keep_drewN | apply keep_drew | apply keep_alloc) | exact HK.out)))); have n2_ := Aside0.mk (IsS68.below (by repeat (first | (with_reducible first | exact HI0.out | apply IsS68.alloc | apply IsS68.drewN | apply IsS68.drew | apply IsS68.set_1) | exact HI0.out)) hb); have n3_ := Aside0.mk (KeepBut.trans (by repeat (first | (with_reducible first | exact HK.out | apply KeepBut.set_ | apply keep_drewN | apply keep_drew | apply keep_alloc) | exact HK.out)) (KeepBut.of_below hb g none) (.inl rfl)); have n4_ := Aside0.mk (below_step (by repeat (first | (with_reducible first | exact HB.out | apply below_alloc | apply pw_below_drewN | apply below_drew1 | refine below_set ?_ (IsS68.ge HI0.out)) | exact HB.out)) hb); clear HO_7; clear HI0; clear HK; clear HB; have HO_7 := n0_; have HO213 := n1_; have HI0 := n2_; have HK := n3_; have HB := n4_; clear n0_ n1_ n2_ n3_ n4_; clear hb ho43; have p214 : 0 ≤ (t207 : Int) := of_decide_eq_true (by first | (with_reducible assumption) | assumption); have q214 : t207 < (x7_2.length : Int) := of_decide_eq_true (by first | (with_reducible assumption) | assumption); obtain ⟨ad214, A214_0, c214_0, e214, hx214_0, hl214_0, hi214_0⟩ := at_L3 (Kd.R_reads' HO_7.out).2.2 t207 p214 q214; cases e214; obtain ⟨ce214, hce214, hMe214, hcc214⟩ := Kd.R_get HO_7.out [] t207 p214 (by first | exact q214 | exact of_decide_eq_true (by first | (with_reducible assumption) | assumption) | (have e_ := (Kd.R_reads' HO_7.out).1; omega)); obtain ⟨ve214_0, rfl, ge214_0⟩ := hMe214; have hv214_0 := hcc214 0 _ rfl; rw [Nat.add_zero, show ((Kd.slice 41 k41)).sz = 1 from rfl, Nat.mul_one] at hv214_0; replace hv214_0 := Option.some.inj (hv214_0.symm.trans hx214_0); rw [hv214_0] at ge214_0; have HL214_0 := Aside0.mk (show Kd.R k41 41 _ _ _ _ (rd_L3 x7_2 t207) from ge214_0); clear hv214_0 ge214_0; clear hcc214 hce214; have HR214_0 := Aside0.mk hi214_0; have HC214_0 := Aside0.mk hl214_0; clear hi214_0 hl214_0; replace p214 := eq_true p214; replace q214 := eq_true q214) | ((with_reducible refine gate_builtin (b := .append) (xs := #[.tmp 64, .tmp 68]) rfl ?_); at_builtin; refine Kd.R_append_rows k41 w.heap.size rfl (.tmp 64) (.tmp 68) 23 41 (.agg #[(.int .i64 0), (.int .i64 0)]) 16 rfl Try.underlying23 info41 rfl (by decide) (by omega) v212 y211 (rd_L3 x7_2 t207) _ _ _ (fun _ => True) (fun _ => False) rfl rfl ?aO ?aR (fun _ _ h => h) (fun _ h => h.elim) ?aF (Below.refl _ _) ?aS ?aL ?_; (case aR => repeat (first | exact (by repeat (first | (with_reducible exact HR214_0.out) | (with_reducible refine Kd.C_alloc ?_ _) | (with_reducible refine Kd.C_drewN ?_ _) | (with_reducible refine Kd.C_drew ?_) | exact HR214_0.out)) | (with_reducible refine Kd.C_alloc ?_ _) | (with_reducible refine Kd.C_drewN ?_ _) | (with_reducible refine Kd.C_drew ?_))); (case aF => exact (fun _ _ => trivial)); (case aO => exact (by (with_reducible repeat apply Kd.R_alloc); exact HO213.out)); (case aS => exact (keep_size (w := w) (g := g) (row := none) (by repeat (first | (with_reducible first | exact HK.out | apply KeepBut.set_ | apply keep_drewN | apply keep_drew | apply keep_alloc) | exact HK.out)))); (case aL => have := LMc36.out; omega); intro v216 w44 ho hb hg hat; rw [← Ny215.out] at ho; have n0_ := Aside0.mk (Kd.R_after (ok := (fun _ => True)) (by (with_reducible repeat apply Kd.R_alloc); exact HO_7.out) hg hat); have n1_ := Aside0.mk (IsS68.grown (by repeat (first | (with_reducible first | exact HI0.out | apply IsS68.alloc | apply IsS68.drewN | apply IsS68.drew | apply IsS68.set_1) | exact HI0.out)) hg (IsS68.own_ne HI0.out HO213.out (by decide))); have n2_ := Aside0.mk (Kd.R_after (ok := (fun k_ => some k_ ≠ (.slice (some ad214) x7_2.length co39 : Value).ownBlock)) (by (with_reducible repeat apply Kd.R_alloc); exact Kd.R_mono HL214_0.out (fun _ hk => ⟨hk.2, hk.1.2⟩)) hg hat); have n3_ := Aside0.mk (below_weaken (by repeat (first | (with_reducible first | exact HB.out | apply below_alloc | apply pw_below_drewN | apply below_drew1 | refine below_set ?_ (IsS68.ge HI0.out)) | exact HB.out)) HL.out hb); have n4_ := Aside0.mk (KeepBut.trans (by repeat (first | (with_reducible first | exact HK.out | apply KeepBut.set_ | apply keep_drewN | apply keep_drew | apply keep_alloc) | exact HK.out)) (KeepBut.of_grown hg g) (Kd.R_base2 HO213.out)); have n5_ := Aside0.mk (ho); clear HO_7; clear HI0; clear HL214_0; clear HB; clear HK; clear HO213; have HO_7 := n0_; have HI0 := n1_; have HL214_0 := n2_; have HB := n3_; have HK := n4_; have HO217 := n5_; clear n0_ n1_ n2_ n3_ n4_ n5_; clear ho hb hg hat) | ((with_reducible refine gate_builtin (b := .append) (xs := #[.tmp 69, .tmp 71]) rfl ?_); at_builtin; refine Kd.R_append k41 w.heap.size rfl (.tmp 69) (.tmp 71) 23 41 (.agg #[(.int .i64 0), (.int .i64 0)]) 16 rfl Try.underlying23 info41 rfl (by decide) (by omega) v216 y215 (⟨2, 0⟩ : S41) [.int .i64 2, .int .i64 0] (fun _ => True) (fun _ => False) rfl rfl ?aP (fun _ hk => hk.elim) ?aF ?aO (Below.refl _ _) ?aS ?aL ?_; (case aP => exact k41_mkM _ _ _ (⟨2, 0⟩ : S41)); (case aF => exact (fun _ _ => trivial)); (case aO => exact (by (with_reducible repeat apply Kd.R_alloc); exact HO217.out)); (case aS => exact (keep_size (w := w) (g := g) (row := none) (by repeat (first | (with_reducible first | exact HK.out | apply KeepBut.set_ | apply keep_drewN | apply keep_drew | apply keep_alloc) | exact HK.out)))); (case aL => have := LMc37.out; omega); intro v219 w45 ho hb hg hat; rw [← Ny218.out] at ho; have n0_ := Aside0.mk (Kd.R_after (ok := (fun _ => True)) (by (with_reducible repeat apply Kd.R_alloc); exact HO_7.out) hg hat); have n1_ := Aside0.mk (IsS68.grown (by repeat (first | (with_reducible first | exact HI0.out | apply IsS68.alloc | apply IsS68.drewN | apply IsS68.drew | apply IsS68.set_1) | exact HI0.out)) hg (IsS68.own_ne HI0.out HO217.out (by decide))); have n2_ := Aside0.mk (Kd.R_after (ok := (fun k_ => some k_ ≠ (.slice (some ad214) x7_2.length co39 : Value).ownBlock)) (by (with_reducible repeat apply Kd.R_alloc); exact HL214_0.out) hg hat); have n3_ := Aside0.mk (below_weaken (by repeat (first | (with_reducible first | exact HB.out | apply below_alloc | apply pw_below_drewN | apply below_drew1 | refine below_set ?_ (IsS68.ge HI0.out)) | exact HB.out)) HL.out hb); have n4_ := Aside0.mk (KeepBut.trans (by repeat (first | (with_reducible first | exact HK.out | apply KeepBut.set_ | apply keep_drewN | apply keep_drew | apply keep_alloc) | exact HK.out)) (KeepBut.of_grown hg g) (Kd.R_base2 HO217.out)); have n5_ := Aside0.mk (ho); clear HO_7; clear HI0; clear HL214_0; clear HB; clear HK; clear HO217; have HO_7 := n0_; have HI0 := n1_; have HL214_0 := n2_; have HB := n3_; have HK := n4_; have HO220 := n5_; clear n0_ n1_ n2_ n3_ n4_ n5_; clear ho hb hg hat; have p38 : 0 ≤ (t207 : Int) := of_decide_eq_true (by first | (with_reducible assumption) | assumption); have q38 : (t207 : Int) < ((x7_2.length : Int) : Int) := of_decide_eq_true (by first | (with_reducible assumption) | assumption); obtain ⟨go38, co38, eo38, gb38, gl38, cl38, HG38⟩ := Kd.R_form HO_7.out (by omega); (first | cases eo38 | (injection eo38 with ea_ en_ ec_; (first | subst ea_ | (injection ea_ with ea_; subst ea_)); subst ec_; clear en_)); have GB38 := Aside0.mk gb38; have GG38 := Aside0.mk HG38; clear gb38 gl38 HG38; (first | simp only [add_plain] at hx214_0 | skip); obtain ⟨ce38, hcl38, hM38, hcc38, hfr38⟩ := Kd.R_elem HO_7.out [] (t207 : Int) p38 q38; obtain ⟨ve38_0, rfl, ge38_0⟩ := hM38; have hx38_0 := hcc38 0 _ rfl; have hf38_0 := hfr38 0; (try simp only [show ((Kd.slice 41 k41)).sz = 1 from rfl, Nat.mul_one, Nat.add_zero] at hx38_0); (try simp only [show ((Kd.slice 41 k41)).sz = 1 from rfl, Nat.mul_one, Nat.add_zero] at hf38_0); clear hcl38 hcc38 hfr38; (try clear hM38); skip; replace p38 := eq_true p38; replace q38 := eq_true q38; have n_ := Aside0.mk (Kd.R_mono (ok' := (fun k_ => some k_ ≠ (v219 : Value).ownBlock)) HO_7.out (fun k_ hk => hk.2)); clear HO_7; have HO_7 := n_; clear n_; have HX46 := Aside0.mk (show Kd.R (Kd.slice 41 k41) 23 w45 w.heap.size (fun _ => True) (.slice (some ⟨go38, 0, none⟩) x7_2.length co39) x7_2 from (by (with_reducible repeat apply Kd.R_alloc); exact Kd.R_mono HO_7.out (fun _ hk => trivial))); obtain ⟨ce46, hcl46, hM46, hcc46, hfr46⟩ := Kd.R_elem HX46.out [] (t207 : Int) (of_decide_eq_true (by first | (with_reducible assumption) | assumption)) (by have h_ : (t207 : Int) < ((x7_2.length : Int) : Int) := of_decide_eq_true (by first | (with_reducible assumption) | assumption); first | exact h_ | (have e_ := (Kd.R_reads' HO_7.out).1; omega) | simpa using h_); obtain ⟨ve46_0, rfl, ge46_0⟩ := hM46; have HP46 := Kd.R_seg HX46.out (t207 : Int) (of_decide_eq_true (by first | (with_reducible assumption) | assumption)) (by have h_ : (t207 : Int) < ((x7_2.length : Int) : Int) := of_decide_eq_true (by first | (with_reducible assumption) | assumption); first | exact h_ | (have e_ := (Kd.R_reads' HO_7.out).1; omega) | simpa using h_) (seg := [v219]) (j := 0) hcl46 hcc46 (show 1 ≤ 1 from by decide) (x' := y218) (Kd.M_row (Kd.R_mono (Kd.R_apart' (HO220.out) (Kd.R_typed HO_7.out) (by decide)) (fun k_ hk => ⟨trivial, fun e_ => (hk.2) (by rw [e_]; rfl)⟩))) (fun _ hk => hk); have hx46_0 := hcc46 0 _ rfl; (try simp only [show ((Kd.slice 41 k41)).sz = 1 from rfl, Nat.mul_one, Nat.add_zero] at hx46_0); have hf46_0 := hfr46 0; (try simp only [show ((Kd.slice 41 k41)).sz = 1 from rfl, Nat.mul_one, Nat.add_zero] at hf46_0); clear hcl46 hcc46 hfr46; (try clear hM46); skip; (try simp only [show ((Kd.slice 41 k41)).sz = 1 from rfl, Nat.mul_one, Nat.add_zero] at HP46)) | ((with_reducible refine gate_store (t := 23) (p := 73) rfl ?_); refine store_event (t := 23) (p := 73) (v := ?vo_w47) (w1 := (w45.setCell ⟨go38, (t207 : Int).toNat, none⟩ (v219))) ?hg ?ho ?hn ?hr ?_; (case ho => rfl); (case hg => rfl); (case hn => rfl); (case hr => first | (go_simp; done) | (go_simp; rfl) | ((obtain ⟨A_, c_, e_⟩ := Kd.R_slice HO220.out; rw [e_]); first | (go_simp; done) | (go_simp; rfl))); intro w47 hw; have hg : w45.grownBy w47 (some go38) := (by rw [hw]; exact HP46.2); have hp_ : Kd.R (Kd.slice 41 k41) 23 w47 w.heap.size (fun _ => True) (.slice (some ⟨go38, 0, none⟩) x7_2.length co39) y221 := (by rw [hw, Ny221.out]; exact HP46.1); clear HP46; have n0_ := Aside0.mk (hp_); have n1_ := Aside0.mk (IsS68.grown (by repeat (first | (with_reducible first | exact HI0.out | apply IsS68.alloc | apply IsS68.drewN | apply IsS68.drew | apply IsS68.set_1) | exact HI0.out)) hg (IsS68.own_ne HI0.out HO_7.out (by decide))); have n2_ := Aside0.mk (Kd.R_after (v := (.slice (some ⟨go38, 0, none⟩) x7_2.length co39)) (v1 := (.slice (some ⟨go38, 0, none⟩) x7_2.length co39)) (ok := (fun k_ => some k_ ≠ (v219 : Value).ownBlock)) (by (with_reducible repeat apply Kd.R_alloc); exact Kd.R_mono HL214_0.out (fun _ hk => ⟨hk.2, hk.1⟩)) hg (.inl rfl)); have n3_ := Aside0.mk ((by rw [hw]; exact below_set (HB.out) (Nat.le_trans HL.out GB38.out) : Below w0.heap.size w0 w47)); have n4_ := Aside0.mk (KeepBut.trans (by repeat (first | (with_reducible first | exact HK.out | apply KeepBut.set_ | apply keep_drewN | apply keep_drew | apply keep_alloc) | exact HK.out)) (KeepBut.of_grown hg g) (Kd.R_base2 HO_7.out)); clear HO_7; clear HI0; clear HL214_0; clear HB; clear HK; clear HO220; have HO_7 := n0_; have HI0 := n1_; have HL214_0 := n2_; have HB := n3_; have HK := n4_; clear n0_ n1_ n2_ n3_ n4_; clear hg hw hp_))
             go_roundg k2
             case measure => have := HK1.out; have := HK2.out; omega
             case rel => exact ⟨(y221), (wrap64 (x9_2 - 1)), (t210), (by first | rfl | (simp; done) | (simp [*]; done)), H', ⟨by have := HK1.out; have := HK2.out; omega⟩, ⟨by (with_reducible repeat apply Kd.R_alloc); exact HO_7.out⟩, ⟨by repeat (first | (with_reducible first | exact HI0.out | apply IsS68.alloc | apply IsS68.drewN | apply IsS68.drew | apply IsS68.set_1) | exact HI0.out)⟩, ⟨by repeat (first | (with_reducible first | exact HK.out | apply KeepBut.set_ | apply keep_drewN | apply keep_drew | apply keep_alloc) | exact HK.out)⟩, ⟨by repeat (first | (with_reducible first | exact HB.out | apply below_alloc | apply pw_below_drewN | apply below_drew1 | refine below_set ?_ (IsS68.ge HI0.out)) | exact HB.out)⟩⟩
            ·rw [if_neg c37] at H
             exact absurd H (by simp)
           ·rw [if_neg c36] at H
            exact absurd H (by simp)
          ·rw [if_neg c35] at H
           exact absurd H (by simp)
         ·rw [if_neg c34] at H
          exact absurd H (by simp)
        ·rw [if_neg c33] at H
         have c33b0 : (t209 == 0) = false := beq_eq_false_iff_ne.mpr c33
         have c33b1 : (t209 != 0) = true := bne_iff_ne.mpr c33
         obtain ⟨y222, hy222⟩ : ∃ y_ : List (S41), y_ = (([] : List (S41))) := ⟨_, rfl⟩
         replace H : (if 0 ≤ t207 then (if t207 < (x7_2.length : Int) then (if y222.length + (rd_L3 x7_2 t207).length < 8796093022208 then ((some (y222 ++ (rd_L3 x7_2 t207) : List (S41))).bind fun y226 => (if 0 ≤ (wrap64 (t207 + 1)) then (if (wrap64 (t207 + 1)) < (x7_2.length : Int) then (if y226.length + (rd_L3 x7_2 (wrap64 (t207 + 1))).length < 8796093022208 then ((some (y226 ++ (rd_L3 x7_2 (wrap64 (t207 + 1))) : List (S41))).bind fun y230 => ((spec_l20Rd_pick.f k2 s0_0 t210 3).bind fun bt233 => (if y230.length < 8796093022208 then ((some (([] : List (List (S41))) : List (List (S41)))).bind fun y238 => (if t207 ≤ (x7_2.length : Int) then ((some (x7_2.take (t207 : Int).toNat : List (List (S41)))).bind fun y241 => (if y238.length + y241.length < 5864062014805 then ((some (y238 ++ y241 : List (List (S41)))).bind fun y245 => (if y245.length < 5864062014805 then ((some (y245 ++ [(y230 ++ [(⟨wrap64 (3 + bt233.1), 0⟩ : S41)])] : List (List (S41)))).bind fun y248 => (if 0 ≤ (wrap64 (t207 + 2)) then (if (wrap64 (t207 + 2)) ≤ (x7_2.length : Int) then ((some (x7_2.drop ((wrap64 (t207 + 2)) : Int).toNat : List (List (S41)))).bind fun y251 => (if y248.length + y251.length < 5864062014805 then (spec_l20Term.l1 k2 a2 (y248 ++ y251) x9_2 s0_0 bt233.2) else (none))) else (none)) else (none))) else (none))) else (none))) else (none))) else (none)))) else (none)) else (none)) else (none))) else (none)) else (none)) else (none)) = some (r1, r2) := by first | (rw [hy222]; with_reducible exact H) | (have H2_ := (Option.bind_some _ _).symm.trans H; rw [hy222]; with_reducible exact H2_) | (have H2_ := (Option.bind_some _ _).symm.trans H; with_reducible exact H2_) | with_reducible exact H | (rw [hy222]; exact H) | exact H
         have Ny222 := Aside0.mk hy222
         clear hy222
         by_cases c48 : 0 ≤ t207
         ·rw [if_pos c48] at H
          have c48b0 : decide (0 ≤ t207) = true := decide_eq_true c48
          clear c48
          by_cases c49 : t207 < (x7_2.length : Int)
          ·rw [if_pos c49] at H
           have c49b0 : decide (t207 < (x7_2.length : Int)) = true := decide_eq_true c49
           clear c49
           by_cases c50 : y222.length + (rd_L3 x7_2 t207).length < 8796093022208
           ·rw [if_pos c50] at H
            have LMc50 := Aside0.mk c50
            clear c50
            obtain ⟨y226, hy226⟩ : ∃ y_ : List (S41), y_ = (y222 ++ (rd_L3 x7_2 t207)) := ⟨_, rfl⟩
            replace H : (if 0 ≤ (wrap64 (t207 + 1)) then (if (wrap64 (t207 + 1)) < (x7_2.length : Int) then (if y226.length + (rd_L3 x7_2 (wrap64 (t207 + 1))).length < 8796093022208 then ((some (y226 ++ (rd_L3 x7_2 (wrap64 (t207 + 1))) : List (S41))).bind fun y230 => ((spec_l20Rd_pick.f k2 s0_0 t210 3).bind fun bt233 => (if y230.length < 8796093022208 then ((some (([] : List (List (S41))) : List (List (S41)))).bind fun y238 => (if t207 ≤ (x7_2.length : Int) then ((some (x7_2.take (t207 : Int).toNat : List (List (S41)))).bind fun y241 => (if y238.length + y241.length < 5864062014805 then ((some (y238 ++ y241 : List (List (S41)))).bind fun y245 => (if y245.length < 5864062014805 then ((some (y245 ++ [(y230 ++ [(⟨wrap64 (3 + bt233.1), 0⟩ : S41)])] : List (List (S41)))).bind fun y248 => (if 0 ≤ (wrap64 (t207 + 2)) then (if (wrap64 (t207 + 2)) ≤ (x7_2.length : Int) then ((some (x7_2.drop ((wrap64 (t207 + 2)) : Int).toNat : List (List (S41)))).bind fun y251 => (if y248.length + y251.length < 5864062014805 then (spec_l20Term.l1 k2 a2 (y248 ++ y251) x9_2 s0_0 bt233.2) else (none))) else (none)) else (none))) else (none))) else (none))) else (none))) else (none)))) else (none)) else (none)) else (none)) = some (r1, r2) := by first | (rw [hy226]; with_reducible exact H) | (have H2_ := (Option.bind_some _ _).symm.trans H; rw [hy226]; with_reducible exact H2_) | (have H2_ := (Option.bind_some _ _).symm.trans H; with_reducible exact H2_) | with_reducible exact H | (rw [hy226]; exact H) | exact H
            have Ny226 := Aside0.mk hy226
            clear hy226
            obtain ⟨ji51, hji51⟩ : ∃ j_ : Int, (wrap64 (t207 + 1)) = j_ := ⟨_, rfl⟩
            replace H : (if 0 ≤ (ji51) then (if (ji51) < (x7_2.length : Int) then (if y226.length + (rd_L3 x7_2 (ji51)).length < 8796093022208 then ((some (y226 ++ (rd_L3 x7_2 (ji51)) : List (S41))).bind fun y230 => ((spec_l20Rd_pick.f k2 s0_0 t210 3).bind fun bt233 => (if y230.length < 8796093022208 then ((some (([] : List (List (S41))) : List (List (S41)))).bind fun y238 => (if t207 ≤ (x7_2.length : Int) then ((some (x7_2.take (t207 : Int).toNat : List (List (S41)))).bind fun y241 => (if y238.length + y241.length < 5864062014805 then ((some (y238 ++ y241 : List (List (S41)))).bind fun y245 => (if y245.length < 5864062014805 then ((some (y245 ++ [(y230 ++ [(⟨wrap64 (3 + bt233.1), 0⟩ : S41)])] : List (List (S41)))).bind fun y248 => (if 0 ≤ (wrap64 (t207 + 2)) then (if (wrap64 (t207 + 2)) ≤ (x7_2.length : Int) then ((some (x7_2.drop ((wrap64 (t207 + 2)) : Int).toNat : List (List (S41)))).bind fun y251 => (if y248.length + y251.length < 5864062014805 then (spec_l20Term.l1 k2 a2 (y248 ++ y251) x9_2 s0_0 bt233.2) else (none))) else (none)) else (none))) else (none))) else (none))) else (none))) else (none)))) else (none)) else (none)) else (none)) = some (r1, r2) := by first | (rw [hji51] at H; exact H) | (simp only [hji51] at H ⊢; exact H)
            (try rw [hji51] at A30)
            (try rw [hji51] at A32)
            have hji51w : (IntKind.i64.wrap (t207 + 1)) = ji51 := (i64_w _).trans hji51
            by_cases c52 : 0 ≤ (ji51)
            ·rw [if_pos c52] at H
             have c52b0 : decide (0 ≤ (ji51)) = true := decide_eq_true c52
             clear c52
             by_cases c53 : (ji51) < (x7_2.length : Int)
             ·rw [if_pos c53] at H
              have c53b0 : decide ((ji51) < (x7_2.length : Int)) = true := decide_eq_true c53
              clear c53
              by_cases c54 : y226.length + (rd_L3 x7_2 (ji51)).length < 8796093022208
              ·rw [if_pos c54] at H
               have LMc54 := Aside0.mk c54
               clear c54
               obtain ⟨y230, hy230⟩ : ∃ y_ : List (S41), y_ = (y226 ++ (rd_L3 x7_2 (ji51))) := ⟨_, rfl⟩
               replace H : ((spec_l20Rd_pick.f k2 s0_0 t210 3).bind fun bt233 => (if y230.length < 8796093022208 then ((some (([] : List (List (S41))) : List (List (S41)))).bind fun y238 => (if t207 ≤ (x7_2.length : Int) then ((some (x7_2.take (t207 : Int).toNat : List (List (S41)))).bind fun y241 => (if y238.length + y241.length < 5864062014805 then ((some (y238 ++ y241 : List (List (S41)))).bind fun y245 => (if y245.length < 5864062014805 then ((some (y245 ++ [(y230 ++ [(⟨wrap64 (3 + bt233.1), 0⟩ : S41)])] : List (List (S41)))).bind fun y248 => (if 0 ≤ (wrap64 (t207 + 2)) then (if (wrap64 (t207 + 2)) ≤ (x7_2.length : Int) then ((some (x7_2.drop ((wrap64 (t207 + 2)) : Int).toNat : List (List (S41)))).bind fun y251 => (if y248.length + y251.length < 5864062014805 then (spec_l20Term.l1 k2 a2 (y248 ++ y251) x9_2 s0_0 bt233.2) else (none))) else (none)) else (none))) else (none))) else (none))) else (none))) else (none))) = some (r1, r2) := by first | (rw [hy230]; with_reducible exact H) | (have H2_ := (Option.bind_some _ _).symm.trans H; rw [hy230]; with_reducible exact H2_) | (have H2_ := (Option.bind_some _ _).symm.trans H; with_reducible exact H2_) | with_reducible exact H | (rw [hy230]; exact H) | exact H
               have Ny230 := Aside0.mk hy230
               clear hy230
               replace H := Option.bind_eq_some_iff.mp H
               obtain ⟨⟨t233, t234⟩, A550, H⟩ := H
               replace H : (if y230.length < 8796093022208 then ((some (([] : List (List (S41))) : List (List (S41)))).bind fun y238 => (if t207 ≤ (x7_2.length : Int) then ((some (x7_2.take (t207 : Int).toNat : List (List (S41)))).bind fun y241 => (if y238.length + y241.length < 5864062014805 then ((some (y238 ++ y241 : List (List (S41)))).bind fun y245 => (if y245.length < 5864062014805 then ((some (y245 ++ [(y230 ++ [(⟨wrap64 (3 + t233), 0⟩ : S41)])] : List (List (S41)))).bind fun y248 => (if 0 ≤ (wrap64 (t207 + 2)) then (if (wrap64 (t207 + 2)) ≤ (x7_2.length : Int) then ((some (x7_2.drop ((wrap64 (t207 + 2)) : Int).toNat : List (List (S41)))).bind fun y251 => (if y248.length + y251.length < 5864062014805 then (spec_l20Term.l1 k2 a2 (y248 ++ y251) x9_2 s0_0 t234) else (none))) else (none)) else (none))) else (none))) else (none))) else (none))) else (none)) = some (r1, r2) := H
               have A55 := Aside0.mk A550
               clear A550
               by_cases c56 : y230.length < 8796093022208
               ·rw [if_pos c56] at H
                have LMc56 := Aside0.mk c56
                clear c56
                obtain ⟨y235, hy235⟩ : ∃ y_ : List (S41), y_ = (y230 ++ [(⟨wrap64 (3 + t233), 0⟩ : S41)]) := ⟨_, rfl⟩
                replace H : ((some (([] : List (List (S41))) : List (List (S41)))).bind fun y238 => (if t207 ≤ (x7_2.length : Int) then ((some (x7_2.take (t207 : Int).toNat : List (List (S41)))).bind fun y241 => (if y238.length + y241.length < 5864062014805 then ((some (y238 ++ y241 : List (List (S41)))).bind fun y245 => (if y245.length < 5864062014805 then ((some (y245 ++ [y235] : List (List (S41)))).bind fun y248 => (if 0 ≤ (wrap64 (t207 + 2)) then (if (wrap64 (t207 + 2)) ≤ (x7_2.length : Int) then ((some (x7_2.drop ((wrap64 (t207 + 2)) : Int).toNat : List (List (S41)))).bind fun y251 => (if y248.length + y251.length < 5864062014805 then (spec_l20Term.l1 k2 a2 (y248 ++ y251) x9_2 s0_0 t234) else (none))) else (none)) else (none))) else (none))) else (none))) else (none))) = some (r1, r2) := by first | (rw [hy235]; with_reducible exact H) | (have H2_ := (Option.bind_some _ _).symm.trans H; rw [hy235]; with_reducible exact H2_) | (have H2_ := (Option.bind_some _ _).symm.trans H; with_reducible exact H2_) | with_reducible exact H | (rw [hy235]; exact H) | exact H
                have Ny235 := Aside0.mk hy235
                clear hy235
                obtain ⟨y238, hy238⟩ : ∃ y_ : List (List (S41)), y_ = (([] : List (List (S41)))) := ⟨_, rfl⟩
                replace H : (if t207 ≤ (x7_2.length : Int) then ((some (x7_2.take (t207 : Int).toNat : List (List (S41)))).bind fun y241 => (if y238.length + y241.length < 5864062014805 then ((some (y238 ++ y241 : List (List (S41)))).bind fun y245 => (if y245.length < 5864062014805 then ((some (y245 ++ [y235] : List (List (S41)))).bind fun y248 => (if 0 ≤ (wrap64 (t207 + 2)) then (if (wrap64 (t207 + 2)) ≤ (x7_2.length : Int) then ((some (x7_2.drop ((wrap64 (t207 + 2)) : Int).toNat : List (List (S41)))).bind fun y251 => (if y248.length + y251.length < 5864062014805 then (spec_l20Term.l1 k2 a2 (y248 ++ y251) x9_2 s0_0 t234) else (none))) else (none)) else (none))) else (none))) else (none))) else (none)) = some (r1, r2) := by first | (rw [hy238]; with_reducible exact H) | (have H2_ := (Option.bind_some _ _).symm.trans H; rw [hy238]; with_reducible exact H2_) | (have H2_ := (Option.bind_some _ _).symm.trans H; with_reducible exact H2_) | with_reducible exact H | (rw [hy238]; exact H) | exact H
                have Ny238 := Aside0.mk hy238
                clear hy238
                have c57b0 := eq_true (of_decide_eq_true (by first | (with_reducible assumption) | assumption) : 0 ≤ t207)
                by_cases c58 : t207 ≤ (x7_2.length : Int)
                ·rw [if_pos c58] at H
                 have c58b0 := eq_true c58
                 have c58b1 : decide (t207 ≤ (x7_2.length : Int)) = true := decide_eq_true c58
                 clear c58
                 obtain ⟨y241, hy241⟩ : ∃ y_ : List (List (S41)), y_ = (x7_2.take (t207 : Int).toNat) := ⟨_, rfl⟩
                 replace H : (if y238.length + y241.length < 5864062014805 then ((some (y238 ++ y241 : List (List (S41)))).bind fun y245 => (if y245.length < 5864062014805 then ((some (y245 ++ [y235] : List (List (S41)))).bind fun y248 => (if 0 ≤ (wrap64 (t207 + 2)) then (if (wrap64 (t207 + 2)) ≤ (x7_2.length : Int) then ((some (x7_2.drop ((wrap64 (t207 + 2)) : Int).toNat : List (List (S41)))).bind fun y251 => (if y248.length + y251.length < 5864062014805 then (spec_l20Term.l1 k2 a2 (y248 ++ y251) x9_2 s0_0 t234) else (none))) else (none)) else (none))) else (none))) else (none)) = some (r1, r2) := by first | (rw [hy241]; with_reducible exact H) | (have H2_ := (Option.bind_some _ _).symm.trans H; rw [hy241]; with_reducible exact H2_) | (have H2_ := (Option.bind_some _ _).symm.trans H; with_reducible exact H2_) | with_reducible exact H | (rw [hy241]; exact H) | exact H
                 have Ny241 := Aside0.mk hy241
                 clear hy241
                 by_cases c59 : y238.length + y241.length < 5864062014805
                 ·rw [if_pos c59] at H
                  have LMc59 := Aside0.mk c59
                  clear c59
                  obtain ⟨y245, hy245⟩ : ∃ y_ : List (List (S41)), y_ = (y238 ++ y241) := ⟨_, rfl⟩
                  replace H : (if y245.length < 5864062014805 then ((some (y245 ++ [y235] : List (List (S41)))).bind fun y248 => (if 0 ≤ (wrap64 (t207 + 2)) then (if (wrap64 (t207 + 2)) ≤ (x7_2.length : Int) then ((some (x7_2.drop ((wrap64 (t207 + 2)) : Int).toNat : List (List (S41)))).bind fun y251 => (if y248.length + y251.length < 5864062014805 then (spec_l20Term.l1 k2 a2 (y248 ++ y251) x9_2 s0_0 t234) else (none))) else (none)) else (none))) else (none)) = some (r1, r2) := by first | (rw [hy245]; with_reducible exact H) | (have H2_ := (Option.bind_some _ _).symm.trans H; rw [hy245]; with_reducible exact H2_) | (have H2_ := (Option.bind_some _ _).symm.trans H; with_reducible exact H2_) | with_reducible exact H | (rw [hy245]; exact H) | exact H
                  have Ny245 := Aside0.mk hy245
                  clear hy245
                  by_cases c60 : y245.length < 5864062014805
                  ·rw [if_pos c60] at H
                   have LMc60 := Aside0.mk c60
                   clear c60
                   obtain ⟨y248, hy248⟩ : ∃ y_ : List (List (S41)), y_ = (y245 ++ [y235]) := ⟨_, rfl⟩
                   replace H : (if 0 ≤ (wrap64 (t207 + 2)) then (if (wrap64 (t207 + 2)) ≤ (x7_2.length : Int) then ((some (x7_2.drop ((wrap64 (t207 + 2)) : Int).toNat : List (List (S41)))).bind fun y251 => (if y248.length + y251.length < 5864062014805 then (spec_l20Term.l1 k2 a2 (y248 ++ y251) x9_2 s0_0 t234) else (none))) else (none)) else (none)) = some (r1, r2) := by first | (rw [hy248]; with_reducible exact H) | (have H2_ := (Option.bind_some _ _).symm.trans H; rw [hy248]; with_reducible exact H2_) | (have H2_ := (Option.bind_some _ _).symm.trans H; with_reducible exact H2_) | with_reducible exact H | (rw [hy248]; exact H) | exact H
                   have Ny248 := Aside0.mk hy248
                   clear hy248
                   by_cases c61 : 0 ≤ (wrap64 (t207 + 2))
                   ·rw [if_pos c61] at H
                    have c61b0 := eq_true c61
                    have c61b1 : decide (0 ≤ (wrap64 (t207 + 2))) = true := decide_eq_true c61
                    by_cases c62 : (wrap64 (t207 + 2)) ≤ (x7_2.length : Int)
                    ·rw [if_pos c62] at H
                     have c62b0 := eq_true c62
                     have c62b1 : decide ((wrap64 (t207 + 2)) ≤ (x7_2.length : Int)) = true := decide_eq_true c62
                     obtain ⟨y251, hy251⟩ : ∃ y_ : List (List (S41)), y_ = (x7_2.drop ((wrap64 (t207 + 2)) : Int).toNat) := ⟨_, rfl⟩
                     replace H : (if y248.length + y251.length < 5864062014805 then (spec_l20Term.l1 k2 a2 (y248 ++ y251) x9_2 s0_0 t234) else (none)) = some (r1, r2) := by first | (rw [hy251]; with_reducible exact H) | (have H2_ := (Option.bind_some _ _).symm.trans H; rw [hy251]; with_reducible exact H2_) | (have H2_ := (Option.bind_some _ _).symm.trans H; with_reducible exact H2_) | with_reducible exact H | (rw [hy251]; exact H) | exact H
                     have Ny251 := Aside0.mk hy251
                     clear hy251
                     by_cases c63 : y248.length + y251.length < 5864062014805
                     ·rw [if_pos c63] at H
                      have LMc63 := Aside0.mk c63
                      clear c63
                      obtain ⟨y255, hy255⟩ : ∃ y_ : List (List (S41)), y_ = (y248 ++ y251) := ⟨_, rfl⟩
                      replace H : (spec_l20Term.l1 k2 a2 y255 x9_2 s0_0 t234) = some (r1, r2) := by first | (rw [hy255]; with_reducible exact H) | (have H2_ := (Option.bind_some _ _).symm.trans H; rw [hy255]; with_reducible exact H2_) | (have H2_ := (Option.bind_some _ _).symm.trans H; with_reducible exact H2_) | with_reducible exact H | (rw [hy255]; exact H) | exact H
                      have Ny255 := Aside0.mk hy255
                      clear hy255
                      have H' := Aside0.mk H
                      clear H
                      obtain ⟨Ao64, co64, eo64⟩ := Kd.R_slice HO_7.out
                      subst eo64
                      try go_wp2_with (first | ((with_reducible refine gate_callee (f := 64) rfl ?_); refine goesL_ (some 52) rfl rfl Try.func64 (by kernel_rfl) rfl #[.pointer (some ⟨g, 0, none⟩), .int .i64 (wrap64 ((x7_2.length : Int) - 1))] rfl (by (try simp only [List.map_toArray, List.map_cons, List.map_nil]); first | done | rfl | (simp only [List.length_drop, List.length_take]; rfl)) ?_; (with_reducible refine (spec_l20Rd_pick.calls k2 g s0_0 x1001_2 (wrap64 ((x7_2.length : Int) - 1)) t207 t208 w0 _ ?side1 ?side2 A30.out).mono ?_); (case side1 => repeat (first | (with_reducible first | exact HI0.out | apply IsS68.alloc | apply IsS68.drewN | apply IsS68.drew | apply IsS68.set_1) | exact HI0.out)); (case side2 => repeat (first | (with_reducible first | exact HB.out | apply below_alloc | apply pw_below_drewN | apply below_drew1 | refine below_set ?_ (IsS68.ge HI0.out)) | exact HB.out)); rintro e w65 ⟨rfl, hi, hb, hk⟩; refine ⟨_, rfl, ?_⟩; have n0_ := Aside0.mk (Kd.R_mono (Kd.R_keep (IsS68.apart (show IsS68 w0 _ g s0_0 x1001_2 from by repeat (first | (with_reducible first | exact HI0.out | apply IsS68.alloc | apply IsS68.drewN | apply IsS68.drew | apply IsS68.set_1) | exact HI0.out)) (by (with_reducible repeat apply Kd.R_alloc); exact HO_7.out) (by decide)) hk (fun _ h => h.2)) (fun _ h => h.1)); have n1_ := Aside0.mk (KeepBut.trans (by repeat (first | (with_reducible first | exact HK.out | apply KeepBut.set_ | apply keep_drewN | apply keep_drew | apply keep_alloc) | exact HK.out)) hk (.inl rfl)); have n2_ := Aside0.mk (hb); have n3_ := Aside0.mk (hi); clear HO_7; clear HK; clear HB; clear HI0; have HO_7 := n0_; have HK := n1_; have HB := n2_; have HI0 := n3_; clear n0_ n1_ n2_ n3_; (try clear hb); (try clear hb2); (try clear hk); (try clear hi)) | (go_at_call 64; (with_reducible refine (spec_l20Rd_pick.calls k2 g s0_0 t208 4 t209 t210 w0 _ ?side1 ?side2 A32.out).mono ?_); (case side1 => repeat (first | (with_reducible first | exact HI0.out | apply IsS68.alloc | apply IsS68.drewN | apply IsS68.drew | apply IsS68.set_1) | exact HI0.out)); (case side2 => repeat (first | (with_reducible first | exact HB.out | apply below_alloc | apply pw_below_drewN | apply below_drew1 | refine below_set ?_ (IsS68.ge HI0.out)) | exact HB.out)); rintro e w66 ⟨rfl, hi, hb, hk⟩; have n0_ := Aside0.mk (Kd.R_mono (Kd.R_keep (IsS68.apart (show IsS68 w0 _ g s0_0 t208 from by repeat (first | (with_reducible first | exact HI0.out | apply IsS68.alloc | apply IsS68.drewN | apply IsS68.drew | apply IsS68.set_1) | exact HI0.out)) (by (with_reducible repeat apply Kd.R_alloc); exact HO_7.out) (by decide)) hk (fun _ h => h.2)) (fun _ h => h.1)); have n1_ := Aside0.mk (KeepBut.trans (by repeat (first | (with_reducible first | exact HK.out | apply KeepBut.set_ | apply keep_drewN | apply keep_drew | apply keep_alloc) | exact HK.out)) hk (.inl rfl)); have n2_ := Aside0.mk (hb); have n3_ := Aside0.mk (hi); clear HO_7; clear HK; clear HB; clear HI0; have HO_7 := n0_; have HK := n1_; have HB := n2_; have HI0 := n3_; clear n0_ n1_ n2_ n3_; (try clear hb); (try clear hb2); (try clear hk); (try clear hi)))
                      have n0_ := Aside0.mk (Kd.R_drew HO_7.out)
                      have n1_ := Aside0.mk (IsS68.drew HI0.out)
                      have n2_ := Aside0.mk (keep_drew HK.out)
                      have n3_ := Aside0.mk (below_drew1 HB.out)
                      clear HO_7
                      clear HI0
                      clear HK
                      clear HB
                      have HO_7 := n0_
                      have HI0 := n1_
                      have HK := n2_
                      have HB := n3_
                      clear n0_ n1_ n2_ n3_
                      have p225 : 0 ≤ (t207 : Int) := of_decide_eq_true (by first | (with_reducible assumption) | assumption)
                      have q225 : t207 < (x7_2.length : Int) := of_decide_eq_true (by first | (with_reducible assumption) | assumption)
                      obtain ⟨ad225, A225_0, c225_0, e225, hx225_0, hl225_0, hi225_0⟩ := at_L3 (Kd.R_reads' HO_7.out).2.2 t207 p225 q225
                      cases e225
                      obtain ⟨ce225, hce225, hMe225, hcc225⟩ := Kd.R_get HO_7.out [] t207 p225 (by first | exact q225 | exact of_decide_eq_true (by first | (with_reducible assumption) | assumption) | (have e_ := (Kd.R_reads' HO_7.out).1; omega))
                      obtain ⟨ve225_0, rfl, ge225_0⟩ := hMe225
                      have hv225_0 := hcc225 0 _ rfl
                      rw [Nat.add_zero, show ((Kd.slice 41 k41)).sz = 1 from rfl, Nat.mul_one] at hv225_0
                      replace hv225_0 := Option.some.inj (hv225_0.symm.trans hx225_0)
                      rw [hv225_0] at ge225_0
                      have HL225_0 := Aside0.mk (show Kd.R k41 41 _ _ _ _ (rd_L3 x7_2 t207) from ge225_0)
                      clear hv225_0 ge225_0
                      clear hcc225 hce225
                      have HR225_0 := Aside0.mk hi225_0
                      have HC225_0 := Aside0.mk hl225_0
                      clear hi225_0 hl225_0
                      replace p225 := eq_true p225
                      replace q225 := eq_true q225
                      have p229 : 0 ≤ ((ji51) : Int) := of_decide_eq_true (by first | (with_reducible assumption) | assumption)
                      have q229 : (ji51) < (x7_2.length : Int) := of_decide_eq_true (by first | (with_reducible assumption) | assumption)
                      obtain ⟨ad229, A229_0, c229_0, e229, hx229_0, hl229_0, hi229_0⟩ := at_L3 (Kd.R_reads' HO_7.out).2.2 (ji51) p229 q229
                      obtain rfl : ad225 = ad229 := (by injection e229)
                      obtain ⟨ce229, hce229, hMe229, hcc229⟩ := Kd.R_get HO_7.out [] (ji51) p229 (by first | exact q229 | exact of_decide_eq_true (by first | (with_reducible assumption) | assumption) | (have e_ := (Kd.R_reads' HO_7.out).1; omega))
                      obtain ⟨ve229_0, rfl, ge229_0⟩ := hMe229
                      have hv229_0 := hcc229 0 _ rfl
                      rw [Nat.add_zero, show ((Kd.slice 41 k41)).sz = 1 from rfl, Nat.mul_one] at hv229_0
                      replace hv229_0 := Option.some.inj (hv229_0.symm.trans hx229_0)
                      rw [hv229_0] at ge229_0
                      have HL229_0 := Aside0.mk (show Kd.R k41 41 _ _ _ _ (rd_L3 x7_2 (ji51)) from ge229_0)
                      clear hv229_0 ge229_0
                      clear hcc229 hce229
                      have HR229_0 := Aside0.mk hi229_0
                      have HC229_0 := Aside0.mk hl229_0
                      clear hi229_0 hl229_0
                      replace p229 := eq_true p229
                      replace q229 := eq_true q229
                      refine start_ (n := 19) (S := fun w' => w'.cell? (ad225.add (t207).toNat) = some (.slice A225_0 (rd_L3 x7_2 t207).length c225_0) ∧ w'.cell? (ad225.add ((ji51)).toNat) = some (.slice A229_0 (rd_L3 x7_2 (ji51)).length c229_0)) (ds := [16]) #[false, false, false, false, false, false, false, false, false, false, false, false, false, false, false, false, false, false, false] (by kernel_rfl) rfl rfl ⟨hx225_0, hx229_0⟩ (fun hHeld => ?_); refine with_tabW spec_l20Term.tab15 spec_l20Term.bits15 (fun HT_ HW_ => ?_)
                      generalize w66.drew = w67 at HO_7 HI0 HK HB HL225_0 HL229_0 HR225_0 HR229_0 hx225_0 hx229_0 hHeld ⊢
                      refine pure_ (i := 1) (N := some 75) (v := ?_) (a' := ?_) #[false, true, false, false, false, false, false, false, false, false, false, false, false, false, false, false, false, false, false] rfl rfl (any_of HT_.out (by kernel_rfl)) (fun _ _ _ h => h) (Or.inl ⟨by rfl, ?_⟩) ?_ ?_
                      rotate_left
                      ·intro w'
                       go_simp
                       with_reducible rfl
                      rotate_left
                      ·simp only [Act.put, List.setIfInBounds_toArray, List.set_cons_zero, List.set_cons_succ, i64_w, i32_w]
                       rfl
                      refine pure_ (i := 2) (N := some 76) (v := ?_) (a' := ?_) #[false, true, true, false, false, false, false, false, false, false, false, false, false, false, false, false, false, false, false] rfl rfl (any_of HT_.out (by kernel_rfl)) (fun _ _ _ h => h) (Or.inl ⟨by rfl, ?_⟩) ?_ ?_
                      rotate_left
                      ·intro w'
                       go_simp
                       with_reducible rfl
                      rotate_left
                      ·simp only [Act.put, List.setIfInBounds_toArray, List.set_cons_zero, List.set_cons_succ, i64_w, i32_w]
                       rfl
                      refine pure_ (i := 3) (N := some 77) (v := ?_) (a' := ?_) #[false, true, true, true, false, false, false, false, false, false, false, false, false, false, false, false, false, false, false] rfl rfl (any_of HT_.out (by kernel_rfl)) (fun _ _ _ h => h) (Or.inl ⟨by rfl, ?_⟩) ?_ ?_
                      rotate_left
                      ·intro w'
                       go_simp
                       with_reducible rfl
                      rotate_left
                      ·simp only [Act.put, List.setIfInBounds_toArray, List.set_cons_zero, List.set_cons_succ, i64_w, i32_w]
                       rfl
                      refine pure_ (i := 6) (N := some 80) (v := ?_) (a' := ?_) #[false, true, true, true, false, false, true, false, false, false, false, false, false, false, false, false, false, false, false] rfl rfl (any_of HT_.out (by kernel_rfl)) (fun _ _ _ h => h) (Or.inl ⟨by rfl, ?_⟩) ?_ ?_
                      rotate_left
                      ·intro w'
                       go_simp
                       with_reducible rfl
                      rotate_left
                      ·simp only [Act.put, List.setIfInBounds_toArray, List.set_cons_zero, List.set_cons_succ, i64_w, i32_w]
                       rfl
                      refine pure_ (i := 7) (N := some 81) (v := ?_) (a' := ?_) #[false, true, true, true, false, false, true, true, false, false, false, false, false, false, false, false, false, false, false] rfl rfl (any_of HT_.out (by kernel_rfl)) (fun _ _ _ h => h) (Or.inl ⟨by rfl, ?_⟩) ?_ ?_
                      rotate_left
                      ·intro w'
                       go_simp
                       with_reducible rfl
                      rotate_left
                      ·simp only [Act.put, List.setIfInBounds_toArray, List.set_cons_zero, List.set_cons_succ, i64_w, i32_w]
                       rfl
                      refine pure_ (i := 8) (N := some 82) (v := ?_) (a' := ?_) #[false, true, true, true, false, false, true, true, true, false, false, false, false, false, false, false, false, false, false] rfl rfl (any_of HT_.out (by kernel_rfl)) (fun _ _ _ h => h) (Or.inl ⟨by rfl, ?_⟩) ?_ ?_
                      rotate_left
                      ·intro w'
                       go_simp
                       with_reducible rfl
                      rotate_left
                      ·simp only [Act.put, List.setIfInBounds_toArray, List.set_cons_zero, List.set_cons_succ, i64_w, i32_w]
                       rfl
                      refine pure_ (i := 9) (N := some 83) (v := ?_) (a' := ?_) #[false, true, true, true, false, false, true, true, true, true, false, false, false, false, false, false, false, false, false] rfl rfl (any_of HT_.out (by kernel_rfl)) (fun _ _ _ h => h) (Or.inl ⟨by rfl, ?_⟩) ?_ ?_
                      rotate_left
                      ·intro w'
                       go_simp
                       with_reducible rfl
                      rotate_left
                      ·simp only [Act.put, List.setIfInBounds_toArray, List.set_cons_zero, List.set_cons_succ, i64_w, i32_w]
                       rfl
                      refine pure_ (i := 12) (N := some 86) (v := ?_) (a' := ?_) #[false, true, true, true, false, false, true, true, true, true, false, false, true, false, false, false, false, false, false] rfl rfl (any_of HT_.out (by kernel_rfl)) (fun _ _ _ h => h) (Or.inl ⟨by rfl, ?_⟩) ?_ ?_
                      rotate_left
                      ·intro w'
                       go_simp
                       with_reducible rfl
                      rotate_left
                      ·simp only [Act.put, List.setIfInBounds_toArray, List.set_cons_zero, List.set_cons_succ, i64_w, i32_w]
                       rfl
                      refine take_ (i := 4) (N := some 78) (v := ?_) (a' := ?_) #[false, true, true, true, true, false, true, true, true, true, false, false, true, false, false, false, false, false, false] rfl rfl (take_ofW HT_.out HW_.out (by kernel_rfl)) (fun _ _ _ h => h) (Or.inl ⟨by rfl, ?_⟩) hHeld ?_ ?_
                      rotate_left
                      ·rintro w' ⟨s0, s1⟩
                       go_simp
                       with_reducible rfl
                      rotate_left
                      ·simp only [Act.put, List.setIfInBounds_toArray, List.set_cons_zero, List.set_cons_succ, i64_w, i32_w]
                       rfl
                      refine take_ (i := 10) (N := some 84) (v := ?_) (a' := ?_) #[false, true, true, true, true, false, true, true, true, true, true, false, true, false, false, false, false, false, false] rfl rfl (take_ofW HT_.out HW_.out (by kernel_rfl)) (fun _ _ _ h => h) (Or.inl ⟨by rfl, ?_⟩) hHeld ?_ ?_
                      rotate_left
                      ·rintro w' ⟨s0, s1⟩
                       go_simp
                       with_reducible rfl
                      rotate_left
                      ·simp only [Act.put, List.setIfInBounds_toArray, List.set_cons_zero, List.set_cons_succ, i64_w, i32_w]
                       rfl
                      refine one_ (i := 0) (N := some 74) #[true, true, true, true, true, false, true, true, true, true, true, false, true, false, false, false, false, false, false] rfl rfl (one_of HT_.out (by kernel_rfl)) (by decide) (fun K hK => ?_)
                      refine Kd.R_lit_step k41 _ 41 ?hg (N := 74) ?hd (xs := ([] : List (S41))) (inner := []) (ok := fun _ => True) (okp := fun _ => True) ?hr ?hp (fun _ hk => hk) trivial (Below.refl _ _) (Nat.le_refl _) (by simp) ?_; (case hd => rfl); (case hg => rfl); (case hr => first | (go_simp; done) | (go_simp; rfl)); (case hp => exact (Reps.none _ _))
                      intro v223 w68 ho69 hb hg_ hnew_
                      have HS0_ := (hb.cell (World.block_lt_of_cell? _ _ (hHeld.1))).trans (hHeld.1)
                      have HS1_ := (hb.cell (World.block_lt_of_cell? _ _ (hHeld.2))).trans (hHeld.2)
                      clear hg_ hnew_
                      (first | rw [← Ny222.out] at ho69 | (simp only [Int.reduceToNat] at ho69; rw [← Ny222.out] at ho69))
                      have n0_ := Aside0.mk (Kd.R_elder' (by (with_reducible repeat apply Kd.R_alloc); exact HO_7.out) (Kd.R_base ho69) hb)
                      have n1_ := Aside0.mk (Kd.R_elder' (by (with_reducible repeat apply Kd.R_alloc); exact HL225_0.out) (Kd.R_base ho69) hb)
                      have n2_ := Aside0.mk (Kd.R_elder' (by (with_reducible repeat apply Kd.R_alloc); exact HL229_0.out) (Kd.R_base ho69) hb)
                      have n3_ := Aside0.mk (Kd.R_lower (Kd.R_new' (Kd.R_new' ho69 (Kd.R_lt (by (with_reducible repeat apply Kd.R_alloc); exact HL225_0.out))) (Kd.R_lt (by (with_reducible repeat apply Kd.R_alloc); exact HL229_0.out))) (keep_size (w := w) (g := g) (row := none) (by repeat (first | (with_reducible first | exact HK.out | apply KeepBut.set_ | apply keep_drewN | apply keep_drew | apply keep_alloc) | exact HK.out))))
                      have n4_ := Aside0.mk (IsS68.below (by repeat (first | (with_reducible first | exact HI0.out | apply IsS68.alloc | apply IsS68.drewN | apply IsS68.drew | apply IsS68.set_1) | exact HI0.out)) hb)
                      have n5_ := Aside0.mk (Kd.C_below (by repeat (first | (with_reducible exact HR225_0.out) | (with_reducible refine Kd.C_alloc ?_ _) | (with_reducible refine Kd.C_drewN ?_ _) | (with_reducible refine Kd.C_drew ?_) | exact HR225_0.out)) hb)
                      have n6_ := Aside0.mk (Kd.C_below (by repeat (first | (with_reducible exact HR229_0.out) | (with_reducible refine Kd.C_alloc ?_ _) | (with_reducible refine Kd.C_drewN ?_ _) | (with_reducible refine Kd.C_drew ?_) | exact HR229_0.out)) hb)
                      have n7_ := Aside0.mk (KeepBut.trans (by repeat (first | (with_reducible first | exact HK.out | apply KeepBut.set_ | apply keep_drewN | apply keep_drew | apply keep_alloc) | exact HK.out)) (KeepBut.of_below hb g none) (.inl rfl))
                      have n8_ := Aside0.mk (below_step (by repeat (first | (with_reducible first | exact HB.out | apply below_alloc | apply pw_below_drewN | apply below_drew1 | refine below_set ?_ (IsS68.ge HI0.out)) | exact HB.out)) hb)
                      clear HO_7
                      clear HL225_0
                      clear HL229_0
                      clear HI0
                      clear HR225_0
                      clear HR229_0
                      clear HK
                      clear HB
                      have HO_7 := n0_
                      have HL225_0 := n1_
                      have HL229_0 := n2_
                      have HO224 := n3_
                      have HI0 := n4_
                      have HR225_0 := n5_
                      have HR229_0 := n6_
                      have HK := n7_
                      have HB := n8_
                      clear n0_ n1_ n2_ n3_ n4_ n5_ n6_ n7_ n8_
                      clear hb ho69
                      refine hK.out _ _ ⟨HS0_, HS1_⟩ (fun hHeld => ?_)
                      clear hK K
                      refine norm_ (a' := ?_) ?_ ?_
                      rotate_left
                      ·show Act.put _ (some 74) _ = _
                       simp only [Act.put, List.setIfInBounds_toArray, List.set_cons_zero, List.set_cons_succ, i64_w, i32_w]
                       rfl
                      refine one_ (i := 5) (N := some 79) #[true, true, true, true, true, true, true, true, true, true, true, false, true, false, false, false, false, false, false] rfl rfl (one_of HT_.out (by kernel_rfl)) (by decide) (fun K hK => ?_)
                      refine Kd.R_append_rows_step k41 w.heap.size (by rfl) (.tmp 74) (.tmp 78) 23 41 (.agg #[(.int .i64 0), (.int .i64 0)]) 16 rfl Try.underlying23 info41 rfl (by decide) (by omega) v223 y222 (rd_L3 x7_2 t207) _ _ _ (fun k_ => some k_ ≠ (.slice A225_0 (rd_L3 x7_2 t207).length c225_0 : Value).ownBlock ∧ some k_ ≠ (.slice A229_0 (rd_L3 x7_2 (ji51)).length c229_0 : Value).ownBlock) (fun _ => False) rfl rfl ?aO ?aR (fun _ _ h => h) (fun _ h => h.elim) ?aF (Below.refl _ _) ?aS ?aL ?_
                      (case aR => repeat (first | exact (by repeat (first | (with_reducible exact HR225_0.out) | (with_reducible refine Kd.C_alloc ?_ _) | (with_reducible refine Kd.C_drewN ?_ _) | (with_reducible refine Kd.C_drew ?_) | exact HR225_0.out)) | (with_reducible refine Kd.C_alloc ?_ _) | (with_reducible refine Kd.C_drewN ?_ _) | (with_reducible refine Kd.C_drew ?_)))
                      (case aF => exact (fun k_ hk => ⟨Kd.fresh' (Kd.R_lt (by (with_reducible repeat apply Kd.R_alloc); exact HL225_0.out)) k_ hk, Kd.fresh' (Kd.R_lt (by (with_reducible repeat apply Kd.R_alloc); exact HL229_0.out)) k_ hk⟩))
                      (case aO => exact (by (with_reducible repeat apply Kd.R_alloc); exact Kd.R_mono HO224.out (fun _ hk => ⟨hk.1.2, hk.2⟩)))
                      (case aS => exact (keep_size (w := w) (g := g) (row := none) (by repeat (first | (with_reducible first | exact HK.out | apply KeepBut.set_ | apply keep_drewN | apply keep_drew | apply keep_alloc) | exact HK.out))))
                      (case aL => have := LMc50.out; omega)
                      intro v227 w70 ho hb hg hat
                      have HS0_ := cell_grown hg (hHeld.1) (by first | (rw [add_block]; exact ((HO_7.out.1 _ rfl).2)) | (show some (Addr.add _ _).block ≠ _; rw [add_block]; exact ((HO_7.out.1 _ rfl).2)) | exact ((HO_7.out.1 _ rfl).2))
                      have HS1_ := cell_grown hg (hHeld.2) (by first | (rw [add_block]; exact ((HO_7.out.1 _ rfl).2)) | (show some (Addr.add _ _).block ≠ _; rw [add_block]; exact ((HO_7.out.1 _ rfl).2)) | exact ((HO_7.out.1 _ rfl).2))
                      rw [← Ny226.out] at ho
                      have n0_ := Aside0.mk (Kd.R_after (ok := (fun _ => True)) (by (with_reducible repeat apply Kd.R_alloc); exact HO_7.out) hg hat)
                      have n1_ := Aside0.mk (IsS68.grown (by repeat (first | (with_reducible first | exact HI0.out | apply IsS68.alloc | apply IsS68.drewN | apply IsS68.drew | apply IsS68.set_1) | exact HI0.out)) hg (IsS68.own_ne HI0.out HO224.out (by decide)))
                      have n2_ := Aside0.mk (Kd.R_after (ok := (fun k_ => some k_ ≠ (.slice (some ad225) x7_2.length co64 : Value).ownBlock)) (by (with_reducible repeat apply Kd.R_alloc); exact Kd.R_mono HL225_0.out (fun _ hk => ⟨hk.1.2, hk.2⟩)) hg hat)
                      have n3_ := Aside0.mk (Kd.R_after (ok := (fun k_ => some k_ ≠ (.slice (some ad225) x7_2.length co64 : Value).ownBlock)) (by (with_reducible repeat apply Kd.R_alloc); exact Kd.R_mono HL229_0.out (fun _ hk => ⟨hk.1.2, hk.2⟩)) hg hat)
                      have n4_ := Aside0.mk (below_weaken (by repeat (first | (with_reducible first | exact HB.out | apply below_alloc | apply pw_below_drewN | apply below_drew1 | refine below_set ?_ (IsS68.ge HI0.out)) | exact HB.out)) HL.out hb)
                      have n5_ := Aside0.mk (KeepBut.trans (by repeat (first | (with_reducible first | exact HK.out | apply KeepBut.set_ | apply keep_drewN | apply keep_drew | apply keep_alloc) | exact HK.out)) (KeepBut.of_grown hg g) (Kd.R_base2 HO224.out))
                      have n6_ := Aside0.mk (ho)
                      clear HO_7
                      clear HI0
                      clear HL225_0
                      clear HL229_0
                      clear HB
                      clear HK
                      clear HO224
                      have HO_7 := n0_
                      have HI0 := n1_
                      have HL225_0 := n2_
                      have HL229_0 := n3_
                      have HB := n4_
                      have HK := n5_
                      have HO228 := n6_
                      clear n0_ n1_ n2_ n3_ n4_ n5_ n6_
                      clear ho hb hg hat
                      refine hK.out _ _ ⟨HS0_, HS1_⟩ (fun hHeld => ?_)
                      clear hK K
                      refine norm_ (a' := ?_) ?_ ?_
                      rotate_left
                      ·show Act.put _ (some 79) _ = _
                       simp only [Act.put, List.setIfInBounds_toArray, List.set_cons_zero, List.set_cons_succ, i64_w, i32_w]
                       rfl
                      refine one_ (i := 11) (N := some 85) #[true, true, true, true, true, true, true, true, true, true, true, true, true, false, false, false, false, false, false] rfl rfl (one_of HT_.out (by kernel_rfl)) (by decide) (fun K hK => ?_)
                      refine Kd.R_append_rows_step k41 w.heap.size (by rfl) (.tmp 79) (.tmp 84) 23 41 (.agg #[(.int .i64 0), (.int .i64 0)]) 16 rfl Try.underlying23 info41 rfl (by decide) (by omega) v227 y226 (rd_L3 x7_2 (ji51)) _ _ _ (fun k_ => some k_ ≠ (.slice A225_0 (rd_L3 x7_2 t207).length c225_0 : Value).ownBlock ∧ some k_ ≠ (.slice A229_0 (rd_L3 x7_2 (ji51)).length c229_0 : Value).ownBlock) (fun _ => False) rfl rfl ?aO ?aR (fun _ _ h => h) (fun _ h => h.elim) ?aF (Below.refl _ _) ?aS ?aL ?_
                      (case aR => repeat (first | exact ((Kd.R_reads' (by (with_reducible repeat apply Kd.R_alloc); exact HL229_0.out)).2.2) | (with_reducible refine Kd.C_alloc ?_ _) | (with_reducible refine Kd.C_drewN ?_ _) | (with_reducible refine Kd.C_drew ?_)))
                      (case aF => exact (fun k_ hk => ⟨Kd.fresh' (Kd.R_lt (by (with_reducible repeat apply Kd.R_alloc); exact HL225_0.out)) k_ hk, Kd.fresh' (Kd.R_lt (by (with_reducible repeat apply Kd.R_alloc); exact HL229_0.out)) k_ hk⟩))
                      (case aO => exact (by (with_reducible repeat apply Kd.R_alloc); exact HO228.out))
                      (case aS => exact (keep_size (w := w) (g := g) (row := none) (by repeat (first | (with_reducible first | exact HK.out | apply KeepBut.set_ | apply keep_drewN | apply keep_drew | apply keep_alloc) | exact HK.out))))
                      (case aL => have := LMc54.out; omega)
                      intro v231 w71 ho hb hg hat
                      have HS0_ := cell_grown hg (hHeld.1) (by first | (rw [add_block]; exact ((HO_7.out.1 _ rfl).2)) | (show some (Addr.add _ _).block ≠ _; rw [add_block]; exact ((HO_7.out.1 _ rfl).2)) | exact ((HO_7.out.1 _ rfl).2))
                      have HS1_ := cell_grown hg (hHeld.2) (by first | (rw [add_block]; exact ((HO_7.out.1 _ rfl).2)) | (show some (Addr.add _ _).block ≠ _; rw [add_block]; exact ((HO_7.out.1 _ rfl).2)) | exact ((HO_7.out.1 _ rfl).2))
                      rw [← Ny230.out] at ho
                      have n0_ := Aside0.mk (Kd.R_after (ok := (fun _ => True)) (by (with_reducible repeat apply Kd.R_alloc); exact HO_7.out) hg hat)
                      have n1_ := Aside0.mk (IsS68.grown (by repeat (first | (with_reducible first | exact HI0.out | apply IsS68.alloc | apply IsS68.drewN | apply IsS68.drew | apply IsS68.set_1) | exact HI0.out)) hg (IsS68.own_ne HI0.out HO228.out (by decide)))
                      have n2_ := Aside0.mk (Kd.R_after (ok := (fun k_ => some k_ ≠ (.slice (some ad225) x7_2.length co64 : Value).ownBlock)) (by (with_reducible repeat apply Kd.R_alloc); exact HL225_0.out) hg hat)
                      have n3_ := Aside0.mk (Kd.R_after (ok := (fun k_ => some k_ ≠ (.slice (some ad225) x7_2.length co64 : Value).ownBlock)) (by (with_reducible repeat apply Kd.R_alloc); exact HL229_0.out) hg hat)
                      have n4_ := Aside0.mk (below_weaken (by repeat (first | (with_reducible first | exact HB.out | apply below_alloc | apply pw_below_drewN | apply below_drew1 | refine below_set ?_ (IsS68.ge HI0.out)) | exact HB.out)) HL.out hb)
                      have n5_ := Aside0.mk (KeepBut.trans (by repeat (first | (with_reducible first | exact HK.out | apply KeepBut.set_ | apply keep_drewN | apply keep_drew | apply keep_alloc) | exact HK.out)) (KeepBut.of_grown hg g) (Kd.R_base2 HO228.out))
                      have n6_ := Aside0.mk (ho)
                      clear HO_7
                      clear HI0
                      clear HL225_0
                      clear HL229_0
                      clear HB
                      clear HK
                      clear HO228
                      have HO_7 := n0_
                      have HI0 := n1_
                      have HL225_0 := n2_
                      have HL229_0 := n3_
                      have HB := n4_
                      have HK := n5_
                      have HO232 := n6_
                      clear n0_ n1_ n2_ n3_ n4_ n5_ n6_
                      clear ho hb hg hat
                      refine hK.out _ _ ⟨HS0_, HS1_⟩ (fun hHeld => ?_)
                      clear hK K
                      refine norm_ (a' := ?_) ?_ ?_
                      rotate_left
                      ·show Act.put _ (some 85) _ = _
                       simp only [Act.put, List.setIfInBounds_toArray, List.set_cons_zero, List.set_cons_succ, i64_w, i32_w]
                       rfl
                      refine one_ (i := 13) (N := some 87) #[true, true, true, true, true, true, true, true, true, true, true, true, true, true, false, false, false, false, false] rfl rfl (one_of HT_.out (by kernel_rfl)) (by decide) (fun K hK => ?_)
                      refine goes_ Try.func64 (by kernel_rfl) rfl #[.pointer (some ⟨g, 0, none⟩), .int .i64 3] (by rfl) rfl rfl (by (try simp only [List.map_toArray, List.map_cons, List.map_nil]); first | done | rfl | (simp only [List.length_drop, List.length_take]; rfl)) ?_
                      with_reducible refine (spec_l20Rd_pick.calls k2 g s0_0 t210 3 t233 t234 w0 _ ?side1 ?side2 A55.out).mono ?_
                      (case side1 => repeat (first | (with_reducible first | exact HI0.out | apply IsS68.alloc | apply IsS68.drewN | apply IsS68.drew | apply IsS68.set_1) | exact HI0.out))
                      (case side2 => repeat (first | (with_reducible first | exact HB.out | apply below_alloc | apply pw_below_drewN | apply below_drew1 | refine below_set ?_ (IsS68.ge HI0.out)) | exact HB.out))
                      rintro e w72 ⟨rfl, hi, hb, hk⟩
                      have HS0_ := keep_cell hk (hHeld.1) (by first | (rw [add_block]; exact Kd.own_blk (IsS68.own_ne HI0.out HO_7.out (by decide))) | (show (Addr.add _ _).block ≠ _; rw [add_block]; exact Kd.own_blk (IsS68.own_ne HI0.out HO_7.out (by decide))) | exact Kd.own_blk (IsS68.own_ne HI0.out HO_7.out (by decide)))
                      have HS1_ := keep_cell hk (hHeld.2) (by first | (rw [add_block]; exact Kd.own_blk (IsS68.own_ne HI0.out HO_7.out (by decide))) | (show (Addr.add _ _).block ≠ _; rw [add_block]; exact Kd.own_blk (IsS68.own_ne HI0.out HO_7.out (by decide))) | exact Kd.own_blk (IsS68.own_ne HI0.out HO_7.out (by decide)))
                      refine ⟨_, rfl, ?_⟩
                      have n0_ := Aside0.mk (Kd.R_mono (Kd.R_keep (IsS68.apart (show IsS68 w0 _ g s0_0 t210 from by repeat (first | (with_reducible first | exact HI0.out | apply IsS68.alloc | apply IsS68.drewN | apply IsS68.drew | apply IsS68.set_1) | exact HI0.out)) (by (with_reducible repeat apply Kd.R_alloc); exact HO_7.out) (by decide)) hk (fun _ h => h.2)) (fun _ h => h.1))
                      have n1_ := Aside0.mk (Kd.R_mono (Kd.R_keep (IsS68.apart (show IsS68 w0 _ g s0_0 t210 from by repeat (first | (with_reducible first | exact HI0.out | apply IsS68.alloc | apply IsS68.drewN | apply IsS68.drew | apply IsS68.set_1) | exact HI0.out)) (by (with_reducible repeat apply Kd.R_alloc); exact HL225_0.out) (by decide)) hk (fun _ h => h.2)) (fun _ h => h.1))
                      have n2_ := Aside0.mk (Kd.R_mono (Kd.R_keep (IsS68.apart (show IsS68 w0 _ g s0_0 t210 from by repeat (first | (with_reducible first | exact HI0.out | apply IsS68.alloc | apply IsS68.drewN | apply IsS68.drew | apply IsS68.set_1) | exact HI0.out)) (by (with_reducible repeat apply Kd.R_alloc); exact HL229_0.out) (by decide)) hk (fun _ h => h.2)) (fun _ h => h.1))
                      have n3_ := Aside0.mk (Kd.R_mono (Kd.R_keep (IsS68.apart (show IsS68 w0 _ g s0_0 t210 from by repeat (first | (with_reducible first | exact HI0.out | apply IsS68.alloc | apply IsS68.drewN | apply IsS68.drew | apply IsS68.set_1) | exact HI0.out)) (by (with_reducible repeat apply Kd.R_alloc); exact HO232.out) (by decide)) hk (fun _ h => h.2)) (fun _ h => h.1))
                      have n4_ := Aside0.mk (KeepBut.trans (by repeat (first | (with_reducible first | exact HK.out | apply KeepBut.set_ | apply keep_drewN | apply keep_drew | apply keep_alloc) | exact HK.out)) hk (.inl rfl))
                      have n5_ := Aside0.mk (hb)
                      have n6_ := Aside0.mk (hi)
                      clear HO_7
                      clear HL225_0
                      clear HL229_0
                      clear HO232
                      clear HK
                      clear HB
                      clear HI0
                      have HO_7 := n0_
                      have HL225_0 := n1_
                      have HL229_0 := n2_
                      have HO232 := n3_
                      have HK := n4_
                      have HB := n5_
                      have HI0 := n6_
                      clear n0_ n1_ n2_ n3_ n4_ n5_ n6_
                      (try clear hb)
                      (try clear hb2)
                      (try clear hk)
                      (try clear hi)
                      refine hK.out _ _ ⟨HS0_, HS1_⟩ (fun hHeld => ?_)
                      clear hK K
                      refine norm_ (a' := ?_) ?_ ?_
                      rotate_left
                      ·show Act.put _ (some 87) _ = _
                       simp only [Act.put, List.setIfInBounds_toArray, List.set_cons_zero, List.set_cons_succ, i64_w, i32_w]
                       rfl
                      refine pure_ (i := 14) (N := some 88) (v := ?_) (a' := ?_) #[true, true, true, true, true, true, true, true, true, true, true, true, true, true, true, false, false, false, false] rfl rfl (any_of HT_.out (by kernel_rfl)) (fun _ _ _ h => h) (Or.inl ⟨by rfl, ?_⟩) ?_ ?_
                      rotate_left
                      ·intro w'
                       go_simp
                       with_reducible rfl
                      rotate_left
                      ·simp only [Act.put, List.setIfInBounds_toArray, List.set_cons_zero, List.set_cons_succ, i64_w, i32_w]
                       rfl
                      refine pure_ (i := 15) (N := some 89) (v := ?_) (a' := ?_) #[true, true, true, true, true, true, true, true, true, true, true, true, true, true, true, true, false, false, false] rfl rfl (any_of HT_.out (by kernel_rfl)) (fun _ _ _ h => h) (Or.inl ⟨by rfl, ?_⟩) ?_ ?_
                      rotate_left
                      ·intro w'
                       go_simp
                       with_reducible rfl
                      rotate_left
                      ·simp only [Act.put, List.setIfInBounds_toArray, List.set_cons_zero, List.set_cons_succ, i64_w, i32_w]
                       rfl
                      refine last_ (i := 16) (N := some 90) #[true, true, true, true, true, true, true, true, true, true, true, true, true, true, true, true, true, false, false] rfl rfl (one_of HT_.out (by kernel_rfl)) (by decide) (fun K hK => ?_)
                      refine value_ (w1 := ?_) (v := ?_) (by rfl) rfl ?_ ?_
                      rotate_left 2
                      ·go_simp
                       constructor
                       ·rfl
                       ·rfl
                      refine hK.out _ _ ?_
                      clear hK K
                      refine norm_ (a' := ?_) ?_ ?_
                      rotate_left
                      ·show Act.put _ (some 90) _ = _
                       simp only [Act.put, List.setIfInBounds_toArray, List.set_cons_zero, List.set_cons_succ, i64_w, i32_w]
                       rfl
                      refine one_ (i := 17) (N := some 91) #[true, true, true, true, true, true, true, true, true, true, true, true, true, true, true, true, true, true, false] rfl rfl (one_of HT_.out (by kernel_rfl)) (by decide) (fun K hK => ?_)
                      refine Kd.R_append_step k41 w.heap.size (by rfl) (.tmp 85) (.tmp 90) 23 41 (.agg #[(.int .i64 0), (.int .i64 0)]) 16 rfl Try.underlying23 info41 rfl (by decide) (by omega) v231 y230 (⟨wrap64 (3 + t233), 0⟩ : S41) [.int .i64 (wrap64 (3 + t233)), .int .i64 0] (fun k_ => some k_ ≠ (.slice A225_0 (rd_L3 x7_2 t207).length c225_0 : Value).ownBlock ∧ some k_ ≠ (.slice A229_0 (rd_L3 x7_2 (ji51)).length c229_0 : Value).ownBlock) (fun _ => False) rfl rfl ?aP (fun _ hk => hk.elim) ?aF ?aO (Below.refl _ _) ?aS ?aL ?_
                      (case aP => exact k41_mkM _ _ _ (⟨wrap64 (3 + t233), 0⟩ : S41))
                      (case aF => exact (fun k_ hk => ⟨Kd.fresh' (Kd.R_lt (by (with_reducible repeat apply Kd.R_alloc); exact HL225_0.out)) k_ hk, Kd.fresh' (Kd.R_lt (by (with_reducible repeat apply Kd.R_alloc); exact HL229_0.out)) k_ hk⟩))
                      (case aO => exact (by (with_reducible repeat apply Kd.R_alloc); exact HO232.out))
                      (case aS => exact (keep_size (w := w) (g := g) (row := none) (by repeat (first | (with_reducible first | exact HK.out | apply KeepBut.set_ | apply keep_drewN | apply keep_drew | apply keep_alloc) | exact HK.out))))
                      (case aL => have := LMc56.out; omega)
                      intro v236 w73 ho hb hg hat
                      have HS0_ := cell_grown hg (hHeld.1) (by first | (rw [add_block]; exact ((HO_7.out.1 _ rfl).2)) | (show some (Addr.add _ _).block ≠ _; rw [add_block]; exact ((HO_7.out.1 _ rfl).2)) | exact ((HO_7.out.1 _ rfl).2))
                      have HS1_ := cell_grown hg (hHeld.2) (by first | (rw [add_block]; exact ((HO_7.out.1 _ rfl).2)) | (show some (Addr.add _ _).block ≠ _; rw [add_block]; exact ((HO_7.out.1 _ rfl).2)) | exact ((HO_7.out.1 _ rfl).2))
                      rw [← Ny235.out] at ho
                      have n0_ := Aside0.mk (Kd.R_after (ok := (fun _ => True)) (by (with_reducible repeat apply Kd.R_alloc); exact HO_7.out) hg hat)
                      have n1_ := Aside0.mk (IsS68.grown (by repeat (first | (with_reducible first | exact HI0.out | apply IsS68.alloc | apply IsS68.drewN | apply IsS68.drew | apply IsS68.set_1) | exact HI0.out)) hg (IsS68.own_ne HI0.out HO232.out (by decide)))
                      have n2_ := Aside0.mk (Kd.R_after (ok := (fun k_ => some k_ ≠ (.slice (some ad225) x7_2.length co64 : Value).ownBlock)) (by (with_reducible repeat apply Kd.R_alloc); exact HL225_0.out) hg hat)
                      have n3_ := Aside0.mk (Kd.R_after (ok := (fun k_ => some k_ ≠ (.slice (some ad225) x7_2.length co64 : Value).ownBlock)) (by (with_reducible repeat apply Kd.R_alloc); exact HL229_0.out) hg hat)
                      have n4_ := Aside0.mk (below_weaken (by repeat (first | (with_reducible first | exact HB.out | apply below_alloc | apply pw_below_drewN | apply below_drew1 | refine below_set ?_ (IsS68.ge HI0.out)) | exact HB.out)) HL.out hb)
                      have n5_ := Aside0.mk (KeepBut.trans (by repeat (first | (with_reducible first | exact HK.out | apply KeepBut.set_ | apply keep_drewN | apply keep_drew | apply keep_alloc) | exact HK.out)) (KeepBut.of_grown hg g) (Kd.R_base2 HO232.out))
                      have n6_ := Aside0.mk (ho)
                      clear HO_7
                      clear HI0
                      clear HL225_0
                      clear HL229_0
                      clear HB
                      clear HK
                      clear HO232
                      have HO_7 := n0_
                      have HI0 := n1_
                      have HL225_0 := n2_
                      have HL229_0 := n3_
                      have HB := n4_
                      have HK := n5_
                      have HO237 := n6_
                      clear n0_ n1_ n2_ n3_ n4_ n5_ n6_
                      clear ho hb hg hat
                      refine hK.out _ _ ⟨HS0_, HS1_⟩ (fun hHeld => ?_)
                      clear hK K
                      refine norm_ (a' := ?_) ?_ ?_
                      rotate_left
                      ·show Act.put _ (some 91) _ = _
                       simp only [Act.put, List.setIfInBounds_toArray, List.set_cons_zero, List.set_cons_succ, i64_w, i32_w]
                       rfl
                      refine pure_ (i := 18) (N := some 11) (v := ?_) (a' := ?_) #[true, true, true, true, true, true, true, true, true, true, true, true, true, true, true, true, true, true, true] rfl rfl (any_of HT_.out (by kernel_rfl)) (fun _ _ _ h => h) (Or.inl ⟨by rfl, ?_⟩) ?_ ?_
                      rotate_left
                      ·intro w'
                       go_simp
                       with_reducible rfl
                      rotate_left
                      ·simp only [Act.put, List.setIfInBounds_toArray, List.set_cons_zero, List.set_cons_succ, i64_w, i32_w]
                       rfl
                      refine done_ (done_of HT_.out (by kernel_rfl)) ?_
                      try go_wp2_with (first | ((with_reducible refine gate_dst (N := 92) rfl ?_); refine Kd.R_lit (Kd.slice 41 k41) _ 23 ?hg (N := 92) ?hd (xs := ([] : List (List (S41)))) (inner := []) (ok := fun _ => True) (okp := fun _ => True) ?hr ?hp (fun _ hk => hk) trivial (Below.refl _ _) (Nat.le_refl _) (by simp) ?_; (case hd => rfl); (case hg => rfl); (case hr => first | (go_simp; done) | (go_simp; rfl)); (case hp => exact (Reps.none _ _)); intro v239 w74 ho75 hb hg_ hnew_; clear hg_ hnew_; (first | rw [← Ny238.out] at ho75 | (simp only [Int.reduceToNat] at ho75; rw [← Ny238.out] at ho75)); have n0_ := Aside0.mk (Kd.R_elder' (by (with_reducible repeat apply Kd.R_alloc); exact HO_7.out) (Kd.R_base ho75) hb); have n1_ := Aside0.mk (Kd.R_below (by (with_reducible repeat apply Kd.R_alloc); exact HL225_0.out) hb); have n2_ := Aside0.mk (Kd.R_below (by (with_reducible repeat apply Kd.R_alloc); exact HL229_0.out) hb); have n3_ := Aside0.mk (Kd.R_below (by (with_reducible repeat apply Kd.R_alloc); exact HO237.out) hb); have n4_ := Aside0.mk (Kd.R_lower (Kd.R_new' (Kd.R_new' (Kd.R_new' (Kd.R_new' ho75 (Kd.R_lt (by (with_reducible repeat apply Kd.R_alloc); exact HO_7.out))) (Kd.R_lt (by (with_reducible repeat apply Kd.R_alloc); exact HL225_0.out))) (Kd.R_lt (by (with_reducible repeat apply Kd.R_alloc); exact HL229_0.out))) (Kd.R_lt (by (with_reducible repeat apply Kd.R_alloc); exact HO237.out))) (keep_size (w := w) (g := g) (row := none) (by repeat (first | (with_reducible first | exact HK.out | apply KeepBut.set_ | apply keep_drewN | apply keep_drew | apply keep_alloc) | exact HK.out)))); have n5_ := Aside0.mk (IsS68.below (by repeat (first | (with_reducible first | exact HI0.out | apply IsS68.alloc | apply IsS68.drewN | apply IsS68.drew | apply IsS68.set_1) | exact HI0.out)) hb); have n6_ := Aside0.mk (KeepBut.trans (by repeat (first | (with_reducible first | exact HK.out | apply KeepBut.set_ | apply keep_drewN | apply keep_drew | apply keep_alloc) | exact HK.out)) (KeepBut.of_below hb g none) (.inl rfl)); have n7_ := Aside0.mk (below_step (by repeat (first | (with_reducible first | exact HB.out | apply below_alloc | apply pw_below_drewN | apply below_drew1 | refine below_set ?_ (IsS68.ge HI0.out)) | exact HB.out)) hb); clear HO_7; clear HL225_0; clear HL229_0; clear HO237; clear HI0; clear HK; clear HB; have HO_7 := n0_; have HL225_0 := n1_; have HL229_0 := n2_; have HO237 := n3_; have HO240 := n4_; have HI0 := n5_; have HK := n6_; have HB := n7_; clear n0_ n1_ n2_ n3_ n4_ n5_ n6_ n7_; clear hb ho75; have q76 : (t207 : Int) ≤ ((x7_2.length : Int) : Int) := of_decide_eq_true (by first | (with_reducible assumption) | assumption); obtain ⟨i076, hi076, _, hsz76, _⟩ := info_parts info23; have hroom76 : x7_2.length ≤ co64 := (Kd.R_reads' HO_7.out).2.1; have hC76 : Kd.C (Kd.slice 41 k41) _ (some ad225) x7_2.length x7_2 := (Kd.R_reads' HO_7.out).2.2; have hcut76 := cut_to (P := Try.prog) 72 23 .i64 Try.underlying72 hi076 (some ad225) x7_2.length co64 t207 (of_decide_eq_true (by first | (with_reducible assumption) | assumption)) q76 hroom76; have hr76 := Kd.C_take (m := (t207 : Int).toNat) hC76 (by omega); have hy76 : y241.length = (t207 : Int).toNat := (by rw [Ny241.out, List.length_take]; omega); rw [← Ny241.out] at hr76; rw [← hy76] at hcut76; have HR244 := Aside0.mk hr76; have HC244 := Aside0.mk (show y241.length ≤ co64 from by omega); clear hr76 hC76 hroom76 hi076 hsz76; have KY76 := Aside0.mk hy76; clear hy76; have KL76 := Aside0.mk (show (t207 : Int).toNat ≤ x7_2.length from by omega); replace q76 := eq_true q76) | ((with_reducible refine gate_builtin (b := .append) (xs := #[.tmp 92, .tmp 95]) rfl ?_); at_builtin; refine Kd.R_append_rows (Kd.slice 41 k41) w.heap.size rfl (.tmp 92) (.tmp 95) 72 23 (.slice none 0 0) 24 rfl Try.underlying72 info23 rfl (by decide) (by omega) v239 y238 y241 _ _ _ (fun k_ => some k_ ≠ (.slice (some ad225) x7_2.length co64 : Value).ownBlock ∧ some k_ ≠ (v236 : Value).ownBlock) (fun k_ => ((fun k_ => some k_ ≠ (.slice (some ad225) x7_2.length co64 : Value).ownBlock ∧ some k_ ≠ (v236 : Value).ownBlock)) k_ ∧ some k_ ≠ (v239 : Value).ownBlock) rfl rfl ?aO ?aR (fun _ _ h => h) (fun _ hk => hk) ?aF (Below.refl _ _) ?aS ?aL ?_; (case aR => rw [Ny241.out]; exact Kd.C_take (m := (t207 : Int).toNat) (Kd.R_frozen (okp := (fun k_ => ((fun k_ => some k_ ≠ (.slice (some ad225) x7_2.length co64 : Value).ownBlock ∧ some k_ ≠ (v236 : Value).ownBlock)) k_ ∧ some k_ ≠ (v239 : Value).ownBlock)) (HO_7.out) (fun k_ hk => ⟨⟨hk.2, hk.1.1.2⟩, hk.1.2⟩)).2.2 KL76.out); (case aF => exact (fun k_ hk => ⟨Kd.fresh' (Kd.R_lt (by (with_reducible repeat apply Kd.R_alloc); exact HO_7.out)) k_ hk, Kd.fresh' (Kd.R_lt (by (with_reducible repeat apply Kd.R_alloc); exact HO237.out)) k_ hk⟩)); (case aO => exact (by (with_reducible repeat apply Kd.R_alloc); exact Kd.R_mono HO240.out (fun _ hk => ⟨hk.1.1.1.2, hk.2⟩))); (case aS => exact (keep_size (w := w) (g := g) (row := none) (by repeat (first | (with_reducible first | exact HK.out | apply KeepBut.set_ | apply keep_drewN | apply keep_drew | apply keep_alloc) | exact HK.out)))); (case aL => have := LMc59.out; omega); intro v246 w77 ho hb hg hat; rw [← Ny245.out] at ho; have n0_ := Aside0.mk (Kd.R_after (ok := (fun k_ => some k_ ≠ (v236 : Value).ownBlock)) (by (with_reducible repeat apply Kd.R_alloc); exact Kd.R_mono HO_7.out (fun _ hk => ⟨hk.1.2, hk.2⟩)) hg hat); have n1_ := Aside0.mk (IsS68.grown (by repeat (first | (with_reducible first | exact HI0.out | apply IsS68.alloc | apply IsS68.drewN | apply IsS68.drew | apply IsS68.set_1) | exact HI0.out)) hg (IsS68.own_ne HI0.out HO240.out (by decide))); have n2_ := Aside0.mk (Kd.R_over' (by (with_reducible repeat apply Kd.R_alloc); exact HO237.out) (Kd.R_typed (by (with_reducible repeat apply Kd.R_alloc); exact HO240.out)) (by decide) hg); have n3_ := Aside0.mk (below_weaken (by repeat (first | (with_reducible first | exact HB.out | apply below_alloc | apply pw_below_drewN | apply below_drew1 | refine below_set ?_ (IsS68.ge HI0.out)) | exact HB.out)) HL.out hb); have n4_ := Aside0.mk (KeepBut.trans (by repeat (first | (with_reducible first | exact HK.out | apply KeepBut.set_ | apply keep_drewN | apply keep_drew | apply keep_alloc) | exact HK.out)) (KeepBut.of_grown hg g) (Kd.R_base2 HO240.out)); have n5_ := Aside0.mk ((show Kd.C (Kd.slice 41 k41) w77 (some ad225) y241.length y241 from by rw [Ny241.out]; exact Kd.C_take (m := (t207 : Int).toNat) ((Kd.R_reads' (Kd.R_after (ok := (fun k_ => some k_ ≠ (v236 : Value).ownBlock)) (by (with_reducible repeat apply Kd.R_alloc); exact Kd.R_mono HO_7.out (fun _ hk => ⟨hk.1.2, hk.2⟩)) hg hat)).2.2) KL76.out)); have n6_ := Aside0.mk (ho); clear HO_7; clear HI0; clear HO237; clear HB; clear HK; clear HR244; clear HO240; have HO_7 := n0_; have HI0 := n1_; have HO237 := n2_; have HB := n3_; have HK := n4_; have HR244 := n5_; have HO247 := n6_; clear n0_ n1_ n2_ n3_ n4_ n5_ n6_; clear ho hb hg hat; obtain ⟨Ao79, co79, eo79⟩ := Kd.R_slice HO237.out; subst eo79) | ((with_reducible refine gate_builtin (b := .append) (xs := #[.tmp 97, .tmp 99]) rfl ?_); at_builtin; refine Kd.R_append (Kd.slice 41 k41) w.heap.size rfl (.tmp 97) (.tmp 99) 72 23 (.slice none 0 0) 24 rfl Try.underlying72 info23 rfl (by decide) (by omega) v246 y245 y235 [.slice Ao79 y235.length co79] (fun k_ => some k_ ≠ (.slice (some ad225) x7_2.length co64 : Value).ownBlock) (fun k_ => ((fun k_ => some k_ ≠ (.slice (some ad225) x7_2.length co64 : Value).ownBlock)) k_ ∧ some k_ ≠ (v246 : Value).ownBlock) rfl rfl ?aP (fun _ hk => hk) ?aF ?aO (Below.refl _ _) ?aS ?aL ?_; (case aP => exact Kd.M_row (Kd.R_mono (Kd.R_apart' (Kd.R_apart' (HO237.out) (Kd.R_typed HO_7.out) (by decide)) (Kd.R_typed HO247.out) (by decide)) (fun k_ hk => ⟨hk.1.2, hk.2⟩))); (case aF => exact (fun k_ hk => Kd.fresh' (Kd.R_lt (by (with_reducible repeat apply Kd.R_alloc); exact HO_7.out)) k_ hk)); (case aO => exact (by (with_reducible repeat apply Kd.R_alloc); exact Kd.R_mono HO247.out (fun _ hk => hk.1))); (case aS => exact (keep_size (w := w) (g := g) (row := none) (by repeat (first | (with_reducible first | exact HK.out | apply KeepBut.set_ | apply keep_drewN | apply keep_drew | apply keep_alloc) | exact HK.out)))); (case aL => have := LMc60.out; omega); intro v249 w78 ho hb hg hat; rw [← Ny248.out] at ho; have n0_ := Aside0.mk (Kd.R_after (ok := (fun k_ => some k_ ≠ (.slice Ao79 y235.length co79 : Value).ownBlock)) (by (with_reducible repeat apply Kd.R_alloc); exact HO_7.out) hg hat); have n1_ := Aside0.mk (IsS68.grown (by repeat (first | (with_reducible first | exact HI0.out | apply IsS68.alloc | apply IsS68.drewN | apply IsS68.drew | apply IsS68.set_1) | exact HI0.out)) hg (IsS68.own_ne HI0.out HO247.out (by decide))); have n2_ := Aside0.mk (below_weaken (by repeat (first | (with_reducible first | exact HB.out | apply below_alloc | apply pw_below_drewN | apply below_drew1 | refine below_set ?_ (IsS68.ge HI0.out)) | exact HB.out)) HL.out hb); have n3_ := Aside0.mk (KeepBut.trans (by repeat (first | (with_reducible first | exact HK.out | apply KeepBut.set_ | apply keep_drewN | apply keep_drew | apply keep_alloc) | exact HK.out)) (KeepBut.of_grown hg g) (Kd.R_base2 HO247.out)); have n4_ := Aside0.mk ((show Kd.C (Kd.slice 41 k41) w78 (some ad225) y241.length y241 from by rw [Ny241.out]; exact Kd.C_take (m := (t207 : Int).toNat) ((Kd.R_reads' (Kd.R_after (ok := (fun k_ => some k_ ≠ (.slice Ao79 y235.length co79 : Value).ownBlock)) (by (with_reducible repeat apply Kd.R_alloc); exact HO_7.out) hg hat)).2.2) KL76.out)); have n5_ := Aside0.mk (ho); clear HO_7; clear HI0; clear HB; clear HK; clear HR244; clear HO247; clear HO237; have HO_7 := n0_; have HI0 := n1_; have HB := n2_; have HK := n3_; have HR244 := n4_; have HO250 := n5_; clear n0_ n1_ n2_ n3_ n4_ n5_; clear ho hb hg hat; have q80 : ((wrap64 (t207 + 2)) : Int) ≤ ((x7_2.length : Int) : Int) := of_decide_eq_true (by first | (with_reducible assumption) | assumption); obtain ⟨i080, hi080, _, hsz80, _⟩ := info_parts info23; have hroom80 : x7_2.length ≤ co64 := (Kd.R_reads' HO_7.out).2.1; have hC80 : Kd.C (Kd.slice 41 k41) _ (some ad225) x7_2.length x7_2 := (Kd.R_reads' HO_7.out).2.2; have q080 : (0 : Int) ≤ ((wrap64 (t207 + 2)) : Int) := of_decide_eq_true (by first | (with_reducible assumption) | assumption); have hcut80 := cut_from (P := Try.prog) 72 23 .i64 Try.underlying72 hi080 1 hsz80 (some ad225) x7_2.length co64 (wrap64 (t207 + 2)) q080 q80; have hr80 := Kd.C_drop (m := ((wrap64 (t207 + 2)) : Int).toNat) (c := co64) hC80 (by omega) hroom80; obtain ⟨A80, hA80⟩ : ∃ A1, A1 = (if co64 = ((wrap64 (t207 + 2)) : Int).toNat then (some ad225) else ((some ad225) : Option Addr).map (·.add (((wrap64 (t207 + 2)) : Int).toNat * 1))) := ⟨_, rfl⟩; obtain ⟨c80, hc80⟩ : ∃ c1, c1 = co64 - ((wrap64 (t207 + 2)) : Int).toNat := ⟨_, rfl⟩; have hy80 : y251.length = x7_2.length - ((wrap64 (t207 + 2)) : Int).toNat := (by rw [Ny251.out, List.length_drop] <;> omega); rw [show (x7_2).drop ((wrap64 (t207 + 2)) : Int).toNat = y251 from Ny251.out.symm] at hr80; replace hr80 : Kd.C (Kd.slice 41 k41) _ A80 y251.length y251 := (by rw [hA80]; exact hr80); rw [← hy80, ← hA80, ← hc80] at hcut80; have HR254 := Aside0.mk hr80; have HC254 := Aside0.mk (show y251.length ≤ c80 from by rw [hy80, hc80]; exact Nat.sub_le_sub_right hroom80 _); clear hr80 hC80 hroom80 hi080 hsz80 hc80; have KY80 := Aside0.mk hy80; have KA80 := Aside0.mk hA80; clear hy80 hA80; have KL80 := Aside0.mk (show ((wrap64 (t207 + 2)) : Int).toNat ≤ x7_2.length from by omega); replace q80 := eq_true q80) | ((with_reducible refine gate_builtin (b := .append) (xs := #[.tmp 101, .tmp 105]) rfl ?_); at_builtin; refine Kd.R_append_rows (Kd.slice 41 k41) w.heap.size rfl (.tmp 101) (.tmp 105) 72 23 (.slice none 0 0) 24 rfl Try.underlying72 info23 rfl (by decide) (by omega) v249 y248 y251 _ _ _ (fun k_ => some k_ ≠ (.slice (some ad225) x7_2.length co64 : Value).ownBlock) (fun k_ => ((fun k_ => some k_ ≠ (.slice (some ad225) x7_2.length co64 : Value).ownBlock)) k_ ∧ some k_ ≠ (v249 : Value).ownBlock) rfl rfl ?aO ?aR (fun _ _ h => h) (fun _ hk => hk) ?aF (Below.refl _ _) ?aS ?aL ?_; (case aR => rw [Ny251.out, KA80.out]; exact Kd.C_drop (m := ((wrap64 (t207 + 2)) : Int).toNat) (c := co64) (Kd.R_frozen (okp := (fun k_ => ((fun k_ => some k_ ≠ (.slice (some ad225) x7_2.length co64 : Value).ownBlock)) k_ ∧ some k_ ≠ (v249 : Value).ownBlock)) (HO_7.out) (fun k_ hk => ⟨hk.2, hk.1.2⟩)).2.2 KL80.out (Kd.R_frozen (okp := (fun k_ => ((fun k_ => some k_ ≠ (.slice (some ad225) x7_2.length co64 : Value).ownBlock)) k_ ∧ some k_ ≠ (v249 : Value).ownBlock)) (HO_7.out) (fun k_ hk => ⟨hk.2, hk.1.2⟩)).2.1); (case aF => exact (fun k_ hk => Kd.fresh' (Kd.R_lt (by (with_reducible repeat apply Kd.R_alloc); exact HO_7.out)) k_ hk)); (case aO => exact (by (with_reducible repeat apply Kd.R_alloc); exact HO250.out)); (case aS => exact (keep_size (w := w) (g := g) (row := none) (by repeat (first | (with_reducible first | exact HK.out | apply KeepBut.set_ | apply keep_drewN | apply keep_drew | apply keep_alloc) | exact HK.out)))); (case aL => have := LMc63.out; omega); intro v256 w81 ho hb hg hat; rw [← Ny255.out] at ho; have n0_ := Aside0.mk (Kd.R_after (ok := (fun _ => True)) (by (with_reducible repeat apply Kd.R_alloc); exact Kd.R_mono HO_7.out (fun _ hk => ⟨trivial, hk.2⟩)) hg hat); have n1_ := Aside0.mk (IsS68.grown (by repeat (first | (with_reducible first | exact HI0.out | apply IsS68.alloc | apply IsS68.drewN | apply IsS68.drew | apply IsS68.set_1) | exact HI0.out)) hg (IsS68.own_ne HI0.out HO250.out (by decide))); have n2_ := Aside0.mk (below_weaken (by repeat (first | (with_reducible first | exact HB.out | apply below_alloc | apply pw_below_drewN | apply below_drew1 | refine below_set ?_ (IsS68.ge HI0.out)) | exact HB.out)) HL.out hb); have n3_ := Aside0.mk (KeepBut.trans (by repeat (first | (with_reducible first | exact HK.out | apply KeepBut.set_ | apply keep_drewN | apply keep_drew | apply keep_alloc) | exact HK.out)) (KeepBut.of_grown hg g) (Kd.R_base2 HO250.out)); have n4_ := Aside0.mk ((show Kd.C (Kd.slice 41 k41) w81 (some ad225) y241.length y241 from by rw [Ny241.out]; exact Kd.C_take (m := (t207 : Int).toNat) ((Kd.R_reads' (Kd.R_after (ok := (fun _ => True)) (by (with_reducible repeat apply Kd.R_alloc); exact Kd.R_mono HO_7.out (fun _ hk => ⟨trivial, hk.2⟩)) hg hat)).2.2) KL76.out)); have n5_ := Aside0.mk ((show Kd.C (Kd.slice 41 k41) w81 A80 y251.length y251 from by rw [Ny251.out, KA80.out]; exact Kd.C_drop (m := ((wrap64 (t207 + 2)) : Int).toNat) (c := co64) ((Kd.R_reads' (Kd.R_after (ok := (fun _ => True)) (by (with_reducible repeat apply Kd.R_alloc); exact Kd.R_mono HO_7.out (fun _ hk => ⟨trivial, hk.2⟩)) hg hat)).2.2) KL80.out ((Kd.R_reads' (Kd.R_after (ok := (fun _ => True)) (by (with_reducible repeat apply Kd.R_alloc); exact Kd.R_mono HO_7.out (fun _ hk => ⟨trivial, hk.2⟩)) hg hat)).2.1))); have n6_ := Aside0.mk (ho); clear HO_7; clear HI0; clear HB; clear HK; clear HR244; clear HR254; clear HO250; have HO_7 := n0_; have HI0 := n1_; have HB := n2_; have HK := n3_; have HR244 := n4_; have HR254 := n5_; have HO257 := n6_; clear n0_ n1_ n2_ n3_ n4_ n5_ n6_; clear ho hb hg hat))
                      go_roundg k2
                      case measure => have := HK1.out; have := HK2.out; omega
                      case rel => exact ⟨(y255), (x9_2), (t234), (by first | rfl | (simp; done) | (simp [*]; done)), H', ⟨by have := HK1.out; have := HK2.out; omega⟩, ⟨by (with_reducible repeat apply Kd.R_alloc); exact Kd.R_mono HO257.out (fun _ hk => trivial)⟩, ⟨by repeat (first | (with_reducible first | exact HI0.out | apply IsS68.alloc | apply IsS68.drewN | apply IsS68.drew | apply IsS68.set_1) | exact HI0.out)⟩, ⟨by repeat (first | (with_reducible first | exact HK.out | apply KeepBut.set_ | apply keep_drewN | apply keep_drew | apply keep_alloc) | exact HK.out)⟩, ⟨by repeat (first | (with_reducible first | exact HB.out | apply below_alloc | apply pw_below_drewN | apply below_drew1 | refine below_set ?_ (IsS68.ge HI0.out)) | exact HB.out)⟩⟩
                     ·rw [if_neg c63] at H
                      exact absurd H (by simp)
                    ·rw [if_neg c62] at H
                     exact absurd H (by simp)
                   ·rw [if_neg c61] at H
                    exact absurd H (by simp)
                  ·rw [if_neg c60] at H
                   exact absurd H (by simp)
                 ·rw [if_neg c59] at H
                  exact absurd H (by simp)
                ·rw [if_neg c58] at H
                 exact absurd H (by simp)
               ·rw [if_neg c56] at H
                exact absurd H (by simp)
              ·rw [if_neg c54] at H
               exact absurd H (by simp)
             ·rw [if_neg c53] at H
              exact absurd H (by simp)
            ·rw [if_neg c52] at H
             exact absurd H (by simp)
           ·rw [if_neg c50] at H
            exact absurd H (by simp)
          ·rw [if_neg c49] at H
           exact absurd H (by simp)
         ·rw [if_neg c48] at H
          exact absurd H (by simp)
       ·rw [if_neg c31] at H
        have c31b0 : decide (0 < x9_2) = false := decide_eq_false c31
        clear c31
        obtain ⟨y258, hy258⟩ : ∃ y_ : List (S41), y_ = (([] : List (S41))) := ⟨_, rfl⟩
        replace H : (if 0 ≤ t207 then (if t207 < (x7_2.length : Int) then (if y258.length + (rd_L3 x7_2 t207).length < 8796093022208 then ((some (y258 ++ (rd_L3 x7_2 t207) : List (S41))).bind fun y262 => (if 0 ≤ (wrap64 (t207 + 1)) then (if (wrap64 (t207 + 1)) < (x7_2.length : Int) then (if y262.length + (rd_L3 x7_2 (wrap64 (t207 + 1))).length < 8796093022208 then ((some (y262 ++ (rd_L3 x7_2 (wrap64 (t207 + 1))) : List (S41))).bind fun y266 => ((spec_l20Rd_pick.f k2 s0_0 t208 3).bind fun bt269 => (if y266.length < 8796093022208 then ((some (([] : List (List (S41))) : List (List (S41)))).bind fun y274 => (if t207 ≤ (x7_2.length : Int) then ((some (x7_2.take (t207 : Int).toNat : List (List (S41)))).bind fun y277 => (if y274.length + y277.length < 5864062014805 then ((some (y274 ++ y277 : List (List (S41)))).bind fun y281 => (if y281.length < 5864062014805 then ((some (y281 ++ [(y266 ++ [(⟨wrap64 (3 + bt269.1), 0⟩ : S41)])] : List (List (S41)))).bind fun y284 => (if 0 ≤ (wrap64 (t207 + 2)) then (if (wrap64 (t207 + 2)) ≤ (x7_2.length : Int) then ((some (x7_2.drop ((wrap64 (t207 + 2)) : Int).toNat : List (List (S41)))).bind fun y287 => (if y284.length + y287.length < 5864062014805 then (spec_l20Term.l1 k2 a2 (y284 ++ y287) x9_2 s0_0 bt269.2) else (none))) else (none)) else (none))) else (none))) else (none))) else (none))) else (none)))) else (none)) else (none)) else (none))) else (none)) else (none)) else (none)) = some (r1, r2) := by first | (rw [hy258]; with_reducible exact H) | (have H2_ := (Option.bind_some _ _).symm.trans H; rw [hy258]; with_reducible exact H2_) | (have H2_ := (Option.bind_some _ _).symm.trans H; with_reducible exact H2_) | with_reducible exact H | (rw [hy258]; exact H) | exact H
        have Ny258 := Aside0.mk hy258
        clear hy258
        by_cases c82 : 0 ≤ t207
        ·rw [if_pos c82] at H
         have c82b0 : decide (0 ≤ t207) = true := decide_eq_true c82
         clear c82
         by_cases c83 : t207 < (x7_2.length : Int)
         ·rw [if_pos c83] at H
          have c83b0 : decide (t207 < (x7_2.length : Int)) = true := decide_eq_true c83
          clear c83
          by_cases c84 : y258.length + (rd_L3 x7_2 t207).length < 8796093022208
          ·rw [if_pos c84] at H
           have LMc84 := Aside0.mk c84
           clear c84
           obtain ⟨y262, hy262⟩ : ∃ y_ : List (S41), y_ = (y258 ++ (rd_L3 x7_2 t207)) := ⟨_, rfl⟩
           replace H : (if 0 ≤ (wrap64 (t207 + 1)) then (if (wrap64 (t207 + 1)) < (x7_2.length : Int) then (if y262.length + (rd_L3 x7_2 (wrap64 (t207 + 1))).length < 8796093022208 then ((some (y262 ++ (rd_L3 x7_2 (wrap64 (t207 + 1))) : List (S41))).bind fun y266 => ((spec_l20Rd_pick.f k2 s0_0 t208 3).bind fun bt269 => (if y266.length < 8796093022208 then ((some (([] : List (List (S41))) : List (List (S41)))).bind fun y274 => (if t207 ≤ (x7_2.length : Int) then ((some (x7_2.take (t207 : Int).toNat : List (List (S41)))).bind fun y277 => (if y274.length + y277.length < 5864062014805 then ((some (y274 ++ y277 : List (List (S41)))).bind fun y281 => (if y281.length < 5864062014805 then ((some (y281 ++ [(y266 ++ [(⟨wrap64 (3 + bt269.1), 0⟩ : S41)])] : List (List (S41)))).bind fun y284 => (if 0 ≤ (wrap64 (t207 + 2)) then (if (wrap64 (t207 + 2)) ≤ (x7_2.length : Int) then ((some (x7_2.drop ((wrap64 (t207 + 2)) : Int).toNat : List (List (S41)))).bind fun y287 => (if y284.length + y287.length < 5864062014805 then (spec_l20Term.l1 k2 a2 (y284 ++ y287) x9_2 s0_0 bt269.2) else (none))) else (none)) else (none))) else (none))) else (none))) else (none))) else (none)))) else (none)) else (none)) else (none)) = some (r1, r2) := by first | (rw [hy262]; with_reducible exact H) | (have H2_ := (Option.bind_some _ _).symm.trans H; rw [hy262]; with_reducible exact H2_) | (have H2_ := (Option.bind_some _ _).symm.trans H; with_reducible exact H2_) | with_reducible exact H | (rw [hy262]; exact H) | exact H
           have Ny262 := Aside0.mk hy262
           clear hy262
           obtain ⟨ji85, hji85⟩ : ∃ j_ : Int, (wrap64 (t207 + 1)) = j_ := ⟨_, rfl⟩
           replace H : (if 0 ≤ (ji85) then (if (ji85) < (x7_2.length : Int) then (if y262.length + (rd_L3 x7_2 (ji85)).length < 8796093022208 then ((some (y262 ++ (rd_L3 x7_2 (ji85)) : List (S41))).bind fun y266 => ((spec_l20Rd_pick.f k2 s0_0 t208 3).bind fun bt269 => (if y266.length < 8796093022208 then ((some (([] : List (List (S41))) : List (List (S41)))).bind fun y274 => (if t207 ≤ (x7_2.length : Int) then ((some (x7_2.take (t207 : Int).toNat : List (List (S41)))).bind fun y277 => (if y274.length + y277.length < 5864062014805 then ((some (y274 ++ y277 : List (List (S41)))).bind fun y281 => (if y281.length < 5864062014805 then ((some (y281 ++ [(y266 ++ [(⟨wrap64 (3 + bt269.1), 0⟩ : S41)])] : List (List (S41)))).bind fun y284 => (if 0 ≤ (wrap64 (t207 + 2)) then (if (wrap64 (t207 + 2)) ≤ (x7_2.length : Int) then ((some (x7_2.drop ((wrap64 (t207 + 2)) : Int).toNat : List (List (S41)))).bind fun y287 => (if y284.length + y287.length < 5864062014805 then (spec_l20Term.l1 k2 a2 (y284 ++ y287) x9_2 s0_0 bt269.2) else (none))) else (none)) else (none))) else (none))) else (none))) else (none))) else (none)))) else (none)) else (none)) else (none)) = some (r1, r2) := by first | (rw [hji85] at H; exact H) | (simp only [hji85] at H ⊢; exact H)
           (try rw [hji85] at A30)
           have hji85w : (IntKind.i64.wrap (t207 + 1)) = ji85 := (i64_w _).trans hji85
           by_cases c86 : 0 ≤ (ji85)
           ·rw [if_pos c86] at H
            have c86b0 : decide (0 ≤ (ji85)) = true := decide_eq_true c86
            clear c86
            by_cases c87 : (ji85) < (x7_2.length : Int)
            ·rw [if_pos c87] at H
             have c87b0 : decide ((ji85) < (x7_2.length : Int)) = true := decide_eq_true c87
             clear c87
             by_cases c88 : y262.length + (rd_L3 x7_2 (ji85)).length < 8796093022208
             ·rw [if_pos c88] at H
              have LMc88 := Aside0.mk c88
              clear c88
              obtain ⟨y266, hy266⟩ : ∃ y_ : List (S41), y_ = (y262 ++ (rd_L3 x7_2 (ji85))) := ⟨_, rfl⟩
              replace H : ((spec_l20Rd_pick.f k2 s0_0 t208 3).bind fun bt269 => (if y266.length < 8796093022208 then ((some (([] : List (List (S41))) : List (List (S41)))).bind fun y274 => (if t207 ≤ (x7_2.length : Int) then ((some (x7_2.take (t207 : Int).toNat : List (List (S41)))).bind fun y277 => (if y274.length + y277.length < 5864062014805 then ((some (y274 ++ y277 : List (List (S41)))).bind fun y281 => (if y281.length < 5864062014805 then ((some (y281 ++ [(y266 ++ [(⟨wrap64 (3 + bt269.1), 0⟩ : S41)])] : List (List (S41)))).bind fun y284 => (if 0 ≤ (wrap64 (t207 + 2)) then (if (wrap64 (t207 + 2)) ≤ (x7_2.length : Int) then ((some (x7_2.drop ((wrap64 (t207 + 2)) : Int).toNat : List (List (S41)))).bind fun y287 => (if y284.length + y287.length < 5864062014805 then (spec_l20Term.l1 k2 a2 (y284 ++ y287) x9_2 s0_0 bt269.2) else (none))) else (none)) else (none))) else (none))) else (none))) else (none))) else (none))) = some (r1, r2) := by first | (rw [hy266]; with_reducible exact H) | (have H2_ := (Option.bind_some _ _).symm.trans H; rw [hy266]; with_reducible exact H2_) | (have H2_ := (Option.bind_some _ _).symm.trans H; with_reducible exact H2_) | with_reducible exact H | (rw [hy266]; exact H) | exact H
              have Ny266 := Aside0.mk hy266
              clear hy266
              replace H := Option.bind_eq_some_iff.mp H
              obtain ⟨⟨t269, t270⟩, A890, H⟩ := H
              replace H : (if y266.length < 8796093022208 then ((some (([] : List (List (S41))) : List (List (S41)))).bind fun y274 => (if t207 ≤ (x7_2.length : Int) then ((some (x7_2.take (t207 : Int).toNat : List (List (S41)))).bind fun y277 => (if y274.length + y277.length < 5864062014805 then ((some (y274 ++ y277 : List (List (S41)))).bind fun y281 => (if y281.length < 5864062014805 then ((some (y281 ++ [(y266 ++ [(⟨wrap64 (3 + t269), 0⟩ : S41)])] : List (List (S41)))).bind fun y284 => (if 0 ≤ (wrap64 (t207 + 2)) then (if (wrap64 (t207 + 2)) ≤ (x7_2.length : Int) then ((some (x7_2.drop ((wrap64 (t207 + 2)) : Int).toNat : List (List (S41)))).bind fun y287 => (if y284.length + y287.length < 5864062014805 then (spec_l20Term.l1 k2 a2 (y284 ++ y287) x9_2 s0_0 t270) else (none))) else (none)) else (none))) else (none))) else (none))) else (none))) else (none)) = some (r1, r2) := H
              have A89 := Aside0.mk A890
              clear A890
              by_cases c90 : y266.length < 8796093022208
              ·rw [if_pos c90] at H
               have LMc90 := Aside0.mk c90
               clear c90
               obtain ⟨y271, hy271⟩ : ∃ y_ : List (S41), y_ = (y266 ++ [(⟨wrap64 (3 + t269), 0⟩ : S41)]) := ⟨_, rfl⟩
               replace H : ((some (([] : List (List (S41))) : List (List (S41)))).bind fun y274 => (if t207 ≤ (x7_2.length : Int) then ((some (x7_2.take (t207 : Int).toNat : List (List (S41)))).bind fun y277 => (if y274.length + y277.length < 5864062014805 then ((some (y274 ++ y277 : List (List (S41)))).bind fun y281 => (if y281.length < 5864062014805 then ((some (y281 ++ [y271] : List (List (S41)))).bind fun y284 => (if 0 ≤ (wrap64 (t207 + 2)) then (if (wrap64 (t207 + 2)) ≤ (x7_2.length : Int) then ((some (x7_2.drop ((wrap64 (t207 + 2)) : Int).toNat : List (List (S41)))).bind fun y287 => (if y284.length + y287.length < 5864062014805 then (spec_l20Term.l1 k2 a2 (y284 ++ y287) x9_2 s0_0 t270) else (none))) else (none)) else (none))) else (none))) else (none))) else (none))) = some (r1, r2) := by first | (rw [hy271]; with_reducible exact H) | (have H2_ := (Option.bind_some _ _).symm.trans H; rw [hy271]; with_reducible exact H2_) | (have H2_ := (Option.bind_some _ _).symm.trans H; with_reducible exact H2_) | with_reducible exact H | (rw [hy271]; exact H) | exact H
               have Ny271 := Aside0.mk hy271
               clear hy271
               obtain ⟨y274, hy274⟩ : ∃ y_ : List (List (S41)), y_ = (([] : List (List (S41)))) := ⟨_, rfl⟩
               replace H : (if t207 ≤ (x7_2.length : Int) then ((some (x7_2.take (t207 : Int).toNat : List (List (S41)))).bind fun y277 => (if y274.length + y277.length < 5864062014805 then ((some (y274 ++ y277 : List (List (S41)))).bind fun y281 => (if y281.length < 5864062014805 then ((some (y281 ++ [y271] : List (List (S41)))).bind fun y284 => (if 0 ≤ (wrap64 (t207 + 2)) then (if (wrap64 (t207 + 2)) ≤ (x7_2.length : Int) then ((some (x7_2.drop ((wrap64 (t207 + 2)) : Int).toNat : List (List (S41)))).bind fun y287 => (if y284.length + y287.length < 5864062014805 then (spec_l20Term.l1 k2 a2 (y284 ++ y287) x9_2 s0_0 t270) else (none))) else (none)) else (none))) else (none))) else (none))) else (none)) = some (r1, r2) := by first | (rw [hy274]; with_reducible exact H) | (have H2_ := (Option.bind_some _ _).symm.trans H; rw [hy274]; with_reducible exact H2_) | (have H2_ := (Option.bind_some _ _).symm.trans H; with_reducible exact H2_) | with_reducible exact H | (rw [hy274]; exact H) | exact H
               have Ny274 := Aside0.mk hy274
               clear hy274
               have c91b0 := eq_true (of_decide_eq_true (by first | (with_reducible assumption) | assumption) : 0 ≤ t207)
               by_cases c92 : t207 ≤ (x7_2.length : Int)
               ·rw [if_pos c92] at H
                have c92b0 := eq_true c92
                have c92b1 : decide (t207 ≤ (x7_2.length : Int)) = true := decide_eq_true c92
                clear c92
                obtain ⟨y277, hy277⟩ : ∃ y_ : List (List (S41)), y_ = (x7_2.take (t207 : Int).toNat) := ⟨_, rfl⟩
                replace H : (if y274.length + y277.length < 5864062014805 then ((some (y274 ++ y277 : List (List (S41)))).bind fun y281 => (if y281.length < 5864062014805 then ((some (y281 ++ [y271] : List (List (S41)))).bind fun y284 => (if 0 ≤ (wrap64 (t207 + 2)) then (if (wrap64 (t207 + 2)) ≤ (x7_2.length : Int) then ((some (x7_2.drop ((wrap64 (t207 + 2)) : Int).toNat : List (List (S41)))).bind fun y287 => (if y284.length + y287.length < 5864062014805 then (spec_l20Term.l1 k2 a2 (y284 ++ y287) x9_2 s0_0 t270) else (none))) else (none)) else (none))) else (none))) else (none)) = some (r1, r2) := by first | (rw [hy277]; with_reducible exact H) | (have H2_ := (Option.bind_some _ _).symm.trans H; rw [hy277]; with_reducible exact H2_) | (have H2_ := (Option.bind_some _ _).symm.trans H; with_reducible exact H2_) | with_reducible exact H | (rw [hy277]; exact H) | exact H
                have Ny277 := Aside0.mk hy277
                clear hy277
                by_cases c93 : y274.length + y277.length < 5864062014805
                ·rw [if_pos c93] at H
                 have LMc93 := Aside0.mk c93
                 clear c93
                 obtain ⟨y281, hy281⟩ : ∃ y_ : List (List (S41)), y_ = (y274 ++ y277) := ⟨_, rfl⟩
                 replace H : (if y281.length < 5864062014805 then ((some (y281 ++ [y271] : List (List (S41)))).bind fun y284 => (if 0 ≤ (wrap64 (t207 + 2)) then (if (wrap64 (t207 + 2)) ≤ (x7_2.length : Int) then ((some (x7_2.drop ((wrap64 (t207 + 2)) : Int).toNat : List (List (S41)))).bind fun y287 => (if y284.length + y287.length < 5864062014805 then (spec_l20Term.l1 k2 a2 (y284 ++ y287) x9_2 s0_0 t270) else (none))) else (none)) else (none))) else (none)) = some (r1, r2) := by first | (rw [hy281]; with_reducible exact H) | (have H2_ := (Option.bind_some _ _).symm.trans H; rw [hy281]; with_reducible exact H2_) | (have H2_ := (Option.bind_some _ _).symm.trans H; with_reducible exact H2_) | with_reducible exact H | (rw [hy281]; exact H) | exact H
                 have Ny281 := Aside0.mk hy281
                 clear hy281
                 by_cases c94 : y281.length < 5864062014805
                 ·rw [if_pos c94] at H
                  have LMc94 := Aside0.mk c94
                  clear c94
                  obtain ⟨y284, hy284⟩ : ∃ y_ : List (List (S41)), y_ = (y281 ++ [y271]) := ⟨_, rfl⟩
                  replace H : (if 0 ≤ (wrap64 (t207 + 2)) then (if (wrap64 (t207 + 2)) ≤ (x7_2.length : Int) then ((some (x7_2.drop ((wrap64 (t207 + 2)) : Int).toNat : List (List (S41)))).bind fun y287 => (if y284.length + y287.length < 5864062014805 then (spec_l20Term.l1 k2 a2 (y284 ++ y287) x9_2 s0_0 t270) else (none))) else (none)) else (none)) = some (r1, r2) := by first | (rw [hy284]; with_reducible exact H) | (have H2_ := (Option.bind_some _ _).symm.trans H; rw [hy284]; with_reducible exact H2_) | (have H2_ := (Option.bind_some _ _).symm.trans H; with_reducible exact H2_) | with_reducible exact H | (rw [hy284]; exact H) | exact H
                  have Ny284 := Aside0.mk hy284
                  clear hy284
                  by_cases c95 : 0 ≤ (wrap64 (t207 + 2))
                  ·rw [if_pos c95] at H
                   have c95b0 := eq_true c95
                   have c95b1 : decide (0 ≤ (wrap64 (t207 + 2))) = true := decide_eq_true c95
                   by_cases c96 : (wrap64 (t207 + 2)) ≤ (x7_2.length : Int)
                   ·rw [if_pos c96] at H
                    have c96b0 := eq_true c96
                    have c96b1 : decide ((wrap64 (t207 + 2)) ≤ (x7_2.length : Int)) = true := decide_eq_true c96
                    obtain ⟨y287, hy287⟩ : ∃ y_ : List (List (S41)), y_ = (x7_2.drop ((wrap64 (t207 + 2)) : Int).toNat) := ⟨_, rfl⟩
                    replace H : (if y284.length + y287.length < 5864062014805 then (spec_l20Term.l1 k2 a2 (y284 ++ y287) x9_2 s0_0 t270) else (none)) = some (r1, r2) := by first | (rw [hy287]; with_reducible exact H) | (have H2_ := (Option.bind_some _ _).symm.trans H; rw [hy287]; with_reducible exact H2_) | (have H2_ := (Option.bind_some _ _).symm.trans H; with_reducible exact H2_) | with_reducible exact H | (rw [hy287]; exact H) | exact H
                    have Ny287 := Aside0.mk hy287
                    clear hy287
                    by_cases c97 : y284.length + y287.length < 5864062014805
                    ·rw [if_pos c97] at H
                     have LMc97 := Aside0.mk c97
                     clear c97
                     obtain ⟨y291, hy291⟩ : ∃ y_ : List (List (S41)), y_ = (y284 ++ y287) := ⟨_, rfl⟩
                     replace H : (spec_l20Term.l1 k2 a2 y291 x9_2 s0_0 t270) = some (r1, r2) := by first | (rw [hy291]; with_reducible exact H) | (have H2_ := (Option.bind_some _ _).symm.trans H; rw [hy291]; with_reducible exact H2_) | (have H2_ := (Option.bind_some _ _).symm.trans H; with_reducible exact H2_) | with_reducible exact H | (rw [hy291]; exact H) | exact H
                     have Ny291 := Aside0.mk hy291
                     clear hy291
                     have H' := Aside0.mk H
                     clear H
                     obtain ⟨Ao98, co98, eo98⟩ := Kd.R_slice HO_7.out
                     subst eo98
                     try go_wp2_with (first | ((with_reducible refine gate_callee (f := 64) rfl ?_); refine goesL_ (some 52) rfl rfl Try.func64 (by kernel_rfl) rfl #[.pointer (some ⟨g, 0, none⟩), .int .i64 (wrap64 ((x7_2.length : Int) - 1))] rfl (by (try simp only [List.map_toArray, List.map_cons, List.map_nil]); first | done | rfl | (simp only [List.length_drop, List.length_take]; rfl)) ?_; (with_reducible refine (spec_l20Rd_pick.calls k2 g s0_0 x1001_2 (wrap64 ((x7_2.length : Int) - 1)) t207 t208 w0 _ ?side1 ?side2 A30.out).mono ?_); (case side1 => repeat (first | (with_reducible first | exact HI0.out | apply IsS68.alloc | apply IsS68.drewN | apply IsS68.drew | apply IsS68.set_1) | exact HI0.out)); (case side2 => repeat (first | (with_reducible first | exact HB.out | apply below_alloc | apply pw_below_drewN | apply below_drew1 | refine below_set ?_ (IsS68.ge HI0.out)) | exact HB.out)); rintro e w99 ⟨rfl, hi, hb, hk⟩; refine ⟨_, rfl, ?_⟩; have n0_ := Aside0.mk (Kd.R_mono (Kd.R_keep (IsS68.apart (show IsS68 w0 _ g s0_0 x1001_2 from by repeat (first | (with_reducible first | exact HI0.out | apply IsS68.alloc | apply IsS68.drewN | apply IsS68.drew | apply IsS68.set_1) | exact HI0.out)) (by (with_reducible repeat apply Kd.R_alloc); exact HO_7.out) (by decide)) hk (fun _ h => h.2)) (fun _ h => h.1)); have n1_ := Aside0.mk (KeepBut.trans (by repeat (first | (with_reducible first | exact HK.out | apply KeepBut.set_ | apply keep_drewN | apply keep_drew | apply keep_alloc) | exact HK.out)) hk (.inl rfl)); have n2_ := Aside0.mk (hb); have n3_ := Aside0.mk (hi); clear HO_7; clear HK; clear HB; clear HI0; have HO_7 := n0_; have HK := n1_; have HB := n2_; have HI0 := n3_; clear n0_ n1_ n2_ n3_; (try clear hb); (try clear hb2); (try clear hk); (try clear hi)))
                     have n0_ := Aside0.mk (Kd.R_drew HO_7.out)
                     have n1_ := Aside0.mk (IsS68.drew HI0.out)
                     have n2_ := Aside0.mk (keep_drew HK.out)
                     have n3_ := Aside0.mk (below_drew1 HB.out)
                     clear HO_7
                     clear HI0
                     clear HK
                     clear HB
                     have HO_7 := n0_
                     have HI0 := n1_
                     have HK := n2_
                     have HB := n3_
                     clear n0_ n1_ n2_ n3_
                     have p261 : 0 ≤ (t207 : Int) := of_decide_eq_true (by first | (with_reducible assumption) | assumption)
                     have q261 : t207 < (x7_2.length : Int) := of_decide_eq_true (by first | (with_reducible assumption) | assumption)
                     obtain ⟨ad261, A261_0, c261_0, e261, hx261_0, hl261_0, hi261_0⟩ := at_L3 (Kd.R_reads' HO_7.out).2.2 t207 p261 q261
                     cases e261
                     obtain ⟨ce261, hce261, hMe261, hcc261⟩ := Kd.R_get HO_7.out [] t207 p261 (by first | exact q261 | exact of_decide_eq_true (by first | (with_reducible assumption) | assumption) | (have e_ := (Kd.R_reads' HO_7.out).1; omega))
                     obtain ⟨ve261_0, rfl, ge261_0⟩ := hMe261
                     have hv261_0 := hcc261 0 _ rfl
                     rw [Nat.add_zero, show ((Kd.slice 41 k41)).sz = 1 from rfl, Nat.mul_one] at hv261_0
                     replace hv261_0 := Option.some.inj (hv261_0.symm.trans hx261_0)
                     rw [hv261_0] at ge261_0
                     have HL261_0 := Aside0.mk (show Kd.R k41 41 _ _ _ _ (rd_L3 x7_2 t207) from ge261_0)
                     clear hv261_0 ge261_0
                     clear hcc261 hce261
                     have HR261_0 := Aside0.mk hi261_0
                     have HC261_0 := Aside0.mk hl261_0
                     clear hi261_0 hl261_0
                     replace p261 := eq_true p261
                     replace q261 := eq_true q261
                     have p265 : 0 ≤ ((ji85) : Int) := of_decide_eq_true (by first | (with_reducible assumption) | assumption)
                     have q265 : (ji85) < (x7_2.length : Int) := of_decide_eq_true (by first | (with_reducible assumption) | assumption)
                     obtain ⟨ad265, A265_0, c265_0, e265, hx265_0, hl265_0, hi265_0⟩ := at_L3 (Kd.R_reads' HO_7.out).2.2 (ji85) p265 q265
                     obtain rfl : ad261 = ad265 := (by injection e265)
                     obtain ⟨ce265, hce265, hMe265, hcc265⟩ := Kd.R_get HO_7.out [] (ji85) p265 (by first | exact q265 | exact of_decide_eq_true (by first | (with_reducible assumption) | assumption) | (have e_ := (Kd.R_reads' HO_7.out).1; omega))
                     obtain ⟨ve265_0, rfl, ge265_0⟩ := hMe265
                     have hv265_0 := hcc265 0 _ rfl
                     rw [Nat.add_zero, show ((Kd.slice 41 k41)).sz = 1 from rfl, Nat.mul_one] at hv265_0
                     replace hv265_0 := Option.some.inj (hv265_0.symm.trans hx265_0)
                     rw [hv265_0] at ge265_0
                     have HL265_0 := Aside0.mk (show Kd.R k41 41 _ _ _ _ (rd_L3 x7_2 (ji85)) from ge265_0)
                     clear hv265_0 ge265_0
                     clear hcc265 hce265
                     have HR265_0 := Aside0.mk hi265_0
                     have HC265_0 := Aside0.mk hl265_0
                     clear hi265_0 hl265_0
                     replace p265 := eq_true p265
                     replace q265 := eq_true q265
                     refine start_ (n := 19) (S := fun w' => w'.cell? (ad261.add (t207).toNat) = some (.slice A261_0 (rd_L3 x7_2 t207).length c261_0) ∧ w'.cell? (ad261.add ((ji85)).toNat) = some (.slice A265_0 (rd_L3 x7_2 (ji85)).length c265_0)) (ds := [16]) #[false, false, false, false, false, false, false, false, false, false, false, false, false, false, false, false, false, false, false] (by kernel_rfl) rfl rfl ⟨hx261_0, hx265_0⟩ (fun hHeld => ?_); refine with_tabW spec_l20Term.tab15 spec_l20Term.bits15 (fun HT_ HW_ => ?_)
                     generalize w99.drew = w100 at HO_7 HI0 HK HB HL261_0 HL265_0 HR261_0 HR265_0 hx261_0 hx265_0 hHeld ⊢
                     refine pure_ (i := 1) (N := some 75) (v := ?_) (a' := ?_) #[false, true, false, false, false, false, false, false, false, false, false, false, false, false, false, false, false, false, false] rfl rfl (any_of HT_.out (by kernel_rfl)) (fun _ _ _ h => h) (Or.inl ⟨by rfl, ?_⟩) ?_ ?_
                     rotate_left
                     ·intro w'
                      go_simp
                      with_reducible rfl
                     rotate_left
                     ·simp only [Act.put, List.setIfInBounds_toArray, List.set_cons_zero, List.set_cons_succ, i64_w, i32_w]
                      rfl
                     refine pure_ (i := 2) (N := some 76) (v := ?_) (a' := ?_) #[false, true, true, false, false, false, false, false, false, false, false, false, false, false, false, false, false, false, false] rfl rfl (any_of HT_.out (by kernel_rfl)) (fun _ _ _ h => h) (Or.inl ⟨by rfl, ?_⟩) ?_ ?_
                     rotate_left
                     ·intro w'
                      go_simp
                      with_reducible rfl
                     rotate_left
                     ·simp only [Act.put, List.setIfInBounds_toArray, List.set_cons_zero, List.set_cons_succ, i64_w, i32_w]
                      rfl
                     refine pure_ (i := 3) (N := some 77) (v := ?_) (a' := ?_) #[false, true, true, true, false, false, false, false, false, false, false, false, false, false, false, false, false, false, false] rfl rfl (any_of HT_.out (by kernel_rfl)) (fun _ _ _ h => h) (Or.inl ⟨by rfl, ?_⟩) ?_ ?_
                     rotate_left
                     ·intro w'
                      go_simp
                      with_reducible rfl
                     rotate_left
                     ·simp only [Act.put, List.setIfInBounds_toArray, List.set_cons_zero, List.set_cons_succ, i64_w, i32_w]
                      rfl
                     refine pure_ (i := 6) (N := some 80) (v := ?_) (a' := ?_) #[false, true, true, true, false, false, true, false, false, false, false, false, false, false, false, false, false, false, false] rfl rfl (any_of HT_.out (by kernel_rfl)) (fun _ _ _ h => h) (Or.inl ⟨by rfl, ?_⟩) ?_ ?_
                     rotate_left
                     ·intro w'
                      go_simp
                      with_reducible rfl
                     rotate_left
                     ·simp only [Act.put, List.setIfInBounds_toArray, List.set_cons_zero, List.set_cons_succ, i64_w, i32_w]
                      rfl
                     refine pure_ (i := 7) (N := some 81) (v := ?_) (a' := ?_) #[false, true, true, true, false, false, true, true, false, false, false, false, false, false, false, false, false, false, false] rfl rfl (any_of HT_.out (by kernel_rfl)) (fun _ _ _ h => h) (Or.inl ⟨by rfl, ?_⟩) ?_ ?_
                     rotate_left
                     ·intro w'
                      go_simp
                      with_reducible rfl
                     rotate_left
                     ·simp only [Act.put, List.setIfInBounds_toArray, List.set_cons_zero, List.set_cons_succ, i64_w, i32_w]
                      rfl
                     refine pure_ (i := 8) (N := some 82) (v := ?_) (a' := ?_) #[false, true, true, true, false, false, true, true, true, false, false, false, false, false, false, false, false, false, false] rfl rfl (any_of HT_.out (by kernel_rfl)) (fun _ _ _ h => h) (Or.inl ⟨by rfl, ?_⟩) ?_ ?_
                     rotate_left
                     ·intro w'
                      go_simp
                      with_reducible rfl
                     rotate_left
                     ·simp only [Act.put, List.setIfInBounds_toArray, List.set_cons_zero, List.set_cons_succ, i64_w, i32_w]
                      rfl
                     refine pure_ (i := 9) (N := some 83) (v := ?_) (a' := ?_) #[false, true, true, true, false, false, true, true, true, true, false, false, false, false, false, false, false, false, false] rfl rfl (any_of HT_.out (by kernel_rfl)) (fun _ _ _ h => h) (Or.inl ⟨by rfl, ?_⟩) ?_ ?_
                     rotate_left
                     ·intro w'
                      go_simp
                      with_reducible rfl
                     rotate_left
                     ·simp only [Act.put, List.setIfInBounds_toArray, List.set_cons_zero, List.set_cons_succ, i64_w, i32_w]
                      rfl
                     refine pure_ (i := 12) (N := some 86) (v := ?_) (a' := ?_) #[false, true, true, true, false, false, true, true, true, true, false, false, true, false, false, false, false, false, false] rfl rfl (any_of HT_.out (by kernel_rfl)) (fun _ _ _ h => h) (Or.inl ⟨by rfl, ?_⟩) ?_ ?_
                     rotate_left
                     ·intro w'
                      go_simp
                      with_reducible rfl
                     rotate_left
                     ·simp only [Act.put, List.setIfInBounds_toArray, List.set_cons_zero, List.set_cons_succ, i64_w, i32_w]
                      rfl
                     refine take_ (i := 4) (N := some 78) (v := ?_) (a' := ?_) #[false, true, true, true, true, false, true, true, true, true, false, false, true, false, false, false, false, false, false] rfl rfl (take_ofW HT_.out HW_.out (by kernel_rfl)) (fun _ _ _ h => h) (Or.inl ⟨by rfl, ?_⟩) hHeld ?_ ?_
                     rotate_left
                     ·rintro w' ⟨s0, s1⟩
                      go_simp
                      with_reducible rfl
                     rotate_left
                     ·simp only [Act.put, List.setIfInBounds_toArray, List.set_cons_zero, List.set_cons_succ, i64_w, i32_w]
                      rfl
                     refine take_ (i := 10) (N := some 84) (v := ?_) (a' := ?_) #[false, true, true, true, true, false, true, true, true, true, true, false, true, false, false, false, false, false, false] rfl rfl (take_ofW HT_.out HW_.out (by kernel_rfl)) (fun _ _ _ h => h) (Or.inl ⟨by rfl, ?_⟩) hHeld ?_ ?_
                     rotate_left
                     ·rintro w' ⟨s0, s1⟩
                      go_simp
                      with_reducible rfl
                     rotate_left
                     ·simp only [Act.put, List.setIfInBounds_toArray, List.set_cons_zero, List.set_cons_succ, i64_w, i32_w]
                      rfl
                     refine one_ (i := 0) (N := some 74) #[true, true, true, true, true, false, true, true, true, true, true, false, true, false, false, false, false, false, false] rfl rfl (one_of HT_.out (by kernel_rfl)) (by decide) (fun K hK => ?_)
                     refine Kd.R_lit_step k41 _ 41 ?hg (N := 74) ?hd (xs := ([] : List (S41))) (inner := []) (ok := fun _ => True) (okp := fun _ => True) ?hr ?hp (fun _ hk => hk) trivial (Below.refl _ _) (Nat.le_refl _) (by simp) ?_; (case hd => rfl); (case hg => rfl); (case hr => first | (go_simp; done) | (go_simp; rfl)); (case hp => exact (Reps.none _ _))
                     intro v259 w101 ho102 hb hg_ hnew_
                     have HS0_ := (hb.cell (World.block_lt_of_cell? _ _ (hHeld.1))).trans (hHeld.1)
                     have HS1_ := (hb.cell (World.block_lt_of_cell? _ _ (hHeld.2))).trans (hHeld.2)
                     clear hg_ hnew_
                     (first | rw [← Ny258.out] at ho102 | (simp only [Int.reduceToNat] at ho102; rw [← Ny258.out] at ho102))
                     have n0_ := Aside0.mk (Kd.R_elder' (by (with_reducible repeat apply Kd.R_alloc); exact HO_7.out) (Kd.R_base ho102) hb)
                     have n1_ := Aside0.mk (Kd.R_elder' (by (with_reducible repeat apply Kd.R_alloc); exact HL261_0.out) (Kd.R_base ho102) hb)
                     have n2_ := Aside0.mk (Kd.R_elder' (by (with_reducible repeat apply Kd.R_alloc); exact HL265_0.out) (Kd.R_base ho102) hb)
                     have n3_ := Aside0.mk (Kd.R_lower (Kd.R_new' (Kd.R_new' ho102 (Kd.R_lt (by (with_reducible repeat apply Kd.R_alloc); exact HL261_0.out))) (Kd.R_lt (by (with_reducible repeat apply Kd.R_alloc); exact HL265_0.out))) (keep_size (w := w) (g := g) (row := none) (by repeat (first | (with_reducible first | exact HK.out | apply KeepBut.set_ | apply keep_drewN | apply keep_drew | apply keep_alloc) | exact HK.out))))
                     have n4_ := Aside0.mk (IsS68.below (by repeat (first | (with_reducible first | exact HI0.out | apply IsS68.alloc | apply IsS68.drewN | apply IsS68.drew | apply IsS68.set_1) | exact HI0.out)) hb)
                     have n5_ := Aside0.mk (Kd.C_below (by repeat (first | (with_reducible exact HR261_0.out) | (with_reducible refine Kd.C_alloc ?_ _) | (with_reducible refine Kd.C_drewN ?_ _) | (with_reducible refine Kd.C_drew ?_) | exact HR261_0.out)) hb)
                     have n6_ := Aside0.mk (Kd.C_below (by repeat (first | (with_reducible exact HR265_0.out) | (with_reducible refine Kd.C_alloc ?_ _) | (with_reducible refine Kd.C_drewN ?_ _) | (with_reducible refine Kd.C_drew ?_) | exact HR265_0.out)) hb)
                     have n7_ := Aside0.mk (KeepBut.trans (by repeat (first | (with_reducible first | exact HK.out | apply KeepBut.set_ | apply keep_drewN | apply keep_drew | apply keep_alloc) | exact HK.out)) (KeepBut.of_below hb g none) (.inl rfl))
                     have n8_ := Aside0.mk (below_step (by repeat (first | (with_reducible first | exact HB.out | apply below_alloc | apply pw_below_drewN | apply below_drew1 | refine below_set ?_ (IsS68.ge HI0.out)) | exact HB.out)) hb)
                     clear HO_7
                     clear HL261_0
                     clear HL265_0
                     clear HI0
                     clear HR261_0
                     clear HR265_0
                     clear HK
                     clear HB
                     have HO_7 := n0_
                     have HL261_0 := n1_
                     have HL265_0 := n2_
                     have HO260 := n3_
                     have HI0 := n4_
                     have HR261_0 := n5_
                     have HR265_0 := n6_
                     have HK := n7_
                     have HB := n8_
                     clear n0_ n1_ n2_ n3_ n4_ n5_ n6_ n7_ n8_
                     clear hb ho102
                     refine hK.out _ _ ⟨HS0_, HS1_⟩ (fun hHeld => ?_)
                     clear hK K
                     refine norm_ (a' := ?_) ?_ ?_
                     rotate_left
                     ·show Act.put _ (some 74) _ = _
                      simp only [Act.put, List.setIfInBounds_toArray, List.set_cons_zero, List.set_cons_succ, i64_w, i32_w]
                      rfl
                     refine one_ (i := 5) (N := some 79) #[true, true, true, true, true, true, true, true, true, true, true, false, true, false, false, false, false, false, false] rfl rfl (one_of HT_.out (by kernel_rfl)) (by decide) (fun K hK => ?_)
                     refine Kd.R_append_rows_step k41 w.heap.size (by rfl) (.tmp 74) (.tmp 78) 23 41 (.agg #[(.int .i64 0), (.int .i64 0)]) 16 rfl Try.underlying23 info41 rfl (by decide) (by omega) v259 y258 (rd_L3 x7_2 t207) _ _ _ (fun k_ => some k_ ≠ (.slice A261_0 (rd_L3 x7_2 t207).length c261_0 : Value).ownBlock ∧ some k_ ≠ (.slice A265_0 (rd_L3 x7_2 (ji85)).length c265_0 : Value).ownBlock) (fun _ => False) rfl rfl ?aO ?aR (fun _ _ h => h) (fun _ h => h.elim) ?aF (Below.refl _ _) ?aS ?aL ?_
                     (case aR => repeat (first | exact (by repeat (first | (with_reducible exact HR261_0.out) | (with_reducible refine Kd.C_alloc ?_ _) | (with_reducible refine Kd.C_drewN ?_ _) | (with_reducible refine Kd.C_drew ?_) | exact HR261_0.out)) | (with_reducible refine Kd.C_alloc ?_ _) | (with_reducible refine Kd.C_drewN ?_ _) | (with_reducible refine Kd.C_drew ?_)))
                     (case aF => exact (fun k_ hk => ⟨Kd.fresh' (Kd.R_lt (by (with_reducible repeat apply Kd.R_alloc); exact HL261_0.out)) k_ hk, Kd.fresh' (Kd.R_lt (by (with_reducible repeat apply Kd.R_alloc); exact HL265_0.out)) k_ hk⟩))
                     (case aO => exact (by (with_reducible repeat apply Kd.R_alloc); exact Kd.R_mono HO260.out (fun _ hk => ⟨hk.1.2, hk.2⟩)))
                     (case aS => exact (keep_size (w := w) (g := g) (row := none) (by repeat (first | (with_reducible first | exact HK.out | apply KeepBut.set_ | apply keep_drewN | apply keep_drew | apply keep_alloc) | exact HK.out))))
                     (case aL => have := LMc84.out; omega)
                     intro v263 w103 ho hb hg hat
                     have HS0_ := cell_grown hg (hHeld.1) (by first | (rw [add_block]; exact ((HO_7.out.1 _ rfl).2)) | (show some (Addr.add _ _).block ≠ _; rw [add_block]; exact ((HO_7.out.1 _ rfl).2)) | exact ((HO_7.out.1 _ rfl).2))
                     have HS1_ := cell_grown hg (hHeld.2) (by first | (rw [add_block]; exact ((HO_7.out.1 _ rfl).2)) | (show some (Addr.add _ _).block ≠ _; rw [add_block]; exact ((HO_7.out.1 _ rfl).2)) | exact ((HO_7.out.1 _ rfl).2))
                     rw [← Ny262.out] at ho
                     have n0_ := Aside0.mk (Kd.R_after (ok := (fun _ => True)) (by (with_reducible repeat apply Kd.R_alloc); exact HO_7.out) hg hat)
                     have n1_ := Aside0.mk (IsS68.grown (by repeat (first | (with_reducible first | exact HI0.out | apply IsS68.alloc | apply IsS68.drewN | apply IsS68.drew | apply IsS68.set_1) | exact HI0.out)) hg (IsS68.own_ne HI0.out HO260.out (by decide)))
                     have n2_ := Aside0.mk (Kd.R_after (ok := (fun k_ => some k_ ≠ (.slice (some ad261) x7_2.length co98 : Value).ownBlock)) (by (with_reducible repeat apply Kd.R_alloc); exact Kd.R_mono HL261_0.out (fun _ hk => ⟨hk.1.2, hk.2⟩)) hg hat)
                     have n3_ := Aside0.mk (Kd.R_after (ok := (fun k_ => some k_ ≠ (.slice (some ad261) x7_2.length co98 : Value).ownBlock)) (by (with_reducible repeat apply Kd.R_alloc); exact Kd.R_mono HL265_0.out (fun _ hk => ⟨hk.1.2, hk.2⟩)) hg hat)
                     have n4_ := Aside0.mk (below_weaken (by repeat (first | (with_reducible first | exact HB.out | apply below_alloc | apply pw_below_drewN | apply below_drew1 | refine below_set ?_ (IsS68.ge HI0.out)) | exact HB.out)) HL.out hb)
                     have n5_ := Aside0.mk (KeepBut.trans (by repeat (first | (with_reducible first | exact HK.out | apply KeepBut.set_ | apply keep_drewN | apply keep_drew | apply keep_alloc) | exact HK.out)) (KeepBut.of_grown hg g) (Kd.R_base2 HO260.out))
                     have n6_ := Aside0.mk (ho)
                     clear HO_7
                     clear HI0
                     clear HL261_0
                     clear HL265_0
                     clear HB
                     clear HK
                     clear HO260
                     have HO_7 := n0_
                     have HI0 := n1_
                     have HL261_0 := n2_
                     have HL265_0 := n3_
                     have HB := n4_
                     have HK := n5_
                     have HO264 := n6_
                     clear n0_ n1_ n2_ n3_ n4_ n5_ n6_
                     clear ho hb hg hat
                     refine hK.out _ _ ⟨HS0_, HS1_⟩ (fun hHeld => ?_)
                     clear hK K
                     refine norm_ (a' := ?_) ?_ ?_
                     rotate_left
                     ·show Act.put _ (some 79) _ = _
                      simp only [Act.put, List.setIfInBounds_toArray, List.set_cons_zero, List.set_cons_succ, i64_w, i32_w]
                      rfl
                     refine one_ (i := 11) (N := some 85) #[true, true, true, true, true, true, true, true, true, true, true, true, true, false, false, false, false, false, false] rfl rfl (one_of HT_.out (by kernel_rfl)) (by decide) (fun K hK => ?_)
                     refine Kd.R_append_rows_step k41 w.heap.size (by rfl) (.tmp 79) (.tmp 84) 23 41 (.agg #[(.int .i64 0), (.int .i64 0)]) 16 rfl Try.underlying23 info41 rfl (by decide) (by omega) v263 y262 (rd_L3 x7_2 (ji85)) _ _ _ (fun k_ => some k_ ≠ (.slice A261_0 (rd_L3 x7_2 t207).length c261_0 : Value).ownBlock ∧ some k_ ≠ (.slice A265_0 (rd_L3 x7_2 (ji85)).length c265_0 : Value).ownBlock) (fun _ => False) rfl rfl ?aO ?aR (fun _ _ h => h) (fun _ h => h.elim) ?aF (Below.refl _ _) ?aS ?aL ?_
                     (case aR => repeat (first | exact ((Kd.R_reads' (by (with_reducible repeat apply Kd.R_alloc); exact HL265_0.out)).2.2) | (with_reducible refine Kd.C_alloc ?_ _) | (with_reducible refine Kd.C_drewN ?_ _) | (with_reducible refine Kd.C_drew ?_)))
                     (case aF => exact (fun k_ hk => ⟨Kd.fresh' (Kd.R_lt (by (with_reducible repeat apply Kd.R_alloc); exact HL261_0.out)) k_ hk, Kd.fresh' (Kd.R_lt (by (with_reducible repeat apply Kd.R_alloc); exact HL265_0.out)) k_ hk⟩))
                     (case aO => exact (by (with_reducible repeat apply Kd.R_alloc); exact HO264.out))
                     (case aS => exact (keep_size (w := w) (g := g) (row := none) (by repeat (first | (with_reducible first | exact HK.out | apply KeepBut.set_ | apply keep_drewN | apply keep_drew | apply keep_alloc) | exact HK.out))))
                     (case aL => have := LMc88.out; omega)
                     intro v267 w104 ho hb hg hat
                     have HS0_ := cell_grown hg (hHeld.1) (by first | (rw [add_block]; exact ((HO_7.out.1 _ rfl).2)) | (show some (Addr.add _ _).block ≠ _; rw [add_block]; exact ((HO_7.out.1 _ rfl).2)) | exact ((HO_7.out.1 _ rfl).2))
                     have HS1_ := cell_grown hg (hHeld.2) (by first | (rw [add_block]; exact ((HO_7.out.1 _ rfl).2)) | (show some (Addr.add _ _).block ≠ _; rw [add_block]; exact ((HO_7.out.1 _ rfl).2)) | exact ((HO_7.out.1 _ rfl).2))
                     rw [← Ny266.out] at ho
                     have n0_ := Aside0.mk (Kd.R_after (ok := (fun _ => True)) (by (with_reducible repeat apply Kd.R_alloc); exact HO_7.out) hg hat)
                     have n1_ := Aside0.mk (IsS68.grown (by repeat (first | (with_reducible first | exact HI0.out | apply IsS68.alloc | apply IsS68.drewN | apply IsS68.drew | apply IsS68.set_1) | exact HI0.out)) hg (IsS68.own_ne HI0.out HO264.out (by decide)))
                     have n2_ := Aside0.mk (Kd.R_after (ok := (fun k_ => some k_ ≠ (.slice (some ad261) x7_2.length co98 : Value).ownBlock)) (by (with_reducible repeat apply Kd.R_alloc); exact HL261_0.out) hg hat)
                     have n3_ := Aside0.mk (Kd.R_after (ok := (fun k_ => some k_ ≠ (.slice (some ad261) x7_2.length co98 : Value).ownBlock)) (by (with_reducible repeat apply Kd.R_alloc); exact HL265_0.out) hg hat)
                     have n4_ := Aside0.mk (below_weaken (by repeat (first | (with_reducible first | exact HB.out | apply below_alloc | apply pw_below_drewN | apply below_drew1 | refine below_set ?_ (IsS68.ge HI0.out)) | exact HB.out)) HL.out hb)
                     have n5_ := Aside0.mk (KeepBut.trans (by repeat (first | (with_reducible first | exact HK.out | apply KeepBut.set_ | apply keep_drewN | apply keep_drew | apply keep_alloc) | exact HK.out)) (KeepBut.of_grown hg g) (Kd.R_base2 HO264.out))
                     have n6_ := Aside0.mk (ho)
                     clear HO_7
                     clear HI0
                     clear HL261_0
                     clear HL265_0
                     clear HB
                     clear HK
                     clear HO264
                     have HO_7 := n0_
                     have HI0 := n1_
                     have HL261_0 := n2_
                     have HL265_0 := n3_
                     have HB := n4_
                     have HK := n5_
                     have HO268 := n6_
                     clear n0_ n1_ n2_ n3_ n4_ n5_ n6_
                     clear ho hb hg hat
                     refine hK.out _ _ ⟨HS0_, HS1_⟩ (fun hHeld => ?_)
                     clear hK K
                     refine norm_ (a' := ?_) ?_ ?_
                     rotate_left
                     ·show Act.put _ (some 85) _ = _
                      simp only [Act.put, List.setIfInBounds_toArray, List.set_cons_zero, List.set_cons_succ, i64_w, i32_w]
                      rfl
                     refine one_ (i := 13) (N := some 87) #[true, true, true, true, true, true, true, true, true, true, true, true, true, true, false, false, false, false, false] rfl rfl (one_of HT_.out (by kernel_rfl)) (by decide) (fun K hK => ?_)
                     refine goes_ Try.func64 (by kernel_rfl) rfl #[.pointer (some ⟨g, 0, none⟩), .int .i64 3] (by rfl) rfl rfl (by (try simp only [List.map_toArray, List.map_cons, List.map_nil]); first | done | rfl | (simp only [List.length_drop, List.length_take]; rfl)) ?_
                     with_reducible refine (spec_l20Rd_pick.calls k2 g s0_0 t208 3 t269 t270 w0 _ ?side1 ?side2 A89.out).mono ?_
                     (case side1 => repeat (first | (with_reducible first | exact HI0.out | apply IsS68.alloc | apply IsS68.drewN | apply IsS68.drew | apply IsS68.set_1) | exact HI0.out))
                     (case side2 => repeat (first | (with_reducible first | exact HB.out | apply below_alloc | apply pw_below_drewN | apply below_drew1 | refine below_set ?_ (IsS68.ge HI0.out)) | exact HB.out))
                     rintro e w105 ⟨rfl, hi, hb, hk⟩
                     have HS0_ := keep_cell hk (hHeld.1) (by first | (rw [add_block]; exact Kd.own_blk (IsS68.own_ne HI0.out HO_7.out (by decide))) | (show (Addr.add _ _).block ≠ _; rw [add_block]; exact Kd.own_blk (IsS68.own_ne HI0.out HO_7.out (by decide))) | exact Kd.own_blk (IsS68.own_ne HI0.out HO_7.out (by decide)))
                     have HS1_ := keep_cell hk (hHeld.2) (by first | (rw [add_block]; exact Kd.own_blk (IsS68.own_ne HI0.out HO_7.out (by decide))) | (show (Addr.add _ _).block ≠ _; rw [add_block]; exact Kd.own_blk (IsS68.own_ne HI0.out HO_7.out (by decide))) | exact Kd.own_blk (IsS68.own_ne HI0.out HO_7.out (by decide)))
                     refine ⟨_, rfl, ?_⟩
                     have n0_ := Aside0.mk (Kd.R_mono (Kd.R_keep (IsS68.apart (show IsS68 w0 _ g s0_0 t208 from by repeat (first | (with_reducible first | exact HI0.out | apply IsS68.alloc | apply IsS68.drewN | apply IsS68.drew | apply IsS68.set_1) | exact HI0.out)) (by (with_reducible repeat apply Kd.R_alloc); exact HO_7.out) (by decide)) hk (fun _ h => h.2)) (fun _ h => h.1))
                     have n1_ := Aside0.mk (Kd.R_mono (Kd.R_keep (IsS68.apart (show IsS68 w0 _ g s0_0 t208 from by repeat (first | (with_reducible first | exact HI0.out | apply IsS68.alloc | apply IsS68.drewN | apply IsS68.drew | apply IsS68.set_1) | exact HI0.out)) (by (with_reducible repeat apply Kd.R_alloc); exact HL261_0.out) (by decide)) hk (fun _ h => h.2)) (fun _ h => h.1))
                     have n2_ := Aside0.mk (Kd.R_mono (Kd.R_keep (IsS68.apart (show IsS68 w0 _ g s0_0 t208 from by repeat (first | (with_reducible first | exact HI0.out | apply IsS68.alloc | apply IsS68.drewN | apply IsS68.drew | apply IsS68.set_1) | exact HI0.out)) (by (with_reducible repeat apply Kd.R_alloc); exact HL265_0.out) (by decide)) hk (fun _ h => h.2)) (fun _ h => h.1))
                     have n3_ := Aside0.mk (Kd.R_mono (Kd.R_keep (IsS68.apart (show IsS68 w0 _ g s0_0 t208 from by repeat (first | (with_reducible first | exact HI0.out | apply IsS68.alloc | apply IsS68.drewN | apply IsS68.drew | apply IsS68.set_1) | exact HI0.out)) (by (with_reducible repeat apply Kd.R_alloc); exact HO268.out) (by decide)) hk (fun _ h => h.2)) (fun _ h => h.1))
                     have n4_ := Aside0.mk (KeepBut.trans (by repeat (first | (with_reducible first | exact HK.out | apply KeepBut.set_ | apply keep_drewN | apply keep_drew | apply keep_alloc) | exact HK.out)) hk (.inl rfl))
                     have n5_ := Aside0.mk (hb)
                     have n6_ := Aside0.mk (hi)
                     clear HO_7
                     clear HL261_0
                     clear HL265_0
                     clear HO268
                     clear HK
                     clear HB
                     clear HI0
                     have HO_7 := n0_
                     have HL261_0 := n1_
                     have HL265_0 := n2_
                     have HO268 := n3_
                     have HK := n4_
                     have HB := n5_
                     have HI0 := n6_
                     clear n0_ n1_ n2_ n3_ n4_ n5_ n6_
                     (try clear hb)
                     (try clear hb2)
                     (try clear hk)
                     (try clear hi)
                     refine hK.out _ _ ⟨HS0_, HS1_⟩ (fun hHeld => ?_)
                     clear hK K
                     refine norm_ (a' := ?_) ?_ ?_
                     rotate_left
                     ·show Act.put _ (some 87) _ = _
                      simp only [Act.put, List.setIfInBounds_toArray, List.set_cons_zero, List.set_cons_succ, i64_w, i32_w]
                      rfl
                     refine pure_ (i := 14) (N := some 88) (v := ?_) (a' := ?_) #[true, true, true, true, true, true, true, true, true, true, true, true, true, true, true, false, false, false, false] rfl rfl (any_of HT_.out (by kernel_rfl)) (fun _ _ _ h => h) (Or.inl ⟨by rfl, ?_⟩) ?_ ?_
                     rotate_left
                     ·intro w'
                      go_simp
                      with_reducible rfl
                     rotate_left
                     ·simp only [Act.put, List.setIfInBounds_toArray, List.set_cons_zero, List.set_cons_succ, i64_w, i32_w]
                      rfl
                     refine pure_ (i := 15) (N := some 89) (v := ?_) (a' := ?_) #[true, true, true, true, true, true, true, true, true, true, true, true, true, true, true, true, false, false, false] rfl rfl (any_of HT_.out (by kernel_rfl)) (fun _ _ _ h => h) (Or.inl ⟨by rfl, ?_⟩) ?_ ?_
                     rotate_left
                     ·intro w'
                      go_simp
                      with_reducible rfl
                     rotate_left
                     ·simp only [Act.put, List.setIfInBounds_toArray, List.set_cons_zero, List.set_cons_succ, i64_w, i32_w]
                      rfl
                     refine last_ (i := 16) (N := some 90) #[true, true, true, true, true, true, true, true, true, true, true, true, true, true, true, true, true, false, false] rfl rfl (one_of HT_.out (by kernel_rfl)) (by decide) (fun K hK => ?_)
                     refine value_ (w1 := ?_) (v := ?_) (by rfl) rfl ?_ ?_
                     rotate_left 2
                     ·go_simp
                      constructor
                      ·rfl
                      ·rfl
                     refine hK.out _ _ ?_
                     clear hK K
                     refine norm_ (a' := ?_) ?_ ?_
                     rotate_left
                     ·show Act.put _ (some 90) _ = _
                      simp only [Act.put, List.setIfInBounds_toArray, List.set_cons_zero, List.set_cons_succ, i64_w, i32_w]
                      rfl
                     refine one_ (i := 17) (N := some 91) #[true, true, true, true, true, true, true, true, true, true, true, true, true, true, true, true, true, true, false] rfl rfl (one_of HT_.out (by kernel_rfl)) (by decide) (fun K hK => ?_)
                     refine Kd.R_append_step k41 w.heap.size (by rfl) (.tmp 85) (.tmp 90) 23 41 (.agg #[(.int .i64 0), (.int .i64 0)]) 16 rfl Try.underlying23 info41 rfl (by decide) (by omega) v267 y266 (⟨wrap64 (3 + t269), 0⟩ : S41) [.int .i64 (wrap64 (3 + t269)), .int .i64 0] (fun k_ => some k_ ≠ (.slice A261_0 (rd_L3 x7_2 t207).length c261_0 : Value).ownBlock ∧ some k_ ≠ (.slice A265_0 (rd_L3 x7_2 (ji85)).length c265_0 : Value).ownBlock) (fun _ => False) rfl rfl ?aP (fun _ hk => hk.elim) ?aF ?aO (Below.refl _ _) ?aS ?aL ?_
                     (case aP => exact k41_mkM _ _ _ (⟨wrap64 (3 + t269), 0⟩ : S41))
                     (case aF => exact (fun k_ hk => ⟨Kd.fresh' (Kd.R_lt (by (with_reducible repeat apply Kd.R_alloc); exact HL261_0.out)) k_ hk, Kd.fresh' (Kd.R_lt (by (with_reducible repeat apply Kd.R_alloc); exact HL265_0.out)) k_ hk⟩))
                     (case aO => exact (by (with_reducible repeat apply Kd.R_alloc); exact HO268.out))
                     (case aS => exact (keep_size (w := w) (g := g) (row := none) (by repeat (first | (with_reducible first | exact HK.out | apply KeepBut.set_ | apply keep_drewN | apply keep_drew | apply keep_alloc) | exact HK.out))))
                     (case aL => have := LMc90.out; omega)
                     intro v272 w106 ho hb hg hat
                     have HS0_ := cell_grown hg (hHeld.1) (by first | (rw [add_block]; exact ((HO_7.out.1 _ rfl).2)) | (show some (Addr.add _ _).block ≠ _; rw [add_block]; exact ((HO_7.out.1 _ rfl).2)) | exact ((HO_7.out.1 _ rfl).2))
                     have HS1_ := cell_grown hg (hHeld.2) (by first | (rw [add_block]; exact ((HO_7.out.1 _ rfl).2)) | (show some (Addr.add _ _).block ≠ _; rw [add_block]; exact ((HO_7.out.1 _ rfl).2)) | exact ((HO_7.out.1 _ rfl).2))
                     rw [← Ny271.out] at ho
                     have n0_ := Aside0.mk (Kd.R_after (ok := (fun _ => True)) (by (with_reducible repeat apply Kd.R_alloc); exact HO_7.out) hg hat)
                     have n1_ := Aside0.mk (IsS68.grown (by repeat (first | (with_reducible first | exact HI0.out | apply IsS68.alloc | apply IsS68.drewN | apply IsS68.drew | apply IsS68.set_1) | exact HI0.out)) hg (IsS68.own_ne HI0.out HO268.out (by decide)))
                     have n2_ := Aside0.mk (Kd.R_after (ok := (fun k_ => some k_ ≠ (.slice (some ad261) x7_2.length co98 : Value).ownBlock)) (by (with_reducible repeat apply Kd.R_alloc); exact HL261_0.out) hg hat)
                     have n3_ := Aside0.mk (Kd.R_after (ok := (fun k_ => some k_ ≠ (.slice (some ad261) x7_2.length co98 : Value).ownBlock)) (by (with_reducible repeat apply Kd.R_alloc); exact HL265_0.out) hg hat)
                     have n4_ := Aside0.mk (below_weaken (by repeat (first | (with_reducible first | exact HB.out | apply below_alloc | apply pw_below_drewN | apply below_drew1 | refine below_set ?_ (IsS68.ge HI0.out)) | exact HB.out)) HL.out hb)
                     have n5_ := Aside0.mk (KeepBut.trans (by repeat (first | (with_reducible first | exact HK.out | apply KeepBut.set_ | apply keep_drewN | apply keep_drew | apply keep_alloc) | exact HK.out)) (KeepBut.of_grown hg g) (Kd.R_base2 HO268.out))
                     have n6_ := Aside0.mk (ho)
                     clear HO_7
                     clear HI0
                     clear HL261_0
                     clear HL265_0
                     clear HB
                     clear HK
                     clear HO268
                     have HO_7 := n0_
                     have HI0 := n1_
                     have HL261_0 := n2_
                     have HL265_0 := n3_
                     have HB := n4_
                     have HK := n5_
                     have HO273 := n6_
                     clear n0_ n1_ n2_ n3_ n4_ n5_ n6_
                     clear ho hb hg hat
                     refine hK.out _ _ ⟨HS0_, HS1_⟩ (fun hHeld => ?_)
                     clear hK K
                     refine norm_ (a' := ?_) ?_ ?_
                     rotate_left
                     ·show Act.put _ (some 91) _ = _
                      simp only [Act.put, List.setIfInBounds_toArray, List.set_cons_zero, List.set_cons_succ, i64_w, i32_w]
                      rfl
                     refine pure_ (i := 18) (N := some 11) (v := ?_) (a' := ?_) #[true, true, true, true, true, true, true, true, true, true, true, true, true, true, true, true, true, true, true] rfl rfl (any_of HT_.out (by kernel_rfl)) (fun _ _ _ h => h) (Or.inl ⟨by rfl, ?_⟩) ?_ ?_
                     rotate_left
                     ·intro w'
                      go_simp
                      with_reducible rfl
                     rotate_left
                     ·simp only [Act.put, List.setIfInBounds_toArray, List.set_cons_zero, List.set_cons_succ, i64_w, i32_w]
                      rfl
                     refine done_ (done_of HT_.out (by kernel_rfl)) ?_
                     try go_wp2_with (first | ((with_reducible refine gate_dst (N := 92) rfl ?_); refine Kd.R_lit (Kd.slice 41 k41) _ 23 ?hg (N := 92) ?hd (xs := ([] : List (List (S41)))) (inner := []) (ok := fun _ => True) (okp := fun _ => True) ?hr ?hp (fun _ hk => hk) trivial (Below.refl _ _) (Nat.le_refl _) (by simp) ?_; (case hd => rfl); (case hg => rfl); (case hr => first | (go_simp; done) | (go_simp; rfl)); (case hp => exact (Reps.none _ _)); intro v275 w107 ho108 hb hg_ hnew_; clear hg_ hnew_; (first | rw [← Ny274.out] at ho108 | (simp only [Int.reduceToNat] at ho108; rw [← Ny274.out] at ho108)); have n0_ := Aside0.mk (Kd.R_elder' (by (with_reducible repeat apply Kd.R_alloc); exact HO_7.out) (Kd.R_base ho108) hb); have n1_ := Aside0.mk (Kd.R_below (by (with_reducible repeat apply Kd.R_alloc); exact HL261_0.out) hb); have n2_ := Aside0.mk (Kd.R_below (by (with_reducible repeat apply Kd.R_alloc); exact HL265_0.out) hb); have n3_ := Aside0.mk (Kd.R_below (by (with_reducible repeat apply Kd.R_alloc); exact HO273.out) hb); have n4_ := Aside0.mk (Kd.R_lower (Kd.R_new' (Kd.R_new' (Kd.R_new' (Kd.R_new' ho108 (Kd.R_lt (by (with_reducible repeat apply Kd.R_alloc); exact HO_7.out))) (Kd.R_lt (by (with_reducible repeat apply Kd.R_alloc); exact HL261_0.out))) (Kd.R_lt (by (with_reducible repeat apply Kd.R_alloc); exact HL265_0.out))) (Kd.R_lt (by (with_reducible repeat apply Kd.R_alloc); exact HO273.out))) (keep_size (w := w) (g := g) (row := none) (by repeat (first | (with_reducible first | exact HK.out | apply KeepBut.set_ | apply keep_drewN | apply keep_drew | apply keep_alloc) | exact HK.out)))); have n5_ := Aside0.mk (IsS68.below (by repeat (first | (with_reducible first | exact HI0.out | apply IsS68.alloc | apply IsS68.drewN | apply IsS68.drew | apply IsS68.set_1) | exact HI0.out)) hb); have n6_ := Aside0.mk (KeepBut.trans (by repeat (first | (with_reducible first | exact HK.out | apply KeepBut.set_ | apply keep_drewN | apply keep_drew | apply keep_alloc) | exact HK.out)) (KeepBut.of_below hb g none) (.inl rfl)); have n7_ := Aside0.mk (below_step (by repeat (first | (with_reducible first | exact HB.out | apply below_alloc | apply pw_below_drewN | apply below_drew1 | refine below_set ?_ (IsS68.ge HI0.out)) | exact HB.out)) hb); clear HO_7; clear HL261_0; clear HL265_0; clear HO273; clear HI0; clear HK; clear HB; have HO_7 := n0_; have HL261_0 := n1_; have HL265_0 := n2_; have HO273 := n3_; have HO276 := n4_; have HI0 := n5_; have HK := n6_; have HB := n7_; clear n0_ n1_ n2_ n3_ n4_ n5_ n6_ n7_; clear hb ho108; have q109 : (t207 : Int) ≤ ((x7_2.length : Int) : Int) := of_decide_eq_true (by first | (with_reducible assumption) | assumption); obtain ⟨i0109, hi0109, _, hsz109, _⟩ := info_parts info23; have hroom109 : x7_2.length ≤ co98 := (Kd.R_reads' HO_7.out).2.1; have hC109 : Kd.C (Kd.slice 41 k41) _ (some ad261) x7_2.length x7_2 := (Kd.R_reads' HO_7.out).2.2; have hcut109 := cut_to (P := Try.prog) 72 23 .i64 Try.underlying72 hi0109 (some ad261) x7_2.length co98 t207 (of_decide_eq_true (by first | (with_reducible assumption) | assumption)) q109 hroom109; have hr109 := Kd.C_take (m := (t207 : Int).toNat) hC109 (by omega); have hy109 : y277.length = (t207 : Int).toNat := (by rw [Ny277.out, List.length_take]; omega); rw [← Ny277.out] at hr109; rw [← hy109] at hcut109; have HR280 := Aside0.mk hr109; have HC280 := Aside0.mk (show y277.length ≤ co98 from by omega); clear hr109 hC109 hroom109 hi0109 hsz109; have KY109 := Aside0.mk hy109; clear hy109; have KL109 := Aside0.mk (show (t207 : Int).toNat ≤ x7_2.length from by omega); replace q109 := eq_true q109) | ((with_reducible refine gate_builtin (b := .append) (xs := #[.tmp 92, .tmp 95]) rfl ?_); at_builtin; refine Kd.R_append_rows (Kd.slice 41 k41) w.heap.size rfl (.tmp 92) (.tmp 95) 72 23 (.slice none 0 0) 24 rfl Try.underlying72 info23 rfl (by decide) (by omega) v275 y274 y277 _ _ _ (fun k_ => some k_ ≠ (.slice (some ad261) x7_2.length co98 : Value).ownBlock ∧ some k_ ≠ (v272 : Value).ownBlock) (fun k_ => ((fun k_ => some k_ ≠ (.slice (some ad261) x7_2.length co98 : Value).ownBlock ∧ some k_ ≠ (v272 : Value).ownBlock)) k_ ∧ some k_ ≠ (v275 : Value).ownBlock) rfl rfl ?aO ?aR (fun _ _ h => h) (fun _ hk => hk) ?aF (Below.refl _ _) ?aS ?aL ?_; (case aR => rw [Ny277.out]; exact Kd.C_take (m := (t207 : Int).toNat) (Kd.R_frozen (okp := (fun k_ => ((fun k_ => some k_ ≠ (.slice (some ad261) x7_2.length co98 : Value).ownBlock ∧ some k_ ≠ (v272 : Value).ownBlock)) k_ ∧ some k_ ≠ (v275 : Value).ownBlock)) (HO_7.out) (fun k_ hk => ⟨⟨hk.2, hk.1.1.2⟩, hk.1.2⟩)).2.2 KL109.out); (case aF => exact (fun k_ hk => ⟨Kd.fresh' (Kd.R_lt (by (with_reducible repeat apply Kd.R_alloc); exact HO_7.out)) k_ hk, Kd.fresh' (Kd.R_lt (by (with_reducible repeat apply Kd.R_alloc); exact HO273.out)) k_ hk⟩)); (case aO => exact (by (with_reducible repeat apply Kd.R_alloc); exact Kd.R_mono HO276.out (fun _ hk => ⟨hk.1.1.1.2, hk.2⟩))); (case aS => exact (keep_size (w := w) (g := g) (row := none) (by repeat (first | (with_reducible first | exact HK.out | apply KeepBut.set_ | apply keep_drewN | apply keep_drew | apply keep_alloc) | exact HK.out)))); (case aL => have := LMc93.out; omega); intro v282 w110 ho hb hg hat; rw [← Ny281.out] at ho; have n0_ := Aside0.mk (Kd.R_after (ok := (fun k_ => some k_ ≠ (v272 : Value).ownBlock)) (by (with_reducible repeat apply Kd.R_alloc); exact Kd.R_mono HO_7.out (fun _ hk => ⟨hk.1.2, hk.2⟩)) hg hat); have n1_ := Aside0.mk (IsS68.grown (by repeat (first | (with_reducible first | exact HI0.out | apply IsS68.alloc | apply IsS68.drewN | apply IsS68.drew | apply IsS68.set_1) | exact HI0.out)) hg (IsS68.own_ne HI0.out HO276.out (by decide))); have n2_ := Aside0.mk (Kd.R_over' (by (with_reducible repeat apply Kd.R_alloc); exact HO273.out) (Kd.R_typed (by (with_reducible repeat apply Kd.R_alloc); exact HO276.out)) (by decide) hg); have n3_ := Aside0.mk (below_weaken (by repeat (first | (with_reducible first | exact HB.out | apply below_alloc | apply pw_below_drewN | apply below_drew1 | refine below_set ?_ (IsS68.ge HI0.out)) | exact HB.out)) HL.out hb); have n4_ := Aside0.mk (KeepBut.trans (by repeat (first | (with_reducible first | exact HK.out | apply KeepBut.set_ | apply keep_drewN | apply keep_drew | apply keep_alloc) | exact HK.out)) (KeepBut.of_grown hg g) (Kd.R_base2 HO276.out)); have n5_ := Aside0.mk ((show Kd.C (Kd.slice 41 k41) w110 (some ad261) y277.length y277 from by rw [Ny277.out]; exact Kd.C_take (m := (t207 : Int).toNat) ((Kd.R_reads' (Kd.R_after (ok := (fun k_ => some k_ ≠ (v272 : Value).ownBlock)) (by (with_reducible repeat apply Kd.R_alloc); exact Kd.R_mono HO_7.out (fun _ hk => ⟨hk.1.2, hk.2⟩)) hg hat)).2.2) KL109.out)); have n6_ := Aside0.mk (ho); clear HO_7; clear HI0; clear HO273; clear HB; clear HK; clear HR280; clear HO276; have HO_7 := n0_; have HI0 := n1_; have HO273 := n2_; have HB := n3_; have HK := n4_; have HR280 := n5_; have HO283 := n6_; clear n0_ n1_ n2_ n3_ n4_ n5_ n6_; clear ho hb hg hat; obtain ⟨Ao112, co112, eo112⟩ := Kd.R_slice HO273.out; subst eo112) | ((with_reducible refine gate_builtin (b := .append) (xs := #[.tmp 97, .tmp 99]) rfl ?_); at_builtin; refine Kd.R_append (Kd.slice 41 k41) w.heap.size rfl (.tmp 97) (.tmp 99) 72 23 (.slice none 0 0) 24 rfl Try.underlying72 info23 rfl (by decide) (by omega) v282 y281 y271 [.slice Ao112 y271.length co112] (fun k_ => some k_ ≠ (.slice (some ad261) x7_2.length co98 : Value).ownBlock) (fun k_ => ((fun k_ => some k_ ≠ (.slice (some ad261) x7_2.length co98 : Value).ownBlock)) k_ ∧ some k_ ≠ (v282 : Value).ownBlock) rfl rfl ?aP (fun _ hk => hk) ?aF ?aO (Below.refl _ _) ?aS ?aL ?_; (case aP => exact Kd.M_row (Kd.R_mono (Kd.R_apart' (Kd.R_apart' (HO273.out) (Kd.R_typed HO_7.out) (by decide)) (Kd.R_typed HO283.out) (by decide)) (fun k_ hk => ⟨hk.1.2, hk.2⟩))); (case aF => exact (fun k_ hk => Kd.fresh' (Kd.R_lt (by (with_reducible repeat apply Kd.R_alloc); exact HO_7.out)) k_ hk)); (case aO => exact (by (with_reducible repeat apply Kd.R_alloc); exact Kd.R_mono HO283.out (fun _ hk => hk.1))); (case aS => exact (keep_size (w := w) (g := g) (row := none) (by repeat (first | (with_reducible first | exact HK.out | apply KeepBut.set_ | apply keep_drewN | apply keep_drew | apply keep_alloc) | exact HK.out)))); (case aL => have := LMc94.out; omega); intro v285 w111 ho hb hg hat; rw [← Ny284.out] at ho; have n0_ := Aside0.mk (Kd.R_after (ok := (fun k_ => some k_ ≠ (.slice Ao112 y271.length co112 : Value).ownBlock)) (by (with_reducible repeat apply Kd.R_alloc); exact HO_7.out) hg hat); have n1_ := Aside0.mk (IsS68.grown (by repeat (first | (with_reducible first | exact HI0.out | apply IsS68.alloc | apply IsS68.drewN | apply IsS68.drew | apply IsS68.set_1) | exact HI0.out)) hg (IsS68.own_ne HI0.out HO283.out (by decide))); have n2_ := Aside0.mk (below_weaken (by repeat (first | (with_reducible first | exact HB.out | apply below_alloc | apply pw_below_drewN | apply below_drew1 | refine below_set ?_ (IsS68.ge HI0.out)) | exact HB.out)) HL.out hb); have n3_ := Aside0.mk (KeepBut.trans (by repeat (first | (with_reducible first | exact HK.out | apply KeepBut.set_ | apply keep_drewN | apply keep_drew | apply keep_alloc) | exact HK.out)) (KeepBut.of_grown hg g) (Kd.R_base2 HO283.out)); have n4_ := Aside0.mk ((show Kd.C (Kd.slice 41 k41) w111 (some ad261) y277.length y277 from by rw [Ny277.out]; exact Kd.C_take (m := (t207 : Int).toNat) ((Kd.R_reads' (Kd.R_after (ok := (fun k_ => some k_ ≠ (.slice Ao112 y271.length co112 : Value).ownBlock)) (by (with_reducible repeat apply Kd.R_alloc); exact HO_7.out) hg hat)).2.2) KL109.out)); have n5_ := Aside0.mk (ho); clear HO_7; clear HI0; clear HB; clear HK; clear HR280; clear HO283; clear HO273; have HO_7 := n0_; have HI0 := n1_; have HB := n2_; have HK := n3_; have HR280 := n4_; have HO286 := n5_; clear n0_ n1_ n2_ n3_ n4_ n5_; clear ho hb hg hat; have q113 : ((wrap64 (t207 + 2)) : Int) ≤ ((x7_2.length : Int) : Int) := of_decide_eq_true (by first | (with_reducible assumption) | assumption); obtain ⟨i0113, hi0113, _, hsz113, _⟩ := info_parts info23; have hroom113 : x7_2.length ≤ co98 := (Kd.R_reads' HO_7.out).2.1; have hC113 : Kd.C (Kd.slice 41 k41) _ (some ad261) x7_2.length x7_2 := (Kd.R_reads' HO_7.out).2.2; have q0113 : (0 : Int) ≤ ((wrap64 (t207 + 2)) : Int) := of_decide_eq_true (by first | (with_reducible assumption) | assumption); have hcut113 := cut_from (P := Try.prog) 72 23 .i64 Try.underlying72 hi0113 1 hsz113 (some ad261) x7_2.length co98 (wrap64 (t207 + 2)) q0113 q113; have hr113 := Kd.C_drop (m := ((wrap64 (t207 + 2)) : Int).toNat) (c := co98) hC113 (by omega) hroom113; obtain ⟨A113, hA113⟩ : ∃ A1, A1 = (if co98 = ((wrap64 (t207 + 2)) : Int).toNat then (some ad261) else ((some ad261) : Option Addr).map (·.add (((wrap64 (t207 + 2)) : Int).toNat * 1))) := ⟨_, rfl⟩; obtain ⟨c113, hc113⟩ : ∃ c1, c1 = co98 - ((wrap64 (t207 + 2)) : Int).toNat := ⟨_, rfl⟩; have hy113 : y287.length = x7_2.length - ((wrap64 (t207 + 2)) : Int).toNat := (by rw [Ny287.out, List.length_drop] <;> omega); rw [show (x7_2).drop ((wrap64 (t207 + 2)) : Int).toNat = y287 from Ny287.out.symm] at hr113; replace hr113 : Kd.C (Kd.slice 41 k41) _ A113 y287.length y287 := (by rw [hA113]; exact hr113); rw [← hy113, ← hA113, ← hc113] at hcut113; have HR290 := Aside0.mk hr113; have HC290 := Aside0.mk (show y287.length ≤ c113 from by rw [hy113, hc113]; exact Nat.sub_le_sub_right hroom113 _); clear hr113 hC113 hroom113 hi0113 hsz113 hc113; have KY113 := Aside0.mk hy113; have KA113 := Aside0.mk hA113; clear hy113 hA113; have KL113 := Aside0.mk (show ((wrap64 (t207 + 2)) : Int).toNat ≤ x7_2.length from by omega); replace q113 := eq_true q113) | ((with_reducible refine gate_builtin (b := .append) (xs := #[.tmp 101, .tmp 105]) rfl ?_); at_builtin; refine Kd.R_append_rows (Kd.slice 41 k41) w.heap.size rfl (.tmp 101) (.tmp 105) 72 23 (.slice none 0 0) 24 rfl Try.underlying72 info23 rfl (by decide) (by omega) v285 y284 y287 _ _ _ (fun k_ => some k_ ≠ (.slice (some ad261) x7_2.length co98 : Value).ownBlock) (fun k_ => ((fun k_ => some k_ ≠ (.slice (some ad261) x7_2.length co98 : Value).ownBlock)) k_ ∧ some k_ ≠ (v285 : Value).ownBlock) rfl rfl ?aO ?aR (fun _ _ h => h) (fun _ hk => hk) ?aF (Below.refl _ _) ?aS ?aL ?_; (case aR => rw [Ny287.out, KA113.out]; exact Kd.C_drop (m := ((wrap64 (t207 + 2)) : Int).toNat) (c := co98) (Kd.R_frozen (okp := (fun k_ => ((fun k_ => some k_ ≠ (.slice (some ad261) x7_2.length co98 : Value).ownBlock)) k_ ∧ some k_ ≠ (v285 : Value).ownBlock)) (HO_7.out) (fun k_ hk => ⟨hk.2, hk.1.2⟩)).2.2 KL113.out (Kd.R_frozen (okp := (fun k_ => ((fun k_ => some k_ ≠ (.slice (some ad261) x7_2.length co98 : Value).ownBlock)) k_ ∧ some k_ ≠ (v285 : Value).ownBlock)) (HO_7.out) (fun k_ hk => ⟨hk.2, hk.1.2⟩)).2.1); (case aF => exact (fun k_ hk => Kd.fresh' (Kd.R_lt (by (with_reducible repeat apply Kd.R_alloc); exact HO_7.out)) k_ hk)); (case aO => exact (by (with_reducible repeat apply Kd.R_alloc); exact HO286.out)); (case aS => exact (keep_size (w := w) (g := g) (row := none) (by repeat (first | (with_reducible first | exact HK.out | apply KeepBut.set_ | apply keep_drewN | apply keep_drew | apply keep_alloc) | exact HK.out)))); (case aL => have := LMc97.out; omega); intro v292 w114 ho hb hg hat; rw [← Ny291.out] at ho; have n0_ := Aside0.mk (Kd.R_after (ok := (fun _ => True)) (by (with_reducible repeat apply Kd.R_alloc); exact Kd.R_mono HO_7.out (fun _ hk => ⟨trivial, hk.2⟩)) hg hat); have n1_ := Aside0.mk (IsS68.grown (by repeat (first | (with_reducible first | exact HI0.out | apply IsS68.alloc | apply IsS68.drewN | apply IsS68.drew | apply IsS68.set_1) | exact HI0.out)) hg (IsS68.own_ne HI0.out HO286.out (by decide))); have n2_ := Aside0.mk (below_weaken (by repeat (first | (with_reducible first | exact HB.out | apply below_alloc | apply pw_below_drewN | apply below_drew1 | refine below_set ?_ (IsS68.ge HI0.out)) | exact HB.out)) HL.out hb); have n3_ := Aside0.mk (KeepBut.trans (by repeat (first | (with_reducible first | exact HK.out | apply KeepBut.set_ | apply keep_drewN | apply keep_drew | apply keep_alloc) | exact HK.out)) (KeepBut.of_grown hg g) (Kd.R_base2 HO286.out)); have n4_ := Aside0.mk ((show Kd.C (Kd.slice 41 k41) w114 (some ad261) y277.length y277 from by rw [Ny277.out]; exact Kd.C_take (m := (t207 : Int).toNat) ((Kd.R_reads' (Kd.R_after (ok := (fun _ => True)) (by (with_reducible repeat apply Kd.R_alloc); exact Kd.R_mono HO_7.out (fun _ hk => ⟨trivial, hk.2⟩)) hg hat)).2.2) KL109.out)); have n5_ := Aside0.mk ((show Kd.C (Kd.slice 41 k41) w114 A113 y287.length y287 from by rw [Ny287.out, KA113.out]; exact Kd.C_drop (m := ((wrap64 (t207 + 2)) : Int).toNat) (c := co98) ((Kd.R_reads' (Kd.R_after (ok := (fun _ => True)) (by (with_reducible repeat apply Kd.R_alloc); exact Kd.R_mono HO_7.out (fun _ hk => ⟨trivial, hk.2⟩)) hg hat)).2.2) KL113.out ((Kd.R_reads' (Kd.R_after (ok := (fun _ => True)) (by (with_reducible repeat apply Kd.R_alloc); exact Kd.R_mono HO_7.out (fun _ hk => ⟨trivial, hk.2⟩)) hg hat)).2.1))); have n6_ := Aside0.mk (ho); clear HO_7; clear HI0; clear HB; clear HK; clear HR280; clear HR290; clear HO286; have HO_7 := n0_; have HI0 := n1_; have HB := n2_; have HK := n3_; have HR280 := n4_; have HR290 := n5_; have HO293 := n6_; clear n0_ n1_ n2_ n3_ n4_ n5_ n6_; clear ho hb hg hat))
                     go_roundg k2
                     case measure => have := HK1.out; have := HK2.out; omega
                     case rel => exact ⟨(y291), (x9_2), (t270), (by first | rfl | (simp; done) | (simp [*]; done)), H', ⟨by have := HK1.out; have := HK2.out; omega⟩, ⟨by (with_reducible repeat apply Kd.R_alloc); exact Kd.R_mono HO293.out (fun _ hk => trivial)⟩, ⟨by repeat (first | (with_reducible first | exact HI0.out | apply IsS68.alloc | apply IsS68.drewN | apply IsS68.drew | apply IsS68.set_1) | exact HI0.out)⟩, ⟨by repeat (first | (with_reducible first | exact HK.out | apply KeepBut.set_ | apply keep_drewN | apply keep_drew | apply keep_alloc) | exact HK.out)⟩, ⟨by repeat (first | (with_reducible first | exact HB.out | apply below_alloc | apply pw_below_drewN | apply below_drew1 | refine below_set ?_ (IsS68.ge HI0.out)) | exact HB.out)⟩⟩
                    ·rw [if_neg c97] at H
                     exact absurd H (by simp)
                   ·rw [if_neg c96] at H
                    exact absurd H (by simp)
                  ·rw [if_neg c95] at H
                   exact absurd H (by simp)
                 ·rw [if_neg c94] at H
                  exact absurd H (by simp)
                ·rw [if_neg c93] at H
                 exact absurd H (by simp)
               ·rw [if_neg c92] at H
                exact absurd H (by simp)
              ·rw [if_neg c90] at H
               exact absurd H (by simp)
             ·rw [if_neg c88] at H
              exact absurd H (by simp)
            ·rw [if_neg c87] at H
             exact absurd H (by simp)
           ·rw [if_neg c86] at H
            exact absurd H (by simp)
          ·rw [if_neg c84] at H
           exact absurd H (by simp)
         ·rw [if_neg c83] at H
          exact absurd H (by simp)
        ·rw [if_neg c82] at H
         exact absurd H (by simp)
      ·rw [if_neg c29] at H
       have c29b0 : decide (1 < (x7_2.length : Int)) = false := decide_eq_false c29
       have c29b1 : decide (1 < x7_2.length) = false := decide_eq_false (by omega)
       clear c29
       by_cases c115 : 0 < (x7_2.length : Int)
       ·rw [if_pos c115] at H
        have c115b0 : decide (0 < (x7_2.length : Int)) = true := decide_eq_true c115
        have c115b1 : decide (0 < x7_2.length) = true := decide_eq_true (by omega)
        clear c115
        replace H := Option.bind_eq_some_iff.mp H
        obtain ⟨⟨t295, t296⟩, A1160, H⟩ := H
        replace H : (if t295 = 0 then (if (rd_L3 x7_2 0).length < 8796093022208 then (spec_l20Term.j2 k2 a2 ((rd_L3 x7_2 0) ++ [(⟨2, 0⟩ : S41)]) s0_0 t296) else (none)) else (spec_l20Term.j2 k2 a2 (rd_L3 x7_2 0) s0_0 t296)) = some (r1, r2) := H
        have A116 := Aside0.mk A1160
        clear A1160
        have HC117 := Aside0.mk H
        clear H
        obtain ⟨Ao118, co118, eo118⟩ := Kd.R_slice HO_7.out
        subst eo118
        have p294 : 0 ≤ (0 : Int) := (by omega)
        have q294 : 0 < (x7_2.length : Int) := of_decide_eq_true (by first | (with_reducible assumption) | assumption)
        obtain ⟨ad294, A294_0, c294_0, e294, hx294_0, hl294_0, hi294_0⟩ := at_L3 (Kd.R_reads' HO_7.out).2.2 0 p294 q294
        cases e294
        obtain ⟨ce294, hce294, hMe294, hcc294⟩ := Kd.R_get HO_7.out [] 0 p294 (by first | exact q294 | exact of_decide_eq_true (by first | (with_reducible assumption) | assumption) | (have e_ := (Kd.R_reads' HO_7.out).1; omega))
        obtain ⟨ve294_0, rfl, ge294_0⟩ := hMe294
        have hv294_0 := hcc294 0 _ rfl
        rw [Nat.add_zero, show ((Kd.slice 41 k41)).sz = 1 from rfl, Nat.mul_one] at hv294_0
        replace hv294_0 := Option.some.inj (hv294_0.symm.trans hx294_0)
        rw [hv294_0] at ge294_0
        have HL294_0 := Aside0.mk (show Kd.R k41 41 _ _ _ _ (rd_L3 x7_2 0) from ge294_0)
        clear hv294_0 ge294_0
        clear hcc294 hce294
        have qi294 : (0 < x7_2.length) = True := eq_true (by omega)
        (try rw [show ((0 : Int)).toNat = 0 from rfl] at hx294_0)
        (try rw [Addr.add_zero'] at hx294_0)
        have HR294_0 := Aside0.mk hi294_0
        have HC294_0 := Aside0.mk hl294_0
        clear hi294_0 hl294_0
        replace p294 := eq_true p294
        replace q294 := eq_true q294
        replace HL294_0 := Aside0.mk (show Kd.R k41 41 _ _ (fun _ => True) _ (rd_L3 x7_2 0) from Kd.R_mono HL294_0.out (fun _ hk => trivial))
        go_upto_if 112 with (first | ((with_reducible refine gate_callee (f := 64) rfl ?_); refine goesL_ (some 111) rfl rfl Try.func64 (by kernel_rfl) rfl #[.pointer (some ⟨g, 0, none⟩), .int .i64 5] rfl (by (try simp only [List.map_toArray, List.map_cons, List.map_nil]); first | done | rfl | (simp only [List.length_drop, List.length_take]; rfl)) ?_; (with_reducible refine (spec_l20Rd_pick.calls k2 g s0_0 x1001_2 5 t295 t296 w0 _ ?side1 ?side2 A116.out).mono ?_); (case side1 => repeat (first | (with_reducible first | exact HI0.out | apply IsS68.alloc | apply IsS68.drewN | apply IsS68.drew | apply IsS68.set_1) | exact HI0.out)); (case side2 => repeat (first | (with_reducible first | exact HB.out | apply below_alloc | apply pw_below_drewN | apply below_drew1 | refine below_set ?_ (IsS68.ge HI0.out)) | exact HB.out)); rintro e w119 ⟨rfl, hi, hb, hk⟩; refine ⟨_, rfl, ?_⟩; have n0_ := Aside0.mk (Kd.R_mono (Kd.R_keep (IsS68.apart (show IsS68 w0 _ g s0_0 x1001_2 from by repeat (first | (with_reducible first | exact HI0.out | apply IsS68.alloc | apply IsS68.drewN | apply IsS68.drew | apply IsS68.set_1) | exact HI0.out)) (by (with_reducible repeat apply Kd.R_alloc); exact HL294_0.out) (by decide)) hk (fun _ h => h.2)) (fun _ h => h.1)); have n1_ := Aside0.mk (KeepBut.trans (by repeat (first | (with_reducible first | exact HK.out | apply KeepBut.set_ | apply keep_drewN | apply keep_drew | apply keep_alloc) | exact HK.out)) hk (.inl rfl)); have n2_ := Aside0.mk (hb); have n3_ := Aside0.mk (hi); clear HL294_0; clear HK; clear HB; clear HI0; have HL294_0 := n0_; have HK := n1_; have HB := n2_; have HI0 := n3_; clear n0_ n1_ n2_ n3_; (try clear hb); (try clear hb2); (try clear hk); (try clear hi)))
        (try simp only [Act.put, List.setIfInBounds_toArray, List.set_cons_zero, List.set_cons_succ])
        go_cut [13] (fun v13 wc => ∃ (kq : Nat) (x13_116 : List (S41)), Aside0 (spec_l20Term.j2 kq a2 x13_116 s0_0 t296 = some (r1, r2)) ∧ Aside0 (kq ≤ k2) ∧ Aside0 (Kd.R k41 41 wc w.heap.size (fun _ => True) v13 x13_116) ∧ Aside0 (IsS68 w0 wc g s0_0 t296) ∧ Aside0 (KeepBut w wc g none) ∧ Aside0 (Below w0.heap.size w0 wc))
        case first =>
         have H := HC117.out
         clear HC117
         by_cases c120 : t295 = 0
         ·rw [if_pos c120] at H
          have c120b0 : (t295 == 0) = true := beq_iff_eq.mpr c120
          have c120b1 : (t295 != 0) = false := bne_eq_false_iff_eq.mpr c120
          clear c120
          (first | rw [c120b0] | (simp only [i64_w, i32_w]; rw [c120b0]) | skip)
          by_cases c121 : (rd_L3 x7_2 0).length < 8796093022208
          ·rw [if_pos c121] at H
           have LMc121 := Aside0.mk c121
           clear c121
           obtain ⟨y297, hy297⟩ : ∃ y_ : List (S41), y_ = ((rd_L3 x7_2 0) ++ [(⟨2, 0⟩ : S41)]) := ⟨_, rfl⟩
           replace H : (spec_l20Term.j2 k2 a2 y297 s0_0 t296) = some (r1, r2) := by first | (rw [hy297]; with_reducible exact H) | (have H2_ := (Option.bind_some _ _).symm.trans H; rw [hy297]; with_reducible exact H2_) | (have H2_ := (Option.bind_some _ _).symm.trans H; with_reducible exact H2_) | with_reducible exact H | (rw [hy297]; exact H) | exact H
           have Ny297 := Aside0.mk hy297
           clear hy297
           have H' := Aside0.mk H
           clear H
           go_wp2_with (first | ((with_reducible refine gate_builtin (b := .append) (xs := #[.tmp 113, .tmp 115]) rfl ?_); at_builtin; refine Kd.R_append k41 w.heap.size rfl (.tmp 113) (.tmp 115) 23 41 (.agg #[(.int .i64 0), (.int .i64 0)]) 16 rfl Try.underlying23 info41 rfl (by decide) (by omega) (.slice A294_0 (rd_L3 x7_2 0).length c294_0) (rd_L3 x7_2 0) (⟨2, 0⟩ : S41) [.int .i64 2, .int .i64 0] (fun _ => True) (fun _ => False) rfl rfl ?aP (fun _ hk => hk.elim) ?aF ?aO (Below.refl _ _) ?aS ?aL ?_; (case aP => exact k41_mkM _ _ _ (⟨2, 0⟩ : S41)); (case aF => exact (fun _ _ => trivial)); (case aO => exact (by (with_reducible repeat apply Kd.R_alloc); exact HL294_0.out)); (case aS => exact (keep_size (w := w) (g := g) (row := none) (by repeat (first | (with_reducible first | exact HK.out | apply KeepBut.set_ | apply keep_drewN | apply keep_drew | apply keep_alloc) | exact HK.out)))); (case aL => have := LMc121.out; omega); intro v298 w122 ho hb hg hat; rw [← Ny297.out] at ho; have n0_ := Aside0.mk (IsS68.grown (by repeat (first | (with_reducible first | exact HI0.out | apply IsS68.alloc | apply IsS68.drewN | apply IsS68.drew | apply IsS68.set_1) | exact HI0.out)) hg (IsS68.own_ne HI0.out HL294_0.out (by decide))); have n1_ := Aside0.mk (below_weaken (by repeat (first | (with_reducible first | exact HB.out | apply below_alloc | apply pw_below_drewN | apply below_drew1 | refine below_set ?_ (IsS68.ge HI0.out)) | exact HB.out)) HL.out hb); have n2_ := Aside0.mk (KeepBut.trans (by repeat (first | (with_reducible first | exact HK.out | apply KeepBut.set_ | apply keep_drewN | apply keep_drew | apply keep_alloc) | exact HK.out)) (KeepBut.of_grown hg g) (Kd.R_base2 HL294_0.out)); have n3_ := Aside0.mk (ho); clear HI0; clear HB; clear HK; clear HL294_0; have HI0 := n0_; have HB := n1_; have HK := n2_; have HO299 := n3_; clear n0_ n1_ n2_ n3_; clear ho hb hg hat))
           go_meet
           case rel => exact ⟨_, (y297), H', ⟨by have := HK1.out; have := HK2.out; first | omega | exact Nat.le_refl _⟩, ⟨by (with_reducible repeat apply Kd.R_alloc); exact HO299.out⟩, ⟨by repeat (first | (with_reducible first | exact HI0.out | apply IsS68.alloc | apply IsS68.drewN | apply IsS68.drew | apply IsS68.set_1) | exact HI0.out)⟩, ⟨by repeat (first | (with_reducible first | exact HK.out | apply KeepBut.set_ | apply keep_drewN | apply keep_drew | apply keep_alloc) | exact HK.out)⟩, ⟨by repeat (first | (with_reducible first | exact HB.out | apply below_alloc | apply pw_below_drewN | apply below_drew1 | refine below_set ?_ (IsS68.ge HI0.out)) | exact HB.out)⟩⟩
          ·rw [if_neg c121] at H
           exact absurd H (by simp)
         ·rw [if_neg c120] at H
          have c120b0 : (t295 == 0) = false := beq_eq_false_iff_ne.mpr c120
          have c120b1 : (t295 != 0) = true := bne_iff_ne.mpr c120
          (first | rw [c120b0] | (simp only [i64_w, i32_w]; rw [c120b0]) | skip)
          have H' := Aside0.mk H
          clear H
          go_wp2
          go_meet
          case rel => exact ⟨_, (rd_L3 x7_2 0), H', ⟨by have := HK1.out; have := HK2.out; first | omega | exact Nat.le_refl _⟩, ⟨by (with_reducible repeat apply Kd.R_alloc); exact HL294_0.out⟩, ⟨by repeat (first | (with_reducible first | exact HI0.out | apply IsS68.alloc | apply IsS68.drewN | apply IsS68.drew | apply IsS68.set_1) | exact HI0.out)⟩, ⟨by repeat (first | (with_reducible first | exact HK.out | apply KeepBut.set_ | apply keep_drewN | apply keep_drew | apply keep_alloc) | exact HK.out)⟩, ⟨by repeat (first | (with_reducible first | exact HB.out | apply below_alloc | apply pw_below_drewN | apply below_drew1 | refine below_set ?_ (IsS68.ge HI0.out)) | exact HB.out)⟩⟩
        case rest =>
         clear HC117
         try clear c1
         try clear q1
         try clear c2
         try clear p2
         try clear q2
         try clear hx2
         try clear qi2
         try clear c3
         try clear c4
         try clear c6
         try clear p6
         try clear c8
         try clear c9
         try clear q10
         try clear c11
         try clear q11
         try clear c12
         try clear c26
         try clear p26
         try clear q26
         try clear hx26
         try clear c29
         try clear c29b0
         try clear c29b1
         try clear p29
         try clear q29
         try clear hx29
         try clear qi29
         try clear c31
         try clear c31b0
         try clear c48
         try clear c49
         try clear c64
         try clear p64
         try clear c82
         try clear c82b0
         try clear c83
         try clear c83b0
         try clear c84
         try clear c86
         try clear c86b0
         try clear c87
         try clear c87b0
         try clear c88
         try clear c90
         try clear c91
         try clear c91b0
         try clear c92
         try clear c92b0
         try clear c92b1
         try clear c93
         try clear c94
         try clear c95
         try clear c95b0
         try clear c95b1
         try clear c96
         try clear c96b0
         try clear c96b1
         try clear c97
         try clear q109
         try clear c113
         try clear q113
         try clear c115
         try clear c115b0
         try clear c115b1
         try clear c120
         try clear c120b0
         try clear c120b1
         try clear c121
         try clear hx261_0
         try clear hx265_0
         try clear hx294_0
         try clear p261
         try clear p265
         try clear p294
         try clear q0113
         try clear q109
         try clear q113
         try clear q261
         try clear q265
         try clear q294
         obtain ⟨kq, x13_116, HA, HJ116, HO_13, HI0, HK, HB⟩ := hcut
         cases kq with
         | zero => exact absurd HA.out (by simp [spec_l20Term.j2])
         | succ kj116 =>
          have H := HA.out
          clear HA
          simp only [spec_l20Term.j2] at H
          replace H := Option.bind_eq_some_iff.mp H
          obtain ⟨⟨t300, t301⟩, A1230, H⟩ := H
          replace H : (if t300 = true then ((spec_l20Rd_pick.f kj116 s0_0 t301 3).bind fun bt302 => (if bt302.1 = 0 then (some ((([] : List (S41))), bt302.2)) else (if bt302.1 = 1 then (if x13_116.length < 8796093022208 then (some ((x13_116 ++ [(⟨5, 0⟩ : S41)]), bt302.2)) else (none)) else ((spec_l20Rd_pick.f kj116 s0_0 bt302.2 2).bind fun bt310 => (if 0 < (x13_116.length : Int) then (some ((x13_116.set (0 : Int).toNat (⟨bt310.1, 6⟩ : S41)), bt310.2)) else (none)))))) else (some (x13_116, t301))) = some (r1, r2) := H
          have A123 := Aside0.mk A1230
          clear A1230
          by_cases c124 : t300 = true
          ·subst c124
           have H1 : ((spec_l20Rd_pick.f kj116 s0_0 t301 3).bind fun bt302 => (if bt302.1 = 0 then (some ((([] : List (S41))), bt302.2)) else (if bt302.1 = 1 then (if x13_116.length < 8796093022208 then (some ((x13_116 ++ [(⟨5, 0⟩ : S41)]), bt302.2)) else (none)) else ((spec_l20Rd_pick.f kj116 s0_0 bt302.2 2).bind fun bt310 => (if 0 < (x13_116.length : Int) then (some ((x13_116.set (0 : Int).toNat (⟨bt310.1, 6⟩ : S41)), bt310.2)) else (none)))))) = some (r1, r2) := by rw [if_pos rfl] at H; exact H
           clear H
           have H := H1
           clear H1
           replace H := Option.bind_eq_some_iff.mp H
           obtain ⟨⟨t302, t303⟩, A1250, H⟩ := H
           replace H : (if t302 = 0 then (some ((([] : List (S41))), t303)) else (if t302 = 1 then (if x13_116.length < 8796093022208 then (some ((x13_116 ++ [(⟨5, 0⟩ : S41)]), t303)) else (none)) else ((spec_l20Rd_pick.f kj116 s0_0 t303 2).bind fun bt310 => (if 0 < (x13_116.length : Int) then (some ((x13_116.set (0 : Int).toNat (⟨bt310.1, 6⟩ : S41)), bt310.2)) else (none))))) = some (r1, r2) := H
           have A125 := Aside0.mk A1250
           clear A1250
           by_cases c126 : t302 = 0
           ·rw [if_pos c126] at H
            have c126b0 : (t302 == 0) = true := beq_iff_eq.mpr c126
            have c126b1 : (t302 != 0) = false := bne_eq_false_iff_eq.mpr c126
            clear c126
            obtain ⟨y304, hy304⟩ : ∃ y_ : List (S41), y_ = (([] : List (S41))) := ⟨_, rfl⟩
            replace H : (some (y304, t303)) = some (r1, r2) := by first | (rw [hy304]; with_reducible exact H) | (have H2_ := (Option.bind_some _ _).symm.trans H; rw [hy304]; with_reducible exact H2_) | (have H2_ := (Option.bind_some _ _).symm.trans H; with_reducible exact H2_) | with_reducible exact H | (rw [hy304]; exact H) | exact H
            have Ny304 := Aside0.mk hy304
            clear hy304
            simp only [Option.some.injEq, Prod.mk.injEq] at H
            obtain ⟨rfl, rfl⟩ := H
            go_wp2_with (first | ((with_reducible refine gate_callee (f := 69) rfl ?_); refine goesL_ (some 119) rfl rfl Try.func69 (by kernel_rfl) rfl #[.pointer (some ⟨g, 0, none⟩), .int .i64 a2] rfl (by (try simp only [List.map_toArray, List.map_cons, List.map_nil]); first | done | rfl | (simp only [List.length_drop, List.length_take]; rfl)) ?_; (with_reducible refine (spec_l20Rd_odd.calls kj116 g s0_0 t296 a2 true t301 w0 _ ?side1 ?side2 A123.out).mono ?_); (case side1 => repeat (first | (with_reducible first | exact HI0.out | apply IsS68.alloc | apply IsS68.drewN | apply IsS68.drew | apply IsS68.set_1) | exact HI0.out)); (case side2 => repeat (first | (with_reducible first | exact HB.out | apply below_alloc | apply pw_below_drewN | apply below_drew1 | refine below_set ?_ (IsS68.ge HI0.out)) | exact HB.out)); rintro e w127 ⟨rfl, hi, hb, hk⟩; refine ⟨_, rfl, ?_⟩; have n0_ := Aside0.mk (Kd.R_mono (Kd.R_keep (IsS68.apart (show IsS68 w0 _ g s0_0 t296 from by repeat (first | (with_reducible first | exact HI0.out | apply IsS68.alloc | apply IsS68.drewN | apply IsS68.drew | apply IsS68.set_1) | exact HI0.out)) (by (with_reducible repeat apply Kd.R_alloc); exact HO_13.out) (by decide)) hk (fun _ h => h.2)) (fun _ h => h.1)); have n1_ := Aside0.mk (KeepBut.trans (by repeat (first | (with_reducible first | exact HK.out | apply KeepBut.set_ | apply keep_drewN | apply keep_drew | apply keep_alloc) | exact HK.out)) hk (.inl rfl)); have n2_ := Aside0.mk (hb); have n3_ := Aside0.mk (hi); clear HO_13; clear HK; clear HB; clear HI0; have HO_13 := n0_; have HK := n1_; have HB := n2_; have HI0 := n3_; clear n0_ n1_ n2_ n3_; (try clear hb); (try clear hb2); (try clear hk); (try clear hi)) | ((with_reducible refine gate_callee (f := 64) rfl ?_); refine goesL_ (some 121) rfl rfl Try.func64 (by kernel_rfl) rfl #[.pointer (some ⟨g, 0, none⟩), .int .i64 3] rfl (by (try simp only [List.map_toArray, List.map_cons, List.map_nil]); first | done | rfl | (simp only [List.length_drop, List.length_take]; rfl)) ?_; (with_reducible refine (spec_l20Rd_pick.calls kj116 g s0_0 t301 3 t302 t303 w0 _ ?side1 ?side2 A125.out).mono ?_); (case side1 => repeat (first | (with_reducible first | exact HI0.out | apply IsS68.alloc | apply IsS68.drewN | apply IsS68.drew | apply IsS68.set_1) | exact HI0.out)); (case side2 => repeat (first | (with_reducible first | exact HB.out | apply below_alloc | apply pw_below_drewN | apply below_drew1 | refine below_set ?_ (IsS68.ge HI0.out)) | exact HB.out)); rintro e w128 ⟨rfl, hi, hb, hk⟩; refine ⟨_, rfl, ?_⟩; have n0_ := Aside0.mk (Kd.R_mono (Kd.R_keep (IsS68.apart (show IsS68 w0 _ g s0_0 t301 from by repeat (first | (with_reducible first | exact HI0.out | apply IsS68.alloc | apply IsS68.drewN | apply IsS68.drew | apply IsS68.set_1) | exact HI0.out)) (by (with_reducible repeat apply Kd.R_alloc); exact HO_13.out) (by decide)) hk (fun _ h => h.2)) (fun _ h => h.1)); have n1_ := Aside0.mk (KeepBut.trans (by repeat (first | (with_reducible first | exact HK.out | apply KeepBut.set_ | apply keep_drewN | apply keep_drew | apply keep_alloc) | exact HK.out)) hk (.inl rfl)); have n2_ := Aside0.mk (hb); have n3_ := Aside0.mk (hi); clear HO_13; clear HK; clear HB; clear HI0; have HO_13 := n0_; have HK := n1_; have HB := n2_; have HI0 := n3_; clear n0_ n1_ n2_ n3_; (try clear hb); (try clear hb2); (try clear hk); (try clear hi)) | ((with_reducible refine gate_dst (N := 129) rfl ?_); refine Kd.R_lit k41 _ 41 ?hg (N := 129) ?hd (xs := ([] : List (S41))) (inner := []) (ok := fun _ => True) (okp := fun _ => True) ?hr ?hp (fun _ hk => hk) trivial (Below.refl _ _) (Nat.le_refl _) (by simp) ?_; (case hd => rfl); (case hg => rfl); (case hr => first | (go_simp; done) | (go_simp; rfl)); (case hp => exact (Reps.none _ _)); intro v305 w129 ho130 hb hg_ hnew_; clear hg_ hnew_; (first | rw [← Ny304.out] at ho130 | (simp only [Int.reduceToNat] at ho130; rw [← Ny304.out] at ho130)); have n0_ := Aside0.mk (Kd.R_elder' (by (with_reducible repeat apply Kd.R_alloc); exact HO_13.out) (Kd.R_base ho130) hb); have n1_ := Aside0.mk (Kd.R_lower (Kd.R_new' ho130 (Kd.R_lt (by (with_reducible repeat apply Kd.R_alloc); exact HO_13.out))) (keep_size (w := w) (g := g) (row := none) (by repeat (first | (with_reducible first | exact HK.out | apply KeepBut.set_ | apply keep_drewN | apply keep_drew | apply keep_alloc) | exact HK.out)))); have n2_ := Aside0.mk (IsS68.below (by repeat (first | (with_reducible first | exact HI0.out | apply IsS68.alloc | apply IsS68.drewN | apply IsS68.drew | apply IsS68.set_1) | exact HI0.out)) hb); have n3_ := Aside0.mk (KeepBut.trans (by repeat (first | (with_reducible first | exact HK.out | apply KeepBut.set_ | apply keep_drewN | apply keep_drew | apply keep_alloc) | exact HK.out)) (KeepBut.of_below hb g none) (.inl rfl)); have n4_ := Aside0.mk (below_step (by repeat (first | (with_reducible first | exact HB.out | apply below_alloc | apply pw_below_drewN | apply below_drew1 | refine below_set ?_ (IsS68.ge HI0.out)) | exact HB.out)) hb); clear HO_13; clear HI0; clear HK; clear HB; have HO_13 := n0_; have HO306 := n1_; have HI0 := n2_; have HK := n3_; have HB := n4_; clear n0_ n1_ n2_ n3_ n4_; clear hb ho130))
            go_ret
            exact ⟨_, by first | rfl | (simp [errW_none, errW_some] <;> rfl) | (simp only [← hji4, ← hji5]; first | rfl | (simp [errW_none, errW_some] <;> rfl)) | (simp [*, errW_none, errW_some] <;> rfl), by (with_reducible repeat apply Kd.R_alloc); exact Kd.R_mono HO306.out (fun _ hk => trivial), by repeat (first | (with_reducible first | exact HI0.out | apply IsS68.alloc | apply IsS68.drewN | apply IsS68.drew | apply IsS68.set_1) | exact HI0.out), by repeat (first | (with_reducible first | exact HB.out | apply below_alloc | apply pw_below_drewN | apply below_drew1 | refine below_set ?_ (IsS68.ge HI0.out)) | exact HB.out), by repeat (first | (with_reducible first | exact HK.out | apply KeepBut.set_ | apply keep_drewN | apply keep_drew | apply keep_alloc) | exact HK.out)⟩
           ·rw [if_neg c126] at H
            have c126b0 : (t302 == 0) = false := beq_eq_false_iff_ne.mpr c126
            have c126b1 : (t302 != 0) = true := bne_iff_ne.mpr c126
            by_cases c131 : t302 = 1
            ·rw [if_pos c131] at H
             have c131b0 : (t302 == 1) = true := beq_iff_eq.mpr c131
             have c131b1 : (t302 != 1) = false := bne_eq_false_iff_eq.mpr c131
             clear c131
             by_cases c132 : x13_116.length < 8796093022208
             ·rw [if_pos c132] at H
              have LMc132 := Aside0.mk c132
              clear c132
              obtain ⟨y307, hy307⟩ : ∃ y_ : List (S41), y_ = (x13_116 ++ [(⟨5, 0⟩ : S41)]) := ⟨_, rfl⟩
              replace H : (some (y307, t303)) = some (r1, r2) := by first | (rw [hy307]; with_reducible exact H) | (have H2_ := (Option.bind_some _ _).symm.trans H; rw [hy307]; with_reducible exact H2_) | (have H2_ := (Option.bind_some _ _).symm.trans H; with_reducible exact H2_) | with_reducible exact H | (rw [hy307]; exact H) | exact H
              have Ny307 := Aside0.mk hy307
              clear hy307
              simp only [Option.some.injEq, Prod.mk.injEq] at H
              obtain ⟨rfl, rfl⟩ := H
              go_wp2_with (first | ((with_reducible refine gate_callee (f := 69) rfl ?_); refine goesL_ (some 119) rfl rfl Try.func69 (by kernel_rfl) rfl #[.pointer (some ⟨g, 0, none⟩), .int .i64 a2] rfl (by (try simp only [List.map_toArray, List.map_cons, List.map_nil]); first | done | rfl | (simp only [List.length_drop, List.length_take]; rfl)) ?_; (with_reducible refine (spec_l20Rd_odd.calls kj116 g s0_0 t296 a2 true t301 w0 _ ?side1 ?side2 A123.out).mono ?_); (case side1 => repeat (first | (with_reducible first | exact HI0.out | apply IsS68.alloc | apply IsS68.drewN | apply IsS68.drew | apply IsS68.set_1) | exact HI0.out)); (case side2 => repeat (first | (with_reducible first | exact HB.out | apply below_alloc | apply pw_below_drewN | apply below_drew1 | refine below_set ?_ (IsS68.ge HI0.out)) | exact HB.out)); rintro e w133 ⟨rfl, hi, hb, hk⟩; refine ⟨_, rfl, ?_⟩; have n0_ := Aside0.mk (Kd.R_mono (Kd.R_keep (IsS68.apart (show IsS68 w0 _ g s0_0 t296 from by repeat (first | (with_reducible first | exact HI0.out | apply IsS68.alloc | apply IsS68.drewN | apply IsS68.drew | apply IsS68.set_1) | exact HI0.out)) (by (with_reducible repeat apply Kd.R_alloc); exact HO_13.out) (by decide)) hk (fun _ h => h.2)) (fun _ h => h.1)); have n1_ := Aside0.mk (KeepBut.trans (by repeat (first | (with_reducible first | exact HK.out | apply KeepBut.set_ | apply keep_drewN | apply keep_drew | apply keep_alloc) | exact HK.out)) hk (.inl rfl)); have n2_ := Aside0.mk (hb); have n3_ := Aside0.mk (hi); clear HO_13; clear HK; clear HB; clear HI0; have HO_13 := n0_; have HK := n1_; have HB := n2_; have HI0 := n3_; clear n0_ n1_ n2_ n3_; (try clear hb); (try clear hb2); (try clear hk); (try clear hi)) | ((with_reducible refine gate_callee (f := 64) rfl ?_); refine goesL_ (some 121) rfl rfl Try.func64 (by kernel_rfl) rfl #[.pointer (some ⟨g, 0, none⟩), .int .i64 3] rfl (by (try simp only [List.map_toArray, List.map_cons, List.map_nil]); first | done | rfl | (simp only [List.length_drop, List.length_take]; rfl)) ?_; (with_reducible refine (spec_l20Rd_pick.calls kj116 g s0_0 t301 3 t302 t303 w0 _ ?side1 ?side2 A125.out).mono ?_); (case side1 => repeat (first | (with_reducible first | exact HI0.out | apply IsS68.alloc | apply IsS68.drewN | apply IsS68.drew | apply IsS68.set_1) | exact HI0.out)); (case side2 => repeat (first | (with_reducible first | exact HB.out | apply below_alloc | apply pw_below_drewN | apply below_drew1 | refine below_set ?_ (IsS68.ge HI0.out)) | exact HB.out)); rintro e w134 ⟨rfl, hi, hb, hk⟩; refine ⟨_, rfl, ?_⟩; have n0_ := Aside0.mk (Kd.R_mono (Kd.R_keep (IsS68.apart (show IsS68 w0 _ g s0_0 t301 from by repeat (first | (with_reducible first | exact HI0.out | apply IsS68.alloc | apply IsS68.drewN | apply IsS68.drew | apply IsS68.set_1) | exact HI0.out)) (by (with_reducible repeat apply Kd.R_alloc); exact HO_13.out) (by decide)) hk (fun _ h => h.2)) (fun _ h => h.1)); have n1_ := Aside0.mk (KeepBut.trans (by repeat (first | (with_reducible first | exact HK.out | apply KeepBut.set_ | apply keep_drewN | apply keep_drew | apply keep_alloc) | exact HK.out)) hk (.inl rfl)); have n2_ := Aside0.mk (hb); have n3_ := Aside0.mk (hi); clear HO_13; clear HK; clear HB; clear HI0; have HO_13 := n0_; have HK := n1_; have HB := n2_; have HI0 := n3_; clear n0_ n1_ n2_ n3_; (try clear hb); (try clear hb2); (try clear hk); (try clear hi)) | ((with_reducible refine gate_builtin (b := .append) (xs := #[.tmp 132, .tmp 134]) rfl ?_); at_builtin; refine Kd.R_append k41 w.heap.size rfl (.tmp 132) (.tmp 134) 23 41 (.agg #[(.int .i64 0), (.int .i64 0)]) 16 rfl Try.underlying23 info41 rfl (by decide) (by omega) u13 x13_116 (⟨5, 0⟩ : S41) [.int .i64 5, .int .i64 0] (fun _ => True) (fun _ => False) rfl rfl ?aP (fun _ hk => hk.elim) ?aF ?aO (Below.refl _ _) ?aS ?aL ?_; (case aP => exact k41_mkM _ _ _ (⟨5, 0⟩ : S41)); (case aF => exact (fun _ _ => trivial)); (case aO => exact (by (with_reducible repeat apply Kd.R_alloc); exact HO_13.out)); (case aS => exact (keep_size (w := w) (g := g) (row := none) (by repeat (first | (with_reducible first | exact HK.out | apply KeepBut.set_ | apply keep_drewN | apply keep_drew | apply keep_alloc) | exact HK.out)))); (case aL => have := LMc132.out; omega); intro v308 w135 ho hb hg hat; rw [← Ny307.out] at ho; have n0_ := Aside0.mk (IsS68.grown (by repeat (first | (with_reducible first | exact HI0.out | apply IsS68.alloc | apply IsS68.drewN | apply IsS68.drew | apply IsS68.set_1) | exact HI0.out)) hg (IsS68.own_ne HI0.out HO_13.out (by decide))); have n1_ := Aside0.mk (below_weaken (by repeat (first | (with_reducible first | exact HB.out | apply below_alloc | apply pw_below_drewN | apply below_drew1 | refine below_set ?_ (IsS68.ge HI0.out)) | exact HB.out)) HL.out hb); have n2_ := Aside0.mk (KeepBut.trans (by repeat (first | (with_reducible first | exact HK.out | apply KeepBut.set_ | apply keep_drewN | apply keep_drew | apply keep_alloc) | exact HK.out)) (KeepBut.of_grown hg g) (Kd.R_base2 HO_13.out)); have n3_ := Aside0.mk (ho); clear HI0; clear HB; clear HK; clear HO_13; have HI0 := n0_; have HB := n1_; have HK := n2_; have HO309 := n3_; clear n0_ n1_ n2_ n3_; clear ho hb hg hat))
              go_ret
              exact ⟨_, by first | rfl | (simp [errW_none, errW_some] <;> rfl) | (simp only [← hji4, ← hji5]; first | rfl | (simp [errW_none, errW_some] <;> rfl)) | (simp [*, errW_none, errW_some] <;> rfl), by (with_reducible repeat apply Kd.R_alloc); exact HO309.out, by repeat (first | (with_reducible first | exact HI0.out | apply IsS68.alloc | apply IsS68.drewN | apply IsS68.drew | apply IsS68.set_1) | exact HI0.out), by repeat (first | (with_reducible first | exact HB.out | apply below_alloc | apply pw_below_drewN | apply below_drew1 | refine below_set ?_ (IsS68.ge HI0.out)) | exact HB.out), by repeat (first | (with_reducible first | exact HK.out | apply KeepBut.set_ | apply keep_drewN | apply keep_drew | apply keep_alloc) | exact HK.out)⟩
             ·rw [if_neg c132] at H
              exact absurd H (by simp)
            ·rw [if_neg c131] at H
             have c131b0 : (t302 == 1) = false := beq_eq_false_iff_ne.mpr c131
             have c131b1 : (t302 != 1) = true := bne_iff_ne.mpr c131
             replace H := Option.bind_eq_some_iff.mp H
             obtain ⟨⟨t310, t311⟩, A1360, H⟩ := H
             replace H : (if 0 < (x13_116.length : Int) then (some ((x13_116.set (0 : Int).toNat (⟨t310, 6⟩ : S41)), t311)) else (none)) = some (r1, r2) := H
             have A136 := Aside0.mk A1360
             clear A1360
             by_cases c137 : 0 < (x13_116.length : Int)
             ·rw [if_pos c137] at H
              have c137b0 : decide (0 < (x13_116.length : Int)) = true := decide_eq_true c137
              have c137b1 : decide (0 < x13_116.length) = true := decide_eq_true (by omega)
              clear c137
              obtain ⟨y312, hy312⟩ : ∃ y_ : List (S41), y_ = (x13_116.set (0 : Int).toNat (⟨t310, 6⟩ : S41)) := ⟨_, rfl⟩
              replace H : (some (y312, t311)) = some (r1, r2) := by first | (rw [hy312]; with_reducible exact H) | (have H2_ := (Option.bind_some _ _).symm.trans H; rw [hy312]; with_reducible exact H2_) | (have H2_ := (Option.bind_some _ _).symm.trans H; with_reducible exact H2_) | with_reducible exact H | (rw [hy312]; exact H) | exact H
              have Ny312 := Aside0.mk hy312
              clear hy312
              simp only [Option.some.injEq, Prod.mk.injEq] at H
              obtain ⟨rfl, rfl⟩ := H
              go_wp2_with (first | ((with_reducible refine gate_callee (f := 69) rfl ?_); refine goesL_ (some 119) rfl rfl Try.func69 (by kernel_rfl) rfl #[.pointer (some ⟨g, 0, none⟩), .int .i64 a2] rfl (by (try simp only [List.map_toArray, List.map_cons, List.map_nil]); first | done | rfl | (simp only [List.length_drop, List.length_take]; rfl)) ?_; (with_reducible refine (spec_l20Rd_odd.calls kj116 g s0_0 t296 a2 true t301 w0 _ ?side1 ?side2 A123.out).mono ?_); (case side1 => repeat (first | (with_reducible first | exact HI0.out | apply IsS68.alloc | apply IsS68.drewN | apply IsS68.drew | apply IsS68.set_1) | exact HI0.out)); (case side2 => repeat (first | (with_reducible first | exact HB.out | apply below_alloc | apply pw_below_drewN | apply below_drew1 | refine below_set ?_ (IsS68.ge HI0.out)) | exact HB.out)); rintro e w139 ⟨rfl, hi, hb, hk⟩; refine ⟨_, rfl, ?_⟩; have n0_ := Aside0.mk (Kd.R_mono (Kd.R_keep (IsS68.apart (show IsS68 w0 _ g s0_0 t296 from by repeat (first | (with_reducible first | exact HI0.out | apply IsS68.alloc | apply IsS68.drewN | apply IsS68.drew | apply IsS68.set_1) | exact HI0.out)) (by (with_reducible repeat apply Kd.R_alloc); exact HO_13.out) (by decide)) hk (fun _ h => h.2)) (fun _ h => h.1)); have n1_ := Aside0.mk (KeepBut.trans (by repeat (first | (with_reducible first | exact HK.out | apply KeepBut.set_ | apply keep_drewN | apply keep_drew | apply keep_alloc) | exact HK.out)) hk (.inl rfl)); have n2_ := Aside0.mk (hb); have n3_ := Aside0.mk (hi); clear HO_13; clear HK; clear HB; clear HI0; have HO_13 := n0_; have HK := n1_; have HB := n2_; have HI0 := n3_; clear n0_ n1_ n2_ n3_; (try clear hb); (try clear hb2); (try clear hk); (try clear hi)) | ((with_reducible refine gate_callee (f := 64) rfl ?_); refine goesL_ (some 121) rfl rfl Try.func64 (by kernel_rfl) rfl #[.pointer (some ⟨g, 0, none⟩), .int .i64 3] rfl (by (try simp only [List.map_toArray, List.map_cons, List.map_nil]); first | done | rfl | (simp only [List.length_drop, List.length_take]; rfl)) ?_; (with_reducible refine (spec_l20Rd_pick.calls kj116 g s0_0 t301 3 t302 t303 w0 _ ?side1 ?side2 A125.out).mono ?_); (case side1 => repeat (first | (with_reducible first | exact HI0.out | apply IsS68.alloc | apply IsS68.drewN | apply IsS68.drew | apply IsS68.set_1) | exact HI0.out)); (case side2 => repeat (first | (with_reducible first | exact HB.out | apply below_alloc | apply pw_below_drewN | apply below_drew1 | refine below_set ?_ (IsS68.ge HI0.out)) | exact HB.out)); rintro e w140 ⟨rfl, hi, hb, hk⟩; refine ⟨_, rfl, ?_⟩; have n0_ := Aside0.mk (Kd.R_mono (Kd.R_keep (IsS68.apart (show IsS68 w0 _ g s0_0 t301 from by repeat (first | (with_reducible first | exact HI0.out | apply IsS68.alloc | apply IsS68.drewN | apply IsS68.drew | apply IsS68.set_1) | exact HI0.out)) (by (with_reducible repeat apply Kd.R_alloc); exact HO_13.out) (by decide)) hk (fun _ h => h.2)) (fun _ h => h.1)); have n1_ := Aside0.mk (KeepBut.trans (by repeat (first | (with_reducible first | exact HK.out | apply KeepBut.set_ | apply keep_drewN | apply keep_drew | apply keep_alloc) | exact HK.out)) hk (.inl rfl)); have n2_ := Aside0.mk (hb); have n3_ := Aside0.mk (hi); clear HO_13; clear HK; clear HB; clear HI0; have HO_13 := n0_; have HK := n1_; have HB := n2_; have HI0 := n3_; clear n0_ n1_ n2_ n3_; (try clear hb); (try clear hb2); (try clear hk); (try clear hi)) | ((with_reducible refine gate_callee (f := 64) rfl ?_); refine goesL_ (some 124) rfl rfl Try.func64 (by kernel_rfl) rfl #[.pointer (some ⟨g, 0, none⟩), .int .i64 2] rfl (by (try simp only [List.map_toArray, List.map_cons, List.map_nil]); first | done | rfl | (simp only [List.length_drop, List.length_take]; rfl)) ?_; (with_reducible refine (spec_l20Rd_pick.calls kj116 g s0_0 t303 2 t310 t311 w0 _ ?side1 ?side2 A136.out).mono ?_); (case side1 => repeat (first | (with_reducible first | exact HI0.out | apply IsS68.alloc | apply IsS68.drewN | apply IsS68.drew | apply IsS68.set_1) | exact HI0.out)); (case side2 => repeat (first | (with_reducible first | exact HB.out | apply below_alloc | apply pw_below_drewN | apply below_drew1 | refine below_set ?_ (IsS68.ge HI0.out)) | exact HB.out)); rintro e w141 ⟨rfl, hi, hb, hk⟩; refine ⟨_, rfl, ?_⟩; have n0_ := Aside0.mk (Kd.R_mono (Kd.R_keep (IsS68.apart (show IsS68 w0 _ g s0_0 t303 from by repeat (first | (with_reducible first | exact HI0.out | apply IsS68.alloc | apply IsS68.drewN | apply IsS68.drew | apply IsS68.set_1) | exact HI0.out)) (by (with_reducible repeat apply Kd.R_alloc); exact HO_13.out) (by decide)) hk (fun _ h => h.2)) (fun _ h => h.1)); have n1_ := Aside0.mk (KeepBut.trans (by repeat (first | (with_reducible first | exact HK.out | apply KeepBut.set_ | apply keep_drewN | apply keep_drew | apply keep_alloc) | exact HK.out)) hk (.inl rfl)); have n2_ := Aside0.mk (hb); have n3_ := Aside0.mk (hi); clear HO_13; clear HK; clear HB; clear HI0; have HO_13 := n0_; have HK := n1_; have HB := n2_; have HI0 := n3_; clear n0_ n1_ n2_ n3_; (try clear hb); (try clear hb2); (try clear hk); (try clear hi); have p138 : 0 ≤ (0 : Int) := (by omega); have q138 : (0 : Int) < ((x13_116.length : Int) : Int) := of_decide_eq_true (by first | (with_reducible assumption) | assumption); have qi138 : (0 < x13_116.length) = True := eq_true (by omega); obtain ⟨go138, co138, eo138, gb138, gl138, cl138, HG138⟩ := Kd.R_form HO_13.out (by omega); (first | cases eo138 | (injection eo138 with ea_ en_ ec_; (first | subst ea_ | (injection ea_ with ea_; subst ea_)); subst ec_; clear en_)); have GB138 := Aside0.mk gb138; have GG138 := Aside0.mk HG138; clear gb138 gl138 HG138; obtain ⟨ce138, hcl138, hM138, hcc138, hfr138⟩ := Kd.R_elem HO_13.out z41 (0 : Int) p138 q138; obtain rfl := k41_openM hM138; have hx138_0 : w141.cell? ⟨go138, (0 : Int).toNat * 2, none⟩ = some (.int .i64 ((rd_T41 x13_116 0).f0)) := hcc138 0 _ rfl; have hx138_1 : w141.cell? ⟨go138, (0 : Int).toNat * 2 + 1, none⟩ = some (.int .i64 ((rd_T41 x13_116 0).f1)) := hcc138 1 _ rfl; have hf138_0 : w141.frozen? ⟨go138, (0 : Int).toNat * 2, none⟩ = false := hfr138 0; have hf138_1 : w141.frozen? ⟨go138, (0 : Int).toNat * 2 + 1, none⟩ = false := hfr138 1; clear hcl138 hcc138 hfr138; (try clear hM138); skip; (try rw [show ((0 : Int)).toNat = 0 from rfl] at hx138_0); (try simp only [Nat.reduceMul, Nat.zero_mul, Nat.zero_add, Nat.reduceAdd] at hx138_0); (try rw [show ((0 : Int)).toNat = 0 from rfl] at hf138_0); (try simp only [Nat.reduceMul, Nat.zero_mul, Nat.zero_add, Nat.reduceAdd] at hf138_0); (try rw [show ((0 : Int)).toNat = 0 from rfl] at hx138_1); (try simp only [Nat.reduceMul, Nat.zero_mul, Nat.zero_add, Nat.reduceAdd] at hx138_1); (try rw [show ((0 : Int)).toNat = 0 from rfl] at hf138_1); (try simp only [Nat.reduceMul, Nat.zero_mul, Nat.zero_add, Nat.reduceAdd] at hf138_1); replace p138 := eq_true p138; replace q138 := eq_true q138; have HX142 := Aside0.mk (show Kd.R k41 41 w141 w.heap.size (fun _ => True) (.slice (some ⟨go138, 0, none⟩) x13_116.length co138) x13_116 from (by (with_reducible repeat apply Kd.R_alloc); exact HO_13.out)); obtain ⟨ce142, hcl142, hM142, hcc142, hfr142⟩ := Kd.R_elem HX142.out z41 (0 : Int) (by omega) (by have h_ : (0 : Int) < ((x13_116.length : Int) : Int) := of_decide_eq_true (by first | (with_reducible assumption) | assumption); first | exact h_ | (have e_ := (Kd.R_reads' HO_13.out).1; omega) | simpa using h_); obtain rfl := k41_openM hM142; have HP142 := Kd.R_seg HX142.out (0 : Int) (by omega) (by have h_ : (0 : Int) < ((x13_116.length : Int) : Int) := of_decide_eq_true (by first | (with_reducible assumption) | assumption); first | exact h_ | (have e_ := (Kd.R_reads' HO_13.out).1; omega) | simpa using h_) (seg := [.int .i64 t310, .int .i64 6]) (j := 0) hcl142 hcc142 (show 2 ≤ 2 from by decide) (x' := (⟨t310, 6⟩ : S41)) (k41_mkM _ _ _ (⟨t310, 6⟩ : S41) ) (fun _ hk => hk); have hx142_0 := hcc142 0 _ rfl; (try simp only [show (k41).sz = 2 from rfl, Nat.mul_one, Nat.add_zero] at hx142_0); (try rw [show ((0 : Int)).toNat = 0 from rfl] at hx142_0); (try simp only [Nat.reduceMul, Nat.zero_mul, Nat.zero_add, Nat.reduceAdd] at hx142_0); have hf142_0 := hfr142 0; (try simp only [show (k41).sz = 2 from rfl, Nat.mul_one, Nat.add_zero] at hf142_0); (try rw [show ((0 : Int)).toNat = 0 from rfl] at hf142_0); (try simp only [Nat.reduceMul, Nat.zero_mul, Nat.zero_add, Nat.reduceAdd] at hf142_0); have hx142_1 := hcc142 1 _ rfl; (try simp only [show (k41).sz = 2 from rfl, Nat.mul_one, Nat.add_zero] at hx142_1); (try rw [show ((0 : Int)).toNat = 0 from rfl] at hx142_1); (try simp only [Nat.reduceMul, Nat.zero_mul, Nat.zero_add, Nat.reduceAdd] at hx142_1); have hf142_1 := hfr142 1; (try simp only [show (k41).sz = 2 from rfl, Nat.mul_one, Nat.add_zero] at hf142_1); (try rw [show ((0 : Int)).toNat = 0 from rfl] at hf142_1); (try simp only [Nat.reduceMul, Nat.zero_mul, Nat.zero_add, Nat.reduceAdd] at hf142_1); clear hcl142 hcc142 hfr142; (try clear hM142); skip) | ((with_reducible refine gate_store (t := 41) (p := 126) rfl ?_); refine store_event (t := 41) (p := 126) (v := ?vo_w143) (w1 := ((w141.setCell ⟨go138, 0, none⟩ (.int .i64 t310)).setCell ⟨go138, 1, none⟩ (.int .i64 6))) ?hg ?ho ?hn ?hr ?_; (case ho => rfl); (case hg => rfl); (case hn => rfl); (case hr => first | (go_simp; done) | (go_simp; rfl)); intro w143 hw; have hg : w141.grownBy w143 (some go138) := (by rw [hw]; exact HP142.2); have hp_ : Kd.R k41 41 w143 w.heap.size (fun _ => True) (.slice (some ⟨go138, 0, none⟩) x13_116.length co138) y312 := (by rw [hw, Ny312.out]; exact HP142.1); clear HP142; have n0_ := Aside0.mk (hp_); have n1_ := Aside0.mk (IsS68.grown (by repeat (first | (with_reducible first | exact HI0.out | apply IsS68.alloc | apply IsS68.drewN | apply IsS68.drew | apply IsS68.set_1) | exact HI0.out)) hg (IsS68.own_ne HI0.out HO_13.out (by decide))); have n2_ := Aside0.mk ((by rw [hw]; exact below_set (below_set (HB.out) (Nat.le_trans HL.out GB138.out)) (Nat.le_trans HL.out GB138.out) : Below w0.heap.size w0 w143)); have n3_ := Aside0.mk (KeepBut.trans (by repeat (first | (with_reducible first | exact HK.out | apply KeepBut.set_ | apply keep_drewN | apply keep_drew | apply keep_alloc) | exact HK.out)) (KeepBut.of_grown hg g) (Kd.R_base2 HO_13.out)); clear HO_13; clear HI0; clear HB; clear HK; have HO_13 := n0_; have HI0 := n1_; have HB := n2_; have HK := n3_; clear n0_ n1_ n2_ n3_; clear hg hw hp_))
              go_ret
              exact ⟨_, by first | rfl | (simp [errW_none, errW_some] <;> rfl) | (simp only [← hji4, ← hji5]; first | rfl | (simp [errW_none, errW_some] <;> rfl)) | (simp [*, errW_none, errW_some] <;> rfl), by (with_reducible repeat apply Kd.R_alloc); exact HO_13.out, by repeat (first | (with_reducible first | exact HI0.out | apply IsS68.alloc | apply IsS68.drewN | apply IsS68.drew | apply IsS68.set_1) | exact HI0.out), by repeat (first | (with_reducible first | exact HB.out | apply below_alloc | apply pw_below_drewN | apply below_drew1 | refine below_set ?_ (IsS68.ge HI0.out)) | exact HB.out), by repeat (first | (with_reducible first | exact HK.out | apply KeepBut.set_ | apply keep_drewN | apply keep_drew | apply keep_alloc) | exact HK.out)⟩
             ·rw [if_neg c137] at H
              exact absurd H (by simp)
          ·replace c124 := Bool.eq_false_iff.mpr c124
           subst c124
           have H1 : (some (x13_116, t301)) = some (r1, r2) := by rw [if_neg (show ¬ (false = true) by decide)] at H; exact H
           clear H
           have H := H1
           clear H1
           simp only [Option.some.injEq, Prod.mk.injEq] at H
           obtain ⟨rfl, rfl⟩ := H
           go_wp2_with (first | ((with_reducible refine gate_callee (f := 69) rfl ?_); refine goesL_ (some 119) rfl rfl Try.func69 (by kernel_rfl) rfl #[.pointer (some ⟨g, 0, none⟩), .int .i64 a2] rfl (by (try simp only [List.map_toArray, List.map_cons, List.map_nil]); first | done | rfl | (simp only [List.length_drop, List.length_take]; rfl)) ?_; (with_reducible refine (spec_l20Rd_odd.calls kj116 g s0_0 t296 a2 false t301 w0 _ ?side1 ?side2 A123.out).mono ?_); (case side1 => repeat (first | (with_reducible first | exact HI0.out | apply IsS68.alloc | apply IsS68.drewN | apply IsS68.drew | apply IsS68.set_1) | exact HI0.out)); (case side2 => repeat (first | (with_reducible first | exact HB.out | apply below_alloc | apply pw_below_drewN | apply below_drew1 | refine below_set ?_ (IsS68.ge HI0.out)) | exact HB.out)); rintro e w144 ⟨rfl, hi, hb, hk⟩; refine ⟨_, rfl, ?_⟩; have n0_ := Aside0.mk (Kd.R_mono (Kd.R_keep (IsS68.apart (show IsS68 w0 _ g s0_0 t296 from by repeat (first | (with_reducible first | exact HI0.out | apply IsS68.alloc | apply IsS68.drewN | apply IsS68.drew | apply IsS68.set_1) | exact HI0.out)) (by (with_reducible repeat apply Kd.R_alloc); exact HO_13.out) (by decide)) hk (fun _ h => h.2)) (fun _ h => h.1)); have n1_ := Aside0.mk (KeepBut.trans (by repeat (first | (with_reducible first | exact HK.out | apply KeepBut.set_ | apply keep_drewN | apply keep_drew | apply keep_alloc) | exact HK.out)) hk (.inl rfl)); have n2_ := Aside0.mk (hb); have n3_ := Aside0.mk (hi); clear HO_13; clear HK; clear HB; clear HI0; have HO_13 := n0_; have HK := n1_; have HB := n2_; have HI0 := n3_; clear n0_ n1_ n2_ n3_; (try clear hb); (try clear hb2); (try clear hk); (try clear hi)))
           go_ret
           exact ⟨_, by first | rfl | (simp [errW_none, errW_some] <;> rfl) | (simp only [← hji4, ← hji5]; first | rfl | (simp [errW_none, errW_some] <;> rfl)) | (simp [*, errW_none, errW_some] <;> rfl), by (with_reducible repeat apply Kd.R_alloc); exact HO_13.out, by repeat (first | (with_reducible first | exact HI0.out | apply IsS68.alloc | apply IsS68.drewN | apply IsS68.drew | apply IsS68.set_1) | exact HI0.out), by repeat (first | (with_reducible first | exact HB.out | apply below_alloc | apply pw_below_drewN | apply below_drew1 | refine below_set ?_ (IsS68.ge HI0.out)) | exact HB.out), by repeat (first | (with_reducible first | exact HK.out | apply KeepBut.set_ | apply keep_drewN | apply keep_drew | apply keep_alloc) | exact HK.out)⟩
       ·rw [if_neg c115] at H
        exact absurd H (by simp)

end Go.Proofs.Ytigkmppgbaoafaa.PFnAlwaysOk
