-- Made by a program of this session (wip/tools/patchprint.py), not by the kit itself.
import Derived.Test.YtigkmppgbaoafaaPFnNotEitherx0
import Derived.Test.YtigkmppgbaoafaaPFnNotEitherx2
namespace Go.Proofs.Ytigkmppgbaoafaa.PFnNotEither
open Go.RowKit Go.Proofs.YtigkmppgbaoafaaW.PrintWords Go.Proofs.YtigkmppgbaoafaaW.PrintLast Go.Proofs.YtigkmppgbaoafaaW.PrintMore
attribute [local go_sem] max2_int min2_int max_two min_two max_three min_three max_four min_four   -- for this text's walks alone
set_option linter.unusedVariables false
set_option linter.unusedSimpArgs false

attribute [local go_sem] setCell_isSome
/-! ### spec_l20Term: function 65 -/
mutual
def spec_l20Term.l0 : Nat → Int → Int → List (List (S41)) → Int → List Int → Int → Option ((List (S41)) × Int)
 | 0, _, _, _, _, _, _ => none
 | k + 1, x1, x2, x7, x8, x1000, x1001 => if x8 > 0 then ((spec_l20Rd_pick.f k x1000 x1001 4).bind fun bt117 => (if bt117.1 = 0 then ((spec_l20Rd_pick.f k x1000 bt117.2 (wrap64 (x1 + 2))).bind fun bt119 => (if x7.length < 5864062014805 then (spec_l20Term.l0 k x1 x2 (x7 ++ [(([(⟨1, bt119.1⟩ : S41)] : List (S41)))]) (wrap64 (x8 - 1)) x1000 bt119.2) else (none))) else ((spec_l20Rd_pick.f k x1000 bt117.2 x1).bind fun bt127 => (if x7.length < 5864062014805 then (spec_l20Term.l0 k x1 x2 (x7 ++ [(([(⟨0, bt127.1⟩ : S41)] : List (S41)))]) (wrap64 (x8 - 1)) x1000 bt127.2) else (none))))) else (spec_l20Term.l1 k x2 x7 3 x1000 x1001)
def spec_l20Term.l1 : Nat → Int → List (List (S41)) → Int → List Int → Int → Option ((List (S41)) × Int)
 | 0, _, _, _, _, _ => none
 | k + 1, x2, x7, x9, x1000, x1001 => if (x7.length : Int) > 1 then ((spec_l20Rd_pick.f k x1000 x1001 (wrap64 ((x7.length : Int) - 1))).bind fun bt135 => (if x9 > 0 then ((spec_l20Rd_pick.f k x1000 bt135.2 4).bind fun bt137 => (if bt137.1 = 0 then ((some (([] : List (S41)) : List (S41))).bind fun y139 => (if 0 ≤ bt135.1 then (if bt135.1 < (x7.length : Int) then (if y139.length + (rd_L3 x7 bt135.1).length < 8796093022208 then ((some (y139 ++ (rd_L3 x7 bt135.1) : List (S41))).bind fun y143 => (if y143.length < 8796093022208 then (spec_l20Term.l1 k x2 (x7.set (bt135.1 : Int).toNat (y143 ++ [(⟨2, 0⟩ : S41)])) (wrap64 (x9 - 1)) x1000 bt137.2) else (none))) else (none)) else (none)) else (none))) else ((some (([] : List (S41)) : List (S41))).bind fun y150 => (if 0 ≤ bt135.1 then (if bt135.1 < (x7.length : Int) then (if y150.length + (rd_L3 x7 bt135.1).length < 8796093022208 then ((some (y150 ++ (rd_L3 x7 bt135.1) : List (S41))).bind fun y154 => (if 0 ≤ (wrap64 (bt135.1 + 1)) then (if (wrap64 (bt135.1 + 1)) < (x7.length : Int) then (if y154.length + (rd_L3 x7 (wrap64 (bt135.1 + 1))).length < 8796093022208 then ((some (y154 ++ (rd_L3 x7 (wrap64 (bt135.1 + 1))) : List (S41))).bind fun y158 => ((spec_l20Rd_pick.f k x1000 bt137.2 3).bind fun bt161 => (if y158.length < 8796093022208 then ((some (([] : List (List (S41))) : List (List (S41)))).bind fun y166 => (if bt135.1 ≤ (x7.length : Int) then ((some (x7.take (bt135.1 : Int).toNat : List (List (S41)))).bind fun y169 => (if y166.length + y169.length < 5864062014805 then ((some (y166 ++ y169 : List (List (S41)))).bind fun y173 => (if y173.length < 5864062014805 then ((some (y173 ++ [(y158 ++ [(⟨wrap64 (3 + bt161.1), 0⟩ : S41)])] : List (List (S41)))).bind fun y176 => (if 0 ≤ (wrap64 (bt135.1 + 2)) then (if (wrap64 (bt135.1 + 2)) ≤ (x7.length : Int) then ((some (x7.drop ((wrap64 (bt135.1 + 2)) : Int).toNat : List (List (S41)))).bind fun y179 => (if y176.length + y179.length < 5864062014805 then (spec_l20Term.l1 k x2 (y176 ++ y179) x9 x1000 bt161.2) else (none))) else (none)) else (none))) else (none))) else (none))) else (none))) else (none)))) else (none)) else (none)) else (none))) else (none)) else (none)) else (none))))) else ((some (([] : List (S41)) : List (S41))).bind fun y186 => (if 0 ≤ bt135.1 then (if bt135.1 < (x7.length : Int) then (if y186.length + (rd_L3 x7 bt135.1).length < 8796093022208 then ((some (y186 ++ (rd_L3 x7 bt135.1) : List (S41))).bind fun y190 => (if 0 ≤ (wrap64 (bt135.1 + 1)) then (if (wrap64 (bt135.1 + 1)) < (x7.length : Int) then (if y190.length + (rd_L3 x7 (wrap64 (bt135.1 + 1))).length < 8796093022208 then ((some (y190 ++ (rd_L3 x7 (wrap64 (bt135.1 + 1))) : List (S41))).bind fun y194 => ((spec_l20Rd_pick.f k x1000 bt135.2 3).bind fun bt197 => (if y194.length < 8796093022208 then ((some (([] : List (List (S41))) : List (List (S41)))).bind fun y202 => (if bt135.1 ≤ (x7.length : Int) then ((some (x7.take (bt135.1 : Int).toNat : List (List (S41)))).bind fun y205 => (if y202.length + y205.length < 5864062014805 then ((some (y202 ++ y205 : List (List (S41)))).bind fun y209 => (if y209.length < 5864062014805 then ((some (y209 ++ [(y194 ++ [(⟨wrap64 (3 + bt197.1), 0⟩ : S41)])] : List (List (S41)))).bind fun y212 => (if 0 ≤ (wrap64 (bt135.1 + 2)) then (if (wrap64 (bt135.1 + 2)) ≤ (x7.length : Int) then ((some (x7.drop ((wrap64 (bt135.1 + 2)) : Int).toNat : List (List (S41)))).bind fun y215 => (if y212.length + y215.length < 5864062014805 then (spec_l20Term.l1 k x2 (y212 ++ y215) x9 x1000 bt197.2) else (none))) else (none)) else (none))) else (none))) else (none))) else (none))) else (none)))) else (none)) else (none)) else (none))) else (none)) else (none)) else (none))))) else (if 0 < (x7.length : Int) then ((spec_l20Rd_pick.f k x1000 x1001 5).bind fun bt223 => (if bt223.1 = 0 then (if (rd_L3 x7 0).length < 8796093022208 then (spec_l20Term.j2 k x2 ((rd_L3 x7 0) ++ [(⟨2, 0⟩ : S41)]) x1000 bt223.2) else (none)) else (spec_l20Term.j2 k x2 (rd_L3 x7 0) x1000 bt223.2))) else (none))
def spec_l20Term.j2 : Nat → Int → List (S41) → List Int → Int → Option ((List (S41)) × Int)
 | 0, _, _, _, _ => none
 | k + 1, x2, x13, x1000, x1001 => (spec_l20Rd_odd.f k x1000 x1001 x2).bind fun bt228 => (if bt228.1 = true then ((spec_l20Rd_pick.f k x1000 bt228.2 3).bind fun bt230 => (if bt230.1 = 0 then (some ((([] : List (S41))), bt230.2)) else (if bt230.1 = 1 then (if x13.length < 8796093022208 then (some ((x13 ++ [(⟨5, 0⟩ : S41)]), bt230.2)) else (none)) else ((spec_l20Rd_pick.f k x1000 bt230.2 2).bind fun bt238 => (if 0 < (x13.length : Int) then (some ((x13.set (0 : Int).toNat (⟨bt238.1, 6⟩ : S41)), bt238.2)) else (none)))))) else (some (x13, bt228.2)))
end
def spec_l20Term.f (k : Nat) (s0_0 : List Int) (s0_1 : Int) (a1 : Int) (a2 : Int) : Option ((List (S41)) × Int) := (spec_l20Rd_pick.f k s0_0 s0_1 4).bind fun bt115 => (spec_l20Term.l0 k (mn (mx a1 1) 4) a2 (([] : List (List (S41)))) (wrap64 (1 + bt115.1)) s0_0 bt115.2)
theorem spec_l20Term.mono_l : ∀ k, (∀ y0 y1 y2 y3 y4 y5, LeO (spec_l20Term.l0 k y0 y1 y2 y3 y4 y5) (spec_l20Term.l0 (k + 1) y0 y1 y2 y3 y4 y5)) ∧ (∀ y0 y1 y2 y3 y4, LeO (spec_l20Term.l1 k y0 y1 y2 y3 y4) (spec_l20Term.l1 (k + 1) y0 y1 y2 y3 y4)) ∧ (∀ y0 y1 y2 y3, LeO (spec_l20Term.j2 k y0 y1 y2 y3) (spec_l20Term.j2 (k + 1) y0 y1 y2 y3))
 | 0 => ⟨fun _ _ _ _ _ _ r h => by simp [spec_l20Term.l0] at h, fun _ _ _ _ _ r h => by simp [spec_l20Term.l1] at h, fun _ _ _ _ r h => by simp [spec_l20Term.j2] at h⟩
 | k + 1 => by
  obtain ⟨ih0, ih1, ih2⟩ := spec_l20Term.mono_l k
  refine ⟨?_, ?_, ?_⟩
  ·intro y0 y1 y2 y3 y4 y5
   unfold spec_l20Term.l0
   repeat' first
   | (with_reducible exact ih0 _ _ _ _ _ _)
   | (with_reducible exact ih1 _ _ _ _ _)
   | (with_reducible exact ih2 _ _ _ _)
   | (with_reducible exact spec_l20Rd_odd.mono _ _ _ _)
   | (with_reducible exact spec_l20Rd_pick.mono _ _ _ _)
   | (with_reducible exact LeO.refl _)
   | (with_reducible exact LeO.none _)
   | (with_reducible refine LeO.ite ?_ ?_)
   | (with_reducible refine LeO.bind ?_ (fun _ => ?_))
   | exact ih0 _ _ _ _ _ _
   | exact ih1 _ _ _ _ _
   | exact ih2 _ _ _ _
   | exact spec_l20Rd_odd.mono _ _ _ _
   | exact spec_l20Rd_pick.mono _ _ _ _
   | exact LeO.none _
   | refine LeO.ite ?_ ?_
   | refine LeO.bind ?_ (fun _ => ?_)
  ·intro y0 y1 y2 y3 y4
   unfold spec_l20Term.l1
   repeat' first
   | (with_reducible exact ih0 _ _ _ _ _ _)
   | (with_reducible exact ih1 _ _ _ _ _)
   | (with_reducible exact ih2 _ _ _ _)
   | (with_reducible exact spec_l20Rd_odd.mono _ _ _ _)
   | (with_reducible exact spec_l20Rd_pick.mono _ _ _ _)
   | (with_reducible exact LeO.refl _)
   | (with_reducible exact LeO.none _)
   | (with_reducible refine LeO.ite ?_ ?_)
   | (with_reducible refine LeO.bind ?_ (fun _ => ?_))
   | exact ih0 _ _ _ _ _ _
   | exact ih1 _ _ _ _ _
   | exact ih2 _ _ _ _
   | exact spec_l20Rd_odd.mono _ _ _ _
   | exact spec_l20Rd_pick.mono _ _ _ _
   | exact LeO.none _
   | refine LeO.ite ?_ ?_
   | refine LeO.bind ?_ (fun _ => ?_)
  ·intro y0 y1 y2 y3
   unfold spec_l20Term.j2
   repeat' first
   | (with_reducible exact ih0 _ _ _ _ _ _)
   | (with_reducible exact ih1 _ _ _ _ _)
   | (with_reducible exact ih2 _ _ _ _)
   | (with_reducible exact spec_l20Rd_odd.mono _ _ _ _)
   | (with_reducible exact spec_l20Rd_pick.mono _ _ _ _)
   | (with_reducible exact LeO.refl _)
   | (with_reducible exact LeO.none _)
   | (with_reducible refine LeO.ite ?_ ?_)
   | (with_reducible refine LeO.bind ?_ (fun _ => ?_))
   | exact ih0 _ _ _ _ _ _
   | exact ih1 _ _ _ _ _
   | exact ih2 _ _ _ _
   | exact spec_l20Rd_odd.mono _ _ _ _
   | exact spec_l20Rd_pick.mono _ _ _ _
   | exact LeO.none _
   | refine LeO.ite ?_ ?_
   | refine LeO.bind ?_ (fun _ => ?_)
theorem spec_l20Term.mono : ∀ a0 a1 a2 a3 k, LeO (spec_l20Term.f k a0 a1 a2 a3) (spec_l20Term.f (k + 1) a0 a1 a2 a3) := by
 intro a0 a1 a2 a3 k
 obtain ⟨ih0, ih1, ih2⟩ := spec_l20Term.mono_l k
 unfold spec_l20Term.f
 repeat' first
   | (with_reducible exact ih0 _ _ _ _ _ _)
   | (with_reducible exact ih1 _ _ _ _ _)
   | (with_reducible exact ih2 _ _ _ _)
   | (with_reducible exact spec_l20Rd_odd.mono _ _ _ _)
   | (with_reducible exact spec_l20Rd_pick.mono _ _ _ _)
   | (with_reducible exact LeO.refl _)
   | (with_reducible exact LeO.none _)
   | (with_reducible refine LeO.ite ?_ ?_)
   | (with_reducible refine LeO.bind ?_ (fun _ => ?_))
   | exact ih0 _ _ _ _ _ _
   | exact ih1 _ _ _ _ _
   | exact ih2 _ _ _ _
   | exact spec_l20Rd_odd.mono _ _ _ _
   | exact spec_l20Rd_pick.mono _ _ _ _
   | exact LeO.none _
   | refine LeO.ite ?_ ?_
   | refine LeO.bind ?_ (fun _ => ?_)
def spec_l20Term.T15 : Bool × List (List Nat × List Nat) := (true, [([], []), ([], []), ([], []), ([1, 2], [1, 2]), ([3], [3]), ([0, 4], [0, 4]), ([], []), ([], []), ([7], [7]), ([6, 8], [6, 8]), ([9], [9]), ([5, 10, 5], [5, 10]), ([], []), ([12, 11], [12]), ([13], [13]), ([14], [14]), ([15], [15]), ([11, 16, 13], [11, 16]), ([17, 17, 0, 1, 2, 3, 4, 5, 6, 7, 8, 9, 10, 11, 12, 13, 14, 15, 16, 17], [17])])
def spec_l20Term.B15 : List Nat := [0, 0, 0, 6, 14, 31, 0, 0, 128, 448, 960, 2047, 0, 8191, 16383, 32767, 65535, 131071, 262143]
theorem spec_l20Term.tab15 : rtab .any (opsOf Try.f65 15) = spec_l20Term.T15 := by kernel_rfl
theorem spec_l20Term.bits15 : waitsOk spec_l20Term.T15.2 spec_l20Term.B15 = true := by kernel_rfl
set_option maxHeartbeats 8000000 in
set_option maxRecDepth 100000 in
theorem spec_l20Term.calls (k : Nat) (g : Nat) (s0_0 : List Int) (s0_1 : Int) (a1 : Int) (a2 : Int) (r1 : List (S41)) (r2 : Int) (w0 w : World) (hI : IsS68 w0 w g s0_0 s0_1) (hB : Below w0.heap.size w0 w) (h : spec_l20Term.f k s0_0 s0_1 a1 a2 = some (r1, r2)) :
  Calls Try.prog 65 #[.pointer (some ⟨g, 0, none⟩), .int .i64 a1, .int .i64 a2] w fun e w' => ∃ v0_ : Value, e = .returned (v0_) ∧ Kd.R k41 41 w' w.heap.size (fun _ => True) v0_ r1 ∧ IsS68 w0 w' g s0_0 r2 ∧ Below w0.heap.size w0 w' ∧ KeepBut w w' g none := by
 have hu41 := Try.underlying41
 have HI0 := Aside0.mk hI
 have HK := Aside0.mk (KeepBut.refl w g none)
 have HL := Aside0.mk hB.size
 clear hI
 have HW0 := Aside0.mk hB.size
 have HB := Aside0.mk hB
 clear hB
 have H : ((spec_l20Rd_pick.f k s0_0 s0_1 4).bind fun bt115 => (spec_l20Term.l0 k (mn (mx a1 1) 4) a2 (([] : List (List (S41)))) (wrap64 (1 + bt115.1)) s0_0 bt115.2)) = some (r1, r2) := h
 clear h
 obtain ⟨ji4, hji4⟩ : ∃ j_ : Int, (mx a1 1) = j_ := ⟨_, rfl⟩
 replace H : ((spec_l20Rd_pick.f k s0_0 s0_1 4).bind fun bt115 => (spec_l20Term.l0 k (mn (ji4) 4) a2 (([] : List (List (S41)))) (wrap64 (1 + bt115.1)) s0_0 bt115.2)) = some (r1, r2) := by first | (rw [hji4] at H; exact H) | (simp only [hji4] at H ⊢; exact H)
 (try (have hji4l : 1 ≤ ji4 := by (rw [← hji4]; unfold mx; (repeat' split) <;> omega)))
 (try (have hji4m : 0 ≤ ji4 := by omega))
 have hji4_ : (if a1 < 1 then 1 else a1) = ji4 := hji4
 obtain ⟨ji5, hji5⟩ : ∃ j_ : Int, (mn (ji4) 4) = j_ := ⟨_, rfl⟩
 replace H : ((spec_l20Rd_pick.f k s0_0 s0_1 4).bind fun bt115 => (spec_l20Term.l0 k ji5 a2 (([] : List (List (S41)))) (wrap64 (1 + bt115.1)) s0_0 bt115.2)) = some (r1, r2) := by first | (rw [hji5] at H; exact H) | (simp only [hji5] at H ⊢; exact H)
 have hji5_ : (if 4 < (ji4) then 4 else (ji4)) = ji5 := hji5
 obtain ⟨y112, hy112⟩ : ∃ y_ : List (List (S41)), y_ = (([] : List (List (S41)))) := ⟨_, rfl⟩
 replace H : ((spec_l20Rd_pick.f k s0_0 s0_1 4).bind fun bt115 => (spec_l20Term.l0 k ji5 a2 y112 (wrap64 (1 + bt115.1)) s0_0 bt115.2)) = some (r1, r2) := by first | (rw [hy112]; with_reducible exact H) | (have H2_ := (Option.bind_some _ _).symm.trans H; rw [hy112]; with_reducible exact H2_) | (have H2_ := (Option.bind_some _ _).symm.trans H; with_reducible exact H2_) | with_reducible exact H | (rw [hy112]; exact H) | exact H
 have Ny112 := Aside0.mk hy112
 clear hy112
 replace H := Option.bind_eq_some_iff.mp H
 obtain ⟨⟨t115, t116⟩, A60, H⟩ := H
 replace H : (spec_l20Term.l0 k ji5 a2 y112 (wrap64 (1 + t115)) s0_0 t116) = some (r1, r2) := H
 have A6 := Aside0.mk A60
 clear A60
 have H' := Aside0.mk H
 clear H
 go_enter Try.func65, Try.ntmps65
 go_wp2_with (first | ((with_reducible refine gate_dst (N := 17) rfl ?_); refine Kd.R_lit (Kd.slice 41 k41) _ 23 ?hg (N := 17) ?hd (xs := ([] : List (List (S41)))) (inner := []) (ok := fun _ => True) (okp := fun _ => True) ?hr ?hp (fun _ hk => hk) trivial (Below.refl _ _) (Nat.le_refl _) (by simp) ?_; (case hd => rfl); (case hg => rfl); (case hr => first | (go_simp; done) | (go_simp; rfl)); (case hp => exact (Reps.none _ _)); intro v113 w7 ho8 hb hg_ hnew_; clear hg_ hnew_; (first | rw [← Ny112.out] at ho8 | (simp only [Int.reduceToNat] at ho8; rw [← Ny112.out] at ho8)); have n0_ := Aside0.mk (Kd.R_lower ho8 (keep_size (w := w) (g := g) (row := none) (by repeat (first | (with_reducible first | exact HK.out | apply KeepBut.set_ | apply keep_drewN | apply keep_drew | apply keep_alloc) | exact HK.out)))); have n1_ := Aside0.mk (IsS68.below (by repeat (first | (with_reducible first | exact HI0.out | apply IsS68.alloc | apply IsS68.drewN | apply IsS68.drew | apply IsS68.set_1) | exact HI0.out)) hb); have n2_ := Aside0.mk (KeepBut.trans (by repeat (first | (with_reducible first | exact HK.out | apply KeepBut.set_ | apply keep_drewN | apply keep_drew | apply keep_alloc) | exact HK.out)) (KeepBut.of_below hb g none) (.inl rfl)); have n3_ := Aside0.mk (below_step (by repeat (first | (with_reducible first | exact HB.out | apply below_alloc | apply pw_below_drewN | apply below_drew1 | refine below_set ?_ (IsS68.ge HI0.out)) | exact HB.out)) hb); clear HI0; clear HK; clear HB; have HO114 := n0_; have HI0 := n1_; have HK := n2_; have HB := n3_; clear n0_ n1_ n2_ n3_; clear hb ho8) | ((with_reducible refine gate_callee (f := 64) rfl ?_); refine goesL_ (some 19) rfl rfl Try.func64 (by kernel_rfl) rfl #[.pointer (some ⟨g, 0, none⟩), .int .i64 4] rfl (by (try simp only [List.map_toArray, List.map_cons, List.map_nil]); first | done | rfl | (simp only [List.length_drop, List.length_take]; rfl)) ?_; (with_reducible refine (spec_l20Rd_pick.calls k g s0_0 s0_1 4 t115 t116 w0 _ ?side1 ?side2 A6.out).mono ?_); (case side1 => repeat (first | (with_reducible first | exact HI0.out | apply IsS68.alloc | apply IsS68.drewN | apply IsS68.drew | apply IsS68.set_1) | exact HI0.out)); (case side2 => repeat (first | (with_reducible first | exact HB.out | apply below_alloc | apply pw_below_drewN | apply below_drew1 | refine below_set ?_ (IsS68.ge HI0.out)) | exact HB.out)); rintro e w9 ⟨rfl, hi, hb, hk⟩; refine ⟨_, rfl, ?_⟩; have n0_ := Aside0.mk (Kd.R_mono (Kd.R_keep (IsS68.apart (show IsS68 w0 _ g s0_0 s0_1 from by repeat (first | (with_reducible first | exact HI0.out | apply IsS68.alloc | apply IsS68.drewN | apply IsS68.drew | apply IsS68.set_1) | exact HI0.out)) (by (with_reducible repeat apply Kd.R_alloc); exact HO114.out) (by decide)) hk (fun _ h => h.2)) (fun _ h => h.1)); have n1_ := Aside0.mk (KeepBut.trans (by repeat (first | (with_reducible first | exact HK.out | apply KeepBut.set_ | apply keep_drewN | apply keep_drew | apply keep_alloc) | exact HK.out)) hk (.inl rfl)); have n2_ := Aside0.mk (hb); have n3_ := Aside0.mk (hi); clear HO114; clear HK; clear HB; clear HI0; have HO114 := n0_; have HK := n1_; have HB := n2_; have HI0 := n3_; clear n0_ n1_ n2_ n3_; (try clear hb); (try clear hb2); (try clear hk); (try clear hi)))
 go_loopg [7, 8] k (fun kq v7 v8 w' => ∃ (x7_1 : List (List (S41))) (x8_1 : Int) (x1001_1 : Int), v8 = .int .i64 x8_1 ∧ Aside0 (spec_l20Term.l0 kq ji5 a2 x7_1 x8_1 s0_0 x1001_1 = some (r1, r2)) ∧ Aside0 (kq ≤ k) ∧ Aside0 (Kd.R (Kd.slice 41 k41) 23 w' w.heap.size (fun _ => True) v7 x7_1) ∧ Aside0 (IsS68 w0 w' g s0_0 x1001_1) ∧ Aside0 (KeepBut w w' g none) ∧ Aside0 (Below w0.heap.size w0 w'))
 case atStart => exact ⟨(y112), (wrap64 (1 + t115)), (t116), (by first | rfl | (simp; done) | (simp [*]; done)), H', ⟨Nat.le_refl _⟩, ⟨by (with_reducible repeat apply Kd.R_alloc); exact HO114.out⟩, ⟨by repeat (first | (with_reducible first | exact HI0.out | apply IsS68.alloc | apply IsS68.drewN | apply IsS68.drew | apply IsS68.set_1) | exact HI0.out)⟩, ⟨by repeat (first | (with_reducible first | exact HK.out | apply KeepBut.set_ | apply keep_drewN | apply keep_drew | apply keep_alloc) | exact HK.out)⟩, ⟨by repeat (first | (with_reducible first | exact HB.out | apply below_alloc | apply pw_below_drewN | apply below_drew1 | refine below_set ?_ (IsS68.ge HI0.out)) | exact HB.out)⟩⟩
 case round =>
  clear H'
  try clear p2
  try clear c6
  try clear p6
  obtain ⟨x7_1, x8_1, x1001_1, rfl, HA, HK1, HO_7, HI0, HK, HB⟩ := hrel
  cases gk with
  | zero => exact absurd HA.out (by simp [spec_l20Term.l0])
  | succ k1 =>
   have H := HA.out
   clear HA
   simp only [spec_l20Term.l0] at H
   by_cases c10 : x8_1 > 0
   ·rw [if_pos c10] at H
    have c10b0 : decide (0 < x8_1) = true := decide_eq_true c10
    clear c10
    replace H := Option.bind_eq_some_iff.mp H
    obtain ⟨⟨t117, t118⟩, A110, H⟩ := H
    replace H : (if t117 = 0 then ((spec_l20Rd_pick.f k1 s0_0 t118 (wrap64 (ji5 + 2))).bind fun bt119 => (if x7_1.length < 5864062014805 then (spec_l20Term.l0 k1 ji5 a2 (x7_1 ++ [(([(⟨1, bt119.1⟩ : S41)] : List (S41)))]) (wrap64 (x8_1 - 1)) s0_0 bt119.2) else (none))) else ((spec_l20Rd_pick.f k1 s0_0 t118 ji5).bind fun bt127 => (if x7_1.length < 5864062014805 then (spec_l20Term.l0 k1 ji5 a2 (x7_1 ++ [(([(⟨0, bt127.1⟩ : S41)] : List (S41)))]) (wrap64 (x8_1 - 1)) s0_0 bt127.2) else (none)))) = some (r1, r2) := H
    have A11 := Aside0.mk A110
    clear A110
    by_cases c12 : t117 = 0
    ·rw [if_pos c12] at H
     have c12b0 : (t117 == 0) = true := beq_iff_eq.mpr c12
     have c12b1 : (t117 != 0) = false := bne_eq_false_iff_eq.mpr c12
     clear c12
     replace H := Option.bind_eq_some_iff.mp H
     obtain ⟨⟨t119, t120⟩, A130, H⟩ := H
     replace H : (if x7_1.length < 5864062014805 then (spec_l20Term.l0 k1 ji5 a2 (x7_1 ++ [(([(⟨1, t119⟩ : S41)] : List (S41)))]) (wrap64 (x8_1 - 1)) s0_0 t120) else (none)) = some (r1, r2) := H
     have A13 := Aside0.mk A130
     clear A130
     obtain ⟨y121, hy121⟩ : ∃ y_ : List (S41), y_ = (([(⟨1, t119⟩ : S41)] : List (S41))) := ⟨_, rfl⟩
     replace H : (if x7_1.length < 5864062014805 then (spec_l20Term.l0 k1 ji5 a2 (x7_1 ++ [y121]) (wrap64 (x8_1 - 1)) s0_0 t120) else (none)) = some (r1, r2) := by first | (rw [hy121]; with_reducible exact H) | (have H2_ := (Option.bind_some _ _).symm.trans H; rw [hy121]; with_reducible exact H2_) | (have H2_ := (Option.bind_some _ _).symm.trans H; with_reducible exact H2_) | with_reducible exact H | (rw [hy121]; exact H) | exact H
     have Ny121 := Aside0.mk hy121
     clear hy121
     by_cases c14 : x7_1.length < 5864062014805
     ·rw [if_pos c14] at H
      have LMc14 := Aside0.mk c14
      clear c14
      obtain ⟨y124, hy124⟩ : ∃ y_ : List (List (S41)), y_ = (x7_1 ++ [y121]) := ⟨_, rfl⟩
      replace H : (spec_l20Term.l0 k1 ji5 a2 y124 (wrap64 (x8_1 - 1)) s0_0 t120) = some (r1, r2) := by first | (rw [hy124]; with_reducible exact H) | (have H2_ := (Option.bind_some _ _).symm.trans H; rw [hy124]; with_reducible exact H2_) | (have H2_ := (Option.bind_some _ _).symm.trans H; with_reducible exact H2_) | with_reducible exact H | (rw [hy124]; exact H) | exact H
      have Ny124 := Aside0.mk hy124
      clear hy124
      have H' := Aside0.mk H
      clear H
      go_wp2_with (first | ((with_reducible refine gate_callee (f := 64) rfl ?_); refine goesL_ (some 26) rfl rfl Try.func64 (by kernel_rfl) rfl #[.pointer (some ⟨g, 0, none⟩), .int .i64 4] rfl (by (try simp only [List.map_toArray, List.map_cons, List.map_nil]); first | done | rfl | (simp only [List.length_drop, List.length_take]; rfl)) ?_; (with_reducible refine (spec_l20Rd_pick.calls k1 g s0_0 x1001_1 4 t117 t118 w0 _ ?side1 ?side2 A11.out).mono ?_); (case side1 => repeat (first | (with_reducible first | exact HI0.out | apply IsS68.alloc | apply IsS68.drewN | apply IsS68.drew | apply IsS68.set_1) | exact HI0.out)); (case side2 => repeat (first | (with_reducible first | exact HB.out | apply below_alloc | apply pw_below_drewN | apply below_drew1 | refine below_set ?_ (IsS68.ge HI0.out)) | exact HB.out)); rintro e w15 ⟨rfl, hi, hb, hk⟩; refine ⟨_, rfl, ?_⟩; have n0_ := Aside0.mk (Kd.R_mono (Kd.R_keep (IsS68.apart (show IsS68 w0 _ g s0_0 x1001_1 from by repeat (first | (with_reducible first | exact HI0.out | apply IsS68.alloc | apply IsS68.drewN | apply IsS68.drew | apply IsS68.set_1) | exact HI0.out)) (by (with_reducible repeat apply Kd.R_alloc); exact HO_7.out) (by decide)) hk (fun _ h => h.2)) (fun _ h => h.1)); have n1_ := Aside0.mk (KeepBut.trans (by repeat (first | (with_reducible first | exact HK.out | apply KeepBut.set_ | apply keep_drewN | apply keep_drew | apply keep_alloc) | exact HK.out)) hk (.inl rfl)); have n2_ := Aside0.mk (hb); have n3_ := Aside0.mk (hi); clear HO_7; clear HK; clear HB; clear HI0; have HO_7 := n0_; have HK := n1_; have HB := n2_; have HI0 := n3_; clear n0_ n1_ n2_ n3_; (try clear hb); (try clear hb2); (try clear hk); (try clear hi)) | ((with_reducible refine gate_callee (f := 64) rfl ?_); refine goesL_ (some 32) rfl rfl Try.func64 (by kernel_rfl) rfl #[.pointer (some ⟨g, 0, none⟩), .int .i64 (wrap64 (ji5 + 2))] rfl (by (try simp only [List.map_toArray, List.map_cons, List.map_nil]); first | done | (simp only [show wrap64 (ji5 + 2) = ji5 + 2 from (by have h4_ := hji5_; unfold wrap64; split at h4_ <;> omega)]; rfl) | (simp only [hji5]; rfl) | rfl | (simp only [List.length_drop, List.length_take]; rfl)) ?_; (with_reducible refine (spec_l20Rd_pick.calls k1 g s0_0 t118 (wrap64 (ji5 + 2)) t119 t120 w0 _ ?side1 ?side2 A13.out).mono ?_); (case side1 => repeat (first | (with_reducible first | exact HI0.out | apply IsS68.alloc | apply IsS68.drewN | apply IsS68.drew | apply IsS68.set_1) | exact HI0.out)); (case side2 => repeat (first | (with_reducible first | exact HB.out | apply below_alloc | apply pw_below_drewN | apply below_drew1 | refine below_set ?_ (IsS68.ge HI0.out)) | exact HB.out)); rintro e w16 ⟨rfl, hi, hb, hk⟩; refine ⟨_, rfl, ?_⟩; have n0_ := Aside0.mk (Kd.R_mono (Kd.R_keep (IsS68.apart (show IsS68 w0 _ g s0_0 t118 from by repeat (first | (with_reducible first | exact HI0.out | apply IsS68.alloc | apply IsS68.drewN | apply IsS68.drew | apply IsS68.set_1) | exact HI0.out)) (by (with_reducible repeat apply Kd.R_alloc); exact HO_7.out) (by decide)) hk (fun _ h => h.2)) (fun _ h => h.1)); have n1_ := Aside0.mk (KeepBut.trans (by repeat (first | (with_reducible first | exact HK.out | apply KeepBut.set_ | apply keep_drewN | apply keep_drew | apply keep_alloc) | exact HK.out)) hk (.inl rfl)); have n2_ := Aside0.mk (hb); have n3_ := Aside0.mk (hi); clear HO_7; clear HK; clear HB; clear HI0; have HO_7 := n0_; have HK := n1_; have HB := n2_; have HI0 := n3_; clear n0_ n1_ n2_ n3_; (try clear hb); (try clear hb2); (try clear hk); (try clear hi)) | ((with_reducible refine gate_dst (N := 34) rfl ?_); refine Kd.R_lit k41 _ 41 ?hg (N := 34) ?hd (xs := ([(⟨1, t119⟩ : S41)] : List (S41))) (inner := [.int .i64 1, .int .i64 t119]) (ok := fun _ => True) (okp := fun _ => True) ?hr ?hp (fun _ hk => hk) trivial (Below.refl _ _) (Nat.le_refl _) (by simp) ?_; (case hd => rfl); (case hg => rfl); (case hr => first | (go_simp; done) | (go_simp; rfl)); (case hp => exact (Reps.c2 (show Kd.M k41 _ _ _ (⟨1, t119⟩ : S41) [.int .i64 1, .int .i64 t119] from (k41_mkM _ _ _ (⟨1, t119⟩ : S41) )) (Reps.none _ _))); intro v122 w17 ho18 hb hg_ hnew_; clear hg_ hnew_; (first | rw [← Ny121.out] at ho18 | (simp only [Int.reduceToNat] at ho18; rw [← Ny121.out] at ho18)); have n0_ := Aside0.mk (Kd.R_elder' (by (with_reducible repeat apply Kd.R_alloc); exact HO_7.out) (Kd.R_base ho18) hb); have n1_ := Aside0.mk (Kd.R_lower ho18 (keep_size (w := w) (g := g) (row := none) (by repeat (first | (with_reducible first | exact HK.out | apply KeepBut.set_ | apply keep_drewN | apply keep_drew | apply keep_alloc) | exact HK.out)))); have n2_ := Aside0.mk (IsS68.below (by repeat (first | (with_reducible first | exact HI0.out | apply IsS68.alloc | apply IsS68.drewN | apply IsS68.drew | apply IsS68.set_1) | exact HI0.out)) hb); have n3_ := Aside0.mk (KeepBut.trans (by repeat (first | (with_reducible first | exact HK.out | apply KeepBut.set_ | apply keep_drewN | apply keep_drew | apply keep_alloc) | exact HK.out)) (KeepBut.of_below hb g none) (.inl rfl)); have n4_ := Aside0.mk (below_step (by repeat (first | (with_reducible first | exact HB.out | apply below_alloc | apply pw_below_drewN | apply below_drew1 | refine below_set ?_ (IsS68.ge HI0.out)) | exact HB.out)) hb); clear HO_7; clear HI0; clear HK; clear HB; have HO_7 := n0_; have HO123 := n1_; have HI0 := n2_; have HK := n3_; have HB := n4_; clear n0_ n1_ n2_ n3_ n4_; clear hb ho18; obtain ⟨Ao20, co20, eo20⟩ := Kd.R_slice HO123.out; subst eo20) | ((with_reducible refine gate_builtin (b := .append) (xs := #[.tmp 28, .tmp 35]) rfl ?_); at_builtin; refine Kd.R_append (Kd.slice 41 k41) w.heap.size rfl (.tmp 28) (.tmp 35) 72 23 (.slice none 0 0) 24 rfl Try.underlying72 info23 rfl (by decide) (by omega) u7 x7_1 y121 [.slice Ao20 y121.length co20] (fun _ => True) (fun k_ => ((fun _ => True)) k_ ∧ some k_ ≠ (u7 : Value).ownBlock) rfl rfl ?aP (fun _ hk => hk) ?aF ?aO (Below.refl _ _) ?aS ?aL ?_; (case aP => exact Kd.M_row (Kd.R_mono (Kd.R_apart' (HO123.out) (Kd.R_typed HO_7.out) (by decide)) (fun k_ hk => ⟨trivial, hk.2⟩))); (case aF => exact (fun _ _ => trivial)); (case aO => exact (by (with_reducible repeat apply Kd.R_alloc); exact Kd.R_mono HO_7.out (fun _ hk => trivial))); (case aS => exact (keep_size (w := w) (g := g) (row := none) (by repeat (first | (with_reducible first | exact HK.out | apply KeepBut.set_ | apply keep_drewN | apply keep_drew | apply keep_alloc) | exact HK.out)))); (case aL => have := LMc14.out; omega); intro v125 w19 ho hb hg hat; rw [← Ny124.out] at ho; have n0_ := Aside0.mk (IsS68.grown (by repeat (first | (with_reducible first | exact HI0.out | apply IsS68.alloc | apply IsS68.drewN | apply IsS68.drew | apply IsS68.set_1) | exact HI0.out)) hg (IsS68.own_ne HI0.out HO_7.out (by decide))); have n1_ := Aside0.mk (below_weaken (by repeat (first | (with_reducible first | exact HB.out | apply below_alloc | apply pw_below_drewN | apply below_drew1 | refine below_set ?_ (IsS68.ge HI0.out)) | exact HB.out)) HL.out hb); have n2_ := Aside0.mk (KeepBut.trans (by repeat (first | (with_reducible first | exact HK.out | apply KeepBut.set_ | apply keep_drewN | apply keep_drew | apply keep_alloc) | exact HK.out)) (KeepBut.of_grown hg g) (Kd.R_base2 HO_7.out)); have n3_ := Aside0.mk (ho); clear HI0; clear HB; clear HK; clear HO_7; clear HO123; have HI0 := n0_; have HB := n1_; have HK := n2_; have HO126 := n3_; clear n0_ n1_ n2_ n3_; clear ho hb hg hat))
      go_roundg k1
      case measure => have := HK1.out; omega
      case rel => exact ⟨(y124), (wrap64 (x8_1 - 1)), (t120), (by first | rfl | (simp; done) | (simp [*]; done)), H', ⟨by have := HK1.out; omega⟩, ⟨by (with_reducible repeat apply Kd.R_alloc); exact HO126.out⟩, ⟨by repeat (first | (with_reducible first | exact HI0.out | apply IsS68.alloc | apply IsS68.drewN | apply IsS68.drew | apply IsS68.set_1) | exact HI0.out)⟩, ⟨by repeat (first | (with_reducible first | exact HK.out | apply KeepBut.set_ | apply keep_drewN | apply keep_drew | apply keep_alloc) | exact HK.out)⟩, ⟨by repeat (first | (with_reducible first | exact HB.out | apply below_alloc | apply pw_below_drewN | apply below_drew1 | refine below_set ?_ (IsS68.ge HI0.out)) | exact HB.out)⟩⟩
     ·rw [if_neg c14] at H
      exact absurd H (by simp)
    ·rw [if_neg c12] at H
     have c12b0 : (t117 == 0) = false := beq_eq_false_iff_ne.mpr c12
     have c12b1 : (t117 != 0) = true := bne_iff_ne.mpr c12
     replace H := Option.bind_eq_some_iff.mp H
     obtain ⟨⟨t127, t128⟩, A210, H⟩ := H
     replace H : (if x7_1.length < 5864062014805 then (spec_l20Term.l0 k1 ji5 a2 (x7_1 ++ [(([(⟨0, t127⟩ : S41)] : List (S41)))]) (wrap64 (x8_1 - 1)) s0_0 t128) else (none)) = some (r1, r2) := H
     have A21 := Aside0.mk A210
     clear A210
     obtain ⟨y129, hy129⟩ : ∃ y_ : List (S41), y_ = (([(⟨0, t127⟩ : S41)] : List (S41))) := ⟨_, rfl⟩
     replace H : (if x7_1.length < 5864062014805 then (spec_l20Term.l0 k1 ji5 a2 (x7_1 ++ [y129]) (wrap64 (x8_1 - 1)) s0_0 t128) else (none)) = some (r1, r2) := by first | (rw [hy129]; with_reducible exact H) | (have H2_ := (Option.bind_some _ _).symm.trans H; rw [hy129]; with_reducible exact H2_) | (have H2_ := (Option.bind_some _ _).symm.trans H; with_reducible exact H2_) | with_reducible exact H | (rw [hy129]; exact H) | exact H
     have Ny129 := Aside0.mk hy129
     clear hy129
     by_cases c22 : x7_1.length < 5864062014805
     ·rw [if_pos c22] at H
      have LMc22 := Aside0.mk c22
      clear c22
      obtain ⟨y132, hy132⟩ : ∃ y_ : List (List (S41)), y_ = (x7_1 ++ [y129]) := ⟨_, rfl⟩
      replace H : (spec_l20Term.l0 k1 ji5 a2 y132 (wrap64 (x8_1 - 1)) s0_0 t128) = some (r1, r2) := by first | (rw [hy132]; with_reducible exact H) | (have H2_ := (Option.bind_some _ _).symm.trans H; rw [hy132]; with_reducible exact H2_) | (have H2_ := (Option.bind_some _ _).symm.trans H; with_reducible exact H2_) | with_reducible exact H | (rw [hy132]; exact H) | exact H
      have Ny132 := Aside0.mk hy132
      clear hy132
      have H' := Aside0.mk H
      clear H
      go_wp2_with (first | ((with_reducible refine gate_callee (f := 64) rfl ?_); refine goesL_ (some 26) rfl rfl Try.func64 (by kernel_rfl) rfl #[.pointer (some ⟨g, 0, none⟩), .int .i64 4] rfl (by (try simp only [List.map_toArray, List.map_cons, List.map_nil]); first | done | rfl | (simp only [List.length_drop, List.length_take]; rfl)) ?_; (with_reducible refine (spec_l20Rd_pick.calls k1 g s0_0 x1001_1 4 t117 t118 w0 _ ?side1 ?side2 A11.out).mono ?_); (case side1 => repeat (first | (with_reducible first | exact HI0.out | apply IsS68.alloc | apply IsS68.drewN | apply IsS68.drew | apply IsS68.set_1) | exact HI0.out)); (case side2 => repeat (first | (with_reducible first | exact HB.out | apply below_alloc | apply pw_below_drewN | apply below_drew1 | refine below_set ?_ (IsS68.ge HI0.out)) | exact HB.out)); rintro e w23 ⟨rfl, hi, hb, hk⟩; refine ⟨_, rfl, ?_⟩; have n0_ := Aside0.mk (Kd.R_mono (Kd.R_keep (IsS68.apart (show IsS68 w0 _ g s0_0 x1001_1 from by repeat (first | (with_reducible first | exact HI0.out | apply IsS68.alloc | apply IsS68.drewN | apply IsS68.drew | apply IsS68.set_1) | exact HI0.out)) (by (with_reducible repeat apply Kd.R_alloc); exact HO_7.out) (by decide)) hk (fun _ h => h.2)) (fun _ h => h.1)); have n1_ := Aside0.mk (KeepBut.trans (by repeat (first | (with_reducible first | exact HK.out | apply KeepBut.set_ | apply keep_drewN | apply keep_drew | apply keep_alloc) | exact HK.out)) hk (.inl rfl)); have n2_ := Aside0.mk (hb); have n3_ := Aside0.mk (hi); clear HO_7; clear HK; clear HB; clear HI0; have HO_7 := n0_; have HK := n1_; have HB := n2_; have HI0 := n3_; clear n0_ n1_ n2_ n3_; (try clear hb); (try clear hb2); (try clear hk); (try clear hi)) | ((with_reducible refine gate_callee (f := 64) rfl ?_); refine goesL_ (some 40) rfl rfl Try.func64 (by kernel_rfl) rfl #[.pointer (some ⟨g, 0, none⟩), .int .i64 ji5] rfl (by (try simp only [List.map_toArray, List.map_cons, List.map_nil]); first | done | (simp only [hji5]; rfl) | rfl | (simp only [List.length_drop, List.length_take]; rfl)) ?_; (with_reducible refine (spec_l20Rd_pick.calls k1 g s0_0 t118 ji5 t127 t128 w0 _ ?side1 ?side2 A21.out).mono ?_); (case side1 => repeat (first | (with_reducible first | exact HI0.out | apply IsS68.alloc | apply IsS68.drewN | apply IsS68.drew | apply IsS68.set_1) | exact HI0.out)); (case side2 => repeat (first | (with_reducible first | exact HB.out | apply below_alloc | apply pw_below_drewN | apply below_drew1 | refine below_set ?_ (IsS68.ge HI0.out)) | exact HB.out)); rintro e w24 ⟨rfl, hi, hb, hk⟩; refine ⟨_, rfl, ?_⟩; have n0_ := Aside0.mk (Kd.R_mono (Kd.R_keep (IsS68.apart (show IsS68 w0 _ g s0_0 t118 from by repeat (first | (with_reducible first | exact HI0.out | apply IsS68.alloc | apply IsS68.drewN | apply IsS68.drew | apply IsS68.set_1) | exact HI0.out)) (by (with_reducible repeat apply Kd.R_alloc); exact HO_7.out) (by decide)) hk (fun _ h => h.2)) (fun _ h => h.1)); have n1_ := Aside0.mk (KeepBut.trans (by repeat (first | (with_reducible first | exact HK.out | apply KeepBut.set_ | apply keep_drewN | apply keep_drew | apply keep_alloc) | exact HK.out)) hk (.inl rfl)); have n2_ := Aside0.mk (hb); have n3_ := Aside0.mk (hi); clear HO_7; clear HK; clear HB; clear HI0; have HO_7 := n0_; have HK := n1_; have HB := n2_; have HI0 := n3_; clear n0_ n1_ n2_ n3_; (try clear hb); (try clear hb2); (try clear hk); (try clear hi)) | ((with_reducible refine gate_dst (N := 42) rfl ?_); refine Kd.R_lit k41 _ 41 ?hg (N := 42) ?hd (xs := ([(⟨0, t127⟩ : S41)] : List (S41))) (inner := [.int .i64 0, .int .i64 t127]) (ok := fun _ => True) (okp := fun _ => True) ?hr ?hp (fun _ hk => hk) trivial (Below.refl _ _) (Nat.le_refl _) (by simp) ?_; (case hd => rfl); (case hg => rfl); (case hr => first | (go_simp; done) | (go_simp; rfl)); (case hp => exact (Reps.c2 (show Kd.M k41 _ _ _ (⟨0, t127⟩ : S41) [.int .i64 0, .int .i64 t127] from (k41_mkM _ _ _ (⟨0, t127⟩ : S41) )) (Reps.none _ _))); intro v130 w25 ho26 hb hg_ hnew_; clear hg_ hnew_; (first | rw [← Ny129.out] at ho26 | (simp only [Int.reduceToNat] at ho26; rw [← Ny129.out] at ho26)); have n0_ := Aside0.mk (Kd.R_elder' (by (with_reducible repeat apply Kd.R_alloc); exact HO_7.out) (Kd.R_base ho26) hb); have n1_ := Aside0.mk (Kd.R_lower ho26 (keep_size (w := w) (g := g) (row := none) (by repeat (first | (with_reducible first | exact HK.out | apply KeepBut.set_ | apply keep_drewN | apply keep_drew | apply keep_alloc) | exact HK.out)))); have n2_ := Aside0.mk (IsS68.below (by repeat (first | (with_reducible first | exact HI0.out | apply IsS68.alloc | apply IsS68.drewN | apply IsS68.drew | apply IsS68.set_1) | exact HI0.out)) hb); have n3_ := Aside0.mk (KeepBut.trans (by repeat (first | (with_reducible first | exact HK.out | apply KeepBut.set_ | apply keep_drewN | apply keep_drew | apply keep_alloc) | exact HK.out)) (KeepBut.of_below hb g none) (.inl rfl)); have n4_ := Aside0.mk (below_step (by repeat (first | (with_reducible first | exact HB.out | apply below_alloc | apply pw_below_drewN | apply below_drew1 | refine below_set ?_ (IsS68.ge HI0.out)) | exact HB.out)) hb); clear HO_7; clear HI0; clear HK; clear HB; have HO_7 := n0_; have HO131 := n1_; have HI0 := n2_; have HK := n3_; have HB := n4_; clear n0_ n1_ n2_ n3_ n4_; clear hb ho26; obtain ⟨Ao28, co28, eo28⟩ := Kd.R_slice HO131.out; subst eo28) | ((with_reducible refine gate_builtin (b := .append) (xs := #[.tmp 37, .tmp 43]) rfl ?_); at_builtin; refine Kd.R_append (Kd.slice 41 k41) w.heap.size rfl (.tmp 37) (.tmp 43) 72 23 (.slice none 0 0) 24 rfl Try.underlying72 info23 rfl (by decide) (by omega) u7 x7_1 y129 [.slice Ao28 y129.length co28] (fun _ => True) (fun k_ => ((fun _ => True)) k_ ∧ some k_ ≠ (u7 : Value).ownBlock) rfl rfl ?aP (fun _ hk => hk) ?aF ?aO (Below.refl _ _) ?aS ?aL ?_; (case aP => exact Kd.M_row (Kd.R_mono (Kd.R_apart' (HO131.out) (Kd.R_typed HO_7.out) (by decide)) (fun k_ hk => ⟨trivial, hk.2⟩))); (case aF => exact (fun _ _ => trivial)); (case aO => exact (by (with_reducible repeat apply Kd.R_alloc); exact Kd.R_mono HO_7.out (fun _ hk => trivial))); (case aS => exact (keep_size (w := w) (g := g) (row := none) (by repeat (first | (with_reducible first | exact HK.out | apply KeepBut.set_ | apply keep_drewN | apply keep_drew | apply keep_alloc) | exact HK.out)))); (case aL => have := LMc22.out; omega); intro v133 w27 ho hb hg hat; rw [← Ny132.out] at ho; have n0_ := Aside0.mk (IsS68.grown (by repeat (first | (with_reducible first | exact HI0.out | apply IsS68.alloc | apply IsS68.drewN | apply IsS68.drew | apply IsS68.set_1) | exact HI0.out)) hg (IsS68.own_ne HI0.out HO_7.out (by decide))); have n1_ := Aside0.mk (below_weaken (by repeat (first | (with_reducible first | exact HB.out | apply below_alloc | apply pw_below_drewN | apply below_drew1 | refine below_set ?_ (IsS68.ge HI0.out)) | exact HB.out)) HL.out hb); have n2_ := Aside0.mk (KeepBut.trans (by repeat (first | (with_reducible first | exact HK.out | apply KeepBut.set_ | apply keep_drewN | apply keep_drew | apply keep_alloc) | exact HK.out)) (KeepBut.of_grown hg g) (Kd.R_base2 HO_7.out)); have n3_ := Aside0.mk (ho); clear HI0; clear HB; clear HK; clear HO_7; clear HO131; have HI0 := n0_; have HB := n1_; have HK := n2_; have HO134 := n3_; clear n0_ n1_ n2_ n3_; clear ho hb hg hat))
      go_roundg k1
      case measure => have := HK1.out; omega
      case rel => exact ⟨(y132), (wrap64 (x8_1 - 1)), (t128), (by first | rfl | (simp; done) | (simp [*]; done)), H', ⟨by have := HK1.out; omega⟩, ⟨by (with_reducible repeat apply Kd.R_alloc); exact HO134.out⟩, ⟨by repeat (first | (with_reducible first | exact HI0.out | apply IsS68.alloc | apply IsS68.drewN | apply IsS68.drew | apply IsS68.set_1) | exact HI0.out)⟩, ⟨by repeat (first | (with_reducible first | exact HK.out | apply KeepBut.set_ | apply keep_drewN | apply keep_drew | apply keep_alloc) | exact HK.out)⟩, ⟨by repeat (first | (with_reducible first | exact HB.out | apply below_alloc | apply pw_below_drewN | apply below_drew1 | refine below_set ?_ (IsS68.ge HI0.out)) | exact HB.out)⟩⟩
     ·rw [if_neg c22] at H
      exact absurd H (by simp)
   ·rw [if_neg c10] at H
    have c10b0 : decide (0 < x8_1) = false := decide_eq_false c10
    clear c10
    have H' := Aside0.mk H
    clear H
    go_wp2
    go_loopg [7, 9] k1 (fun kq v7 v9 w' => ∃ (x7_2 : List (List (S41))) (x9_2 : Int) (x1001_2 : Int), v9 = .int .i64 x9_2 ∧ Aside0 (spec_l20Term.l1 kq a2 x7_2 x9_2 s0_0 x1001_2 = some (r1, r2)) ∧ Aside0 (kq ≤ k1) ∧ Aside0 (Kd.R (Kd.slice 41 k41) 23 w' w.heap.size (fun _ => True) v7 x7_2) ∧ Aside0 (IsS68 w0 w' g s0_0 x1001_2) ∧ Aside0 (KeepBut w w' g none) ∧ Aside0 (Below w0.heap.size w0 w'))
    case atStart => exact ⟨(x7_1), (3), (x1001_1), (by first | rfl | (simp; done) | (simp [*]; done)), H', ⟨Nat.le_refl _⟩, ⟨by (with_reducible repeat apply Kd.R_alloc); exact HO_7.out⟩, ⟨by repeat (first | (with_reducible first | exact HI0.out | apply IsS68.alloc | apply IsS68.drewN | apply IsS68.drew | apply IsS68.set_1) | exact HI0.out)⟩, ⟨by repeat (first | (with_reducible first | exact HK.out | apply KeepBut.set_ | apply keep_drewN | apply keep_drew | apply keep_alloc) | exact HK.out)⟩, ⟨by repeat (first | (with_reducible first | exact HB.out | apply below_alloc | apply pw_below_drewN | apply below_drew1 | refine below_set ?_ (IsS68.ge HI0.out)) | exact HB.out)⟩⟩
    case round =>
     clear H'
     try clear c1
     try clear c2
     try clear p2
     try clear c6
     try clear p6
     try clear c10
     try clear c10b0
     try clear c12
     try clear c12b0
     try clear c12b1
     try clear c14
     try clear c22
     try clear p2
     try clear p6
     obtain ⟨x7_2, x9_2, x1001_2, rfl, HA, HK2, HO_7, HI0, HK, HB⟩ := hrel
     cases gk with
     | zero => exact absurd HA.out (by simp [spec_l20Term.l1])
     | succ k2 =>
      have H := HA.out
      clear HA
      simp only [spec_l20Term.l1] at H
      by_cases c29 : (x7_2.length : Int) > 1
      ·rw [if_pos c29] at H
       have c29b0 : decide (1 < (x7_2.length : Int)) = true := decide_eq_true c29
       have c29b1 : decide (1 < x7_2.length) = true := decide_eq_true (by omega)
       clear c29
       replace H := Option.bind_eq_some_iff.mp H
       obtain ⟨⟨t135, t136⟩, A300, H⟩ := H
       replace H : (if x9_2 > 0 then ((spec_l20Rd_pick.f k2 s0_0 t136 4).bind fun bt137 => (if bt137.1 = 0 then ((some (([] : List (S41)) : List (S41))).bind fun y139 => (if 0 ≤ t135 then (if t135 < (x7_2.length : Int) then (if y139.length + (rd_L3 x7_2 t135).length < 8796093022208 then ((some (y139 ++ (rd_L3 x7_2 t135) : List (S41))).bind fun y143 => (if y143.length < 8796093022208 then (spec_l20Term.l1 k2 a2 (x7_2.set (t135 : Int).toNat (y143 ++ [(⟨2, 0⟩ : S41)])) (wrap64 (x9_2 - 1)) s0_0 bt137.2) else (none))) else (none)) else (none)) else (none))) else ((some (([] : List (S41)) : List (S41))).bind fun y150 => (if 0 ≤ t135 then (if t135 < (x7_2.length : Int) then (if y150.length + (rd_L3 x7_2 t135).length < 8796093022208 then ((some (y150 ++ (rd_L3 x7_2 t135) : List (S41))).bind fun y154 => (if 0 ≤ (wrap64 (t135 + 1)) then (if (wrap64 (t135 + 1)) < (x7_2.length : Int) then (if y154.length + (rd_L3 x7_2 (wrap64 (t135 + 1))).length < 8796093022208 then ((some (y154 ++ (rd_L3 x7_2 (wrap64 (t135 + 1))) : List (S41))).bind fun y158 => ((spec_l20Rd_pick.f k2 s0_0 bt137.2 3).bind fun bt161 => (if y158.length < 8796093022208 then ((some (([] : List (List (S41))) : List (List (S41)))).bind fun y166 => (if t135 ≤ (x7_2.length : Int) then ((some (x7_2.take (t135 : Int).toNat : List (List (S41)))).bind fun y169 => (if y166.length + y169.length < 5864062014805 then ((some (y166 ++ y169 : List (List (S41)))).bind fun y173 => (if y173.length < 5864062014805 then ((some (y173 ++ [(y158 ++ [(⟨wrap64 (3 + bt161.1), 0⟩ : S41)])] : List (List (S41)))).bind fun y176 => (if 0 ≤ (wrap64 (t135 + 2)) then (if (wrap64 (t135 + 2)) ≤ (x7_2.length : Int) then ((some (x7_2.drop ((wrap64 (t135 + 2)) : Int).toNat : List (List (S41)))).bind fun y179 => (if y176.length + y179.length < 5864062014805 then (spec_l20Term.l1 k2 a2 (y176 ++ y179) x9_2 s0_0 bt161.2) else (none))) else (none)) else (none))) else (none))) else (none))) else (none))) else (none)))) else (none)) else (none)) else (none))) else (none)) else (none)) else (none))))) else ((some (([] : List (S41)) : List (S41))).bind fun y186 => (if 0 ≤ t135 then (if t135 < (x7_2.length : Int) then (if y186.length + (rd_L3 x7_2 t135).length < 8796093022208 then ((some (y186 ++ (rd_L3 x7_2 t135) : List (S41))).bind fun y190 => (if 0 ≤ (wrap64 (t135 + 1)) then (if (wrap64 (t135 + 1)) < (x7_2.length : Int) then (if y190.length + (rd_L3 x7_2 (wrap64 (t135 + 1))).length < 8796093022208 then ((some (y190 ++ (rd_L3 x7_2 (wrap64 (t135 + 1))) : List (S41))).bind fun y194 => ((spec_l20Rd_pick.f k2 s0_0 t136 3).bind fun bt197 => (if y194.length < 8796093022208 then ((some (([] : List (List (S41))) : List (List (S41)))).bind fun y202 => (if t135 ≤ (x7_2.length : Int) then ((some (x7_2.take (t135 : Int).toNat : List (List (S41)))).bind fun y205 => (if y202.length + y205.length < 5864062014805 then ((some (y202 ++ y205 : List (List (S41)))).bind fun y209 => (if y209.length < 5864062014805 then ((some (y209 ++ [(y194 ++ [(⟨wrap64 (3 + bt197.1), 0⟩ : S41)])] : List (List (S41)))).bind fun y212 => (if 0 ≤ (wrap64 (t135 + 2)) then (if (wrap64 (t135 + 2)) ≤ (x7_2.length : Int) then ((some (x7_2.drop ((wrap64 (t135 + 2)) : Int).toNat : List (List (S41)))).bind fun y215 => (if y212.length + y215.length < 5864062014805 then (spec_l20Term.l1 k2 a2 (y212 ++ y215) x9_2 s0_0 bt197.2) else (none))) else (none)) else (none))) else (none))) else (none))) else (none))) else (none)))) else (none)) else (none)) else (none))) else (none)) else (none)) else (none)))) = some (r1, r2) := H
       have A30 := Aside0.mk A300
       clear A300
       by_cases c31 : x9_2 > 0
       ·rw [if_pos c31] at H
        have c31b0 : decide (0 < x9_2) = true := decide_eq_true c31
        clear c31
        replace H := Option.bind_eq_some_iff.mp H
        obtain ⟨⟨t137, t138⟩, A320, H⟩ := H
        replace H : (if t137 = 0 then ((some (([] : List (S41)) : List (S41))).bind fun y139 => (if 0 ≤ t135 then (if t135 < (x7_2.length : Int) then (if y139.length + (rd_L3 x7_2 t135).length < 8796093022208 then ((some (y139 ++ (rd_L3 x7_2 t135) : List (S41))).bind fun y143 => (if y143.length < 8796093022208 then (spec_l20Term.l1 k2 a2 (x7_2.set (t135 : Int).toNat (y143 ++ [(⟨2, 0⟩ : S41)])) (wrap64 (x9_2 - 1)) s0_0 t138) else (none))) else (none)) else (none)) else (none))) else ((some (([] : List (S41)) : List (S41))).bind fun y150 => (if 0 ≤ t135 then (if t135 < (x7_2.length : Int) then (if y150.length + (rd_L3 x7_2 t135).length < 8796093022208 then ((some (y150 ++ (rd_L3 x7_2 t135) : List (S41))).bind fun y154 => (if 0 ≤ (wrap64 (t135 + 1)) then (if (wrap64 (t135 + 1)) < (x7_2.length : Int) then (if y154.length + (rd_L3 x7_2 (wrap64 (t135 + 1))).length < 8796093022208 then ((some (y154 ++ (rd_L3 x7_2 (wrap64 (t135 + 1))) : List (S41))).bind fun y158 => ((spec_l20Rd_pick.f k2 s0_0 t138 3).bind fun bt161 => (if y158.length < 8796093022208 then ((some (([] : List (List (S41))) : List (List (S41)))).bind fun y166 => (if t135 ≤ (x7_2.length : Int) then ((some (x7_2.take (t135 : Int).toNat : List (List (S41)))).bind fun y169 => (if y166.length + y169.length < 5864062014805 then ((some (y166 ++ y169 : List (List (S41)))).bind fun y173 => (if y173.length < 5864062014805 then ((some (y173 ++ [(y158 ++ [(⟨wrap64 (3 + bt161.1), 0⟩ : S41)])] : List (List (S41)))).bind fun y176 => (if 0 ≤ (wrap64 (t135 + 2)) then (if (wrap64 (t135 + 2)) ≤ (x7_2.length : Int) then ((some (x7_2.drop ((wrap64 (t135 + 2)) : Int).toNat : List (List (S41)))).bind fun y179 => (if y176.length + y179.length < 5864062014805 then (spec_l20Term.l1 k2 a2 (y176 ++ y179) x9_2 s0_0 bt161.2) else (none))) else (none)) else (none))) else (none))) else (none))) else (none))) else (none)))) else (none)) else (none)) else (none))) else (none)) else (none)) else (none)))) = some (r1, r2) := H
        have A32 := Aside0.mk A320
        clear A320
        by_cases c33 : t137 = 0
        ·rw [if_pos c33] at H
         have c33b0 : (t137 == 0) = true := beq_iff_eq.mpr c33
         have c33b1 : (t137 != 0) = false := bne_eq_false_iff_eq.mpr c33
         clear c33
         obtain ⟨y139, hy139⟩ : ∃ y_ : List (S41), y_ = (([] : List (S41))) := ⟨_, rfl⟩
         replace H : (if 0 ≤ t135 then (if t135 < (x7_2.length : Int) then (if y139.length + (rd_L3 x7_2 t135).length < 8796093022208 then ((some (y139 ++ (rd_L3 x7_2 t135) : List (S41))).bind fun y143 => (if y143.length < 8796093022208 then (spec_l20Term.l1 k2 a2 (x7_2.set (t135 : Int).toNat (y143 ++ [(⟨2, 0⟩ : S41)])) (wrap64 (x9_2 - 1)) s0_0 t138) else (none))) else (none)) else (none)) else (none)) = some (r1, r2) := by first | (rw [hy139]; with_reducible exact H) | (have H2_ := (Option.bind_some _ _).symm.trans H; rw [hy139]; with_reducible exact H2_) | (have H2_ := (Option.bind_some _ _).symm.trans H; with_reducible exact H2_) | with_reducible exact H | (rw [hy139]; exact H) | exact H
         have Ny139 := Aside0.mk hy139
         clear hy139
         by_cases c34 : 0 ≤ t135
         ·rw [if_pos c34] at H
          have c34b0 : decide (0 ≤ t135) = true := decide_eq_true c34
          clear c34
          by_cases c35 : t135 < (x7_2.length : Int)
          ·rw [if_pos c35] at H
           have c35b0 : decide (t135 < (x7_2.length : Int)) = true := decide_eq_true c35
           clear c35
           by_cases c36 : y139.length + (rd_L3 x7_2 t135).length < 8796093022208
           ·rw [if_pos c36] at H
            have LMc36 := Aside0.mk c36
            clear c36
            obtain ⟨y143, hy143⟩ : ∃ y_ : List (S41), y_ = (y139 ++ (rd_L3 x7_2 t135)) := ⟨_, rfl⟩
            replace H : (if y143.length < 8796093022208 then (spec_l20Term.l1 k2 a2 (x7_2.set (t135 : Int).toNat (y143 ++ [(⟨2, 0⟩ : S41)])) (wrap64 (x9_2 - 1)) s0_0 t138) else (none)) = some (r1, r2) := by first | (rw [hy143]; with_reducible exact H) | (have H2_ := (Option.bind_some _ _).symm.trans H; rw [hy143]; with_reducible exact H2_) | (have H2_ := (Option.bind_some _ _).symm.trans H; with_reducible exact H2_) | with_reducible exact H | (rw [hy143]; exact H) | exact H
            have Ny143 := Aside0.mk hy143
            clear hy143
            by_cases c37 : y143.length < 8796093022208
            ·rw [if_pos c37] at H
             have LMc37 := Aside0.mk c37
             clear c37
             obtain ⟨y146, hy146⟩ : ∃ y_ : List (S41), y_ = (y143 ++ [(⟨2, 0⟩ : S41)]) := ⟨_, rfl⟩
             replace H : (spec_l20Term.l1 k2 a2 (x7_2.set (t135 : Int).toNat y146) (wrap64 (x9_2 - 1)) s0_0 t138) = some (r1, r2) := by first | (rw [hy146]; with_reducible exact H) | (have H2_ := (Option.bind_some _ _).symm.trans H; rw [hy146]; with_reducible exact H2_) | (have H2_ := (Option.bind_some _ _).symm.trans H; with_reducible exact H2_) | with_reducible exact H | (rw [hy146]; exact H) | exact H
             have Ny146 := Aside0.mk hy146
             clear hy146
             obtain ⟨y149, hy149⟩ : ∃ y_ : List (List (S41)), y_ = (x7_2.set (t135 : Int).toNat y146) := ⟨_, rfl⟩
             replace H : (spec_l20Term.l1 k2 a2 y149 (wrap64 (x9_2 - 1)) s0_0 t138) = some (r1, r2) := by first | (rw [hy149]; with_reducible exact H) | (have H2_ := (Option.bind_some _ _).symm.trans H; rw [hy149]; with_reducible exact H2_) | (have H2_ := (Option.bind_some _ _).symm.trans H; with_reducible exact H2_) | with_reducible exact H | (rw [hy149]; exact H) | exact H
             have Ny149 := Aside0.mk hy149
             clear hy149
             have H' := Aside0.mk H
             clear H
             obtain ⟨Ao39, co39, eo39⟩ := Kd.R_slice HO_7.out
             subst eo39
             go_wp2_with (first | ((with_reducible refine gate_callee (f := 64) rfl ?_); refine goesL_ (some 52) rfl rfl Try.func64 (by kernel_rfl) rfl #[.pointer (some ⟨g, 0, none⟩), .int .i64 (wrap64 ((x7_2.length : Int) - 1))] rfl (by (try simp only [List.map_toArray, List.map_cons, List.map_nil]); first | done | rfl | (simp only [List.length_drop, List.length_take]; rfl)) ?_; (with_reducible refine (spec_l20Rd_pick.calls k2 g s0_0 x1001_2 (wrap64 ((x7_2.length : Int) - 1)) t135 t136 w0 _ ?side1 ?side2 A30.out).mono ?_); (case side1 => repeat (first | (with_reducible first | exact HI0.out | apply IsS68.alloc | apply IsS68.drewN | apply IsS68.drew | apply IsS68.set_1) | exact HI0.out)); (case side2 => repeat (first | (with_reducible first | exact HB.out | apply below_alloc | apply pw_below_drewN | apply below_drew1 | refine below_set ?_ (IsS68.ge HI0.out)) | exact HB.out)); rintro e w40 ⟨rfl, hi, hb, hk⟩; refine ⟨_, rfl, ?_⟩; have n0_ := Aside0.mk (Kd.R_mono (Kd.R_keep (IsS68.apart (show IsS68 w0 _ g s0_0 x1001_2 from by repeat (first | (with_reducible first | exact HI0.out | apply IsS68.alloc | apply IsS68.drewN | apply IsS68.drew | apply IsS68.set_1) | exact HI0.out)) (by (with_reducible repeat apply Kd.R_alloc); exact HO_7.out) (by decide)) hk (fun _ h => h.2)) (fun _ h => h.1)); have n1_ := Aside0.mk (KeepBut.trans (by repeat (first | (with_reducible first | exact HK.out | apply KeepBut.set_ | apply keep_drewN | apply keep_drew | apply keep_alloc) | exact HK.out)) hk (.inl rfl)); have n2_ := Aside0.mk (hb); have n3_ := Aside0.mk (hi); clear HO_7; clear HK; clear HB; clear HI0; have HO_7 := n0_; have HK := n1_; have HB := n2_; have HI0 := n3_; clear n0_ n1_ n2_ n3_; (try clear hb); (try clear hb2); (try clear hk); (try clear hi)) | (go_at_call 64; (with_reducible refine (spec_l20Rd_pick.calls k2 g s0_0 t136 4 t137 t138 w0 _ ?side1 ?side2 A32.out).mono ?_); (case side1 => repeat (first | (with_reducible first | exact HI0.out | apply IsS68.alloc | apply IsS68.drewN | apply IsS68.drew | apply IsS68.set_1) | exact HI0.out)); (case side2 => repeat (first | (with_reducible first | exact HB.out | apply below_alloc | apply pw_below_drewN | apply below_drew1 | refine below_set ?_ (IsS68.ge HI0.out)) | exact HB.out)); rintro e w41 ⟨rfl, hi, hb, hk⟩; have n0_ := Aside0.mk (Kd.R_mono (Kd.R_keep (IsS68.apart (show IsS68 w0 _ g s0_0 t136 from by repeat (first | (with_reducible first | exact HI0.out | apply IsS68.alloc | apply IsS68.drewN | apply IsS68.drew | apply IsS68.set_1) | exact HI0.out)) (by (with_reducible repeat apply Kd.R_alloc); exact HO_7.out) (by decide)) hk (fun _ h => h.2)) (fun _ h => h.1)); have n1_ := Aside0.mk (KeepBut.trans (by repeat (first | (with_reducible first | exact HK.out | apply KeepBut.set_ | apply keep_drewN | apply keep_drew | apply keep_alloc) | exact HK.out)) hk (.inl rfl)); have n2_ := Aside0.mk (hb); have n3_ := Aside0.mk (hi); clear HO_7; clear HK; clear HB; clear HI0; have HO_7 := n0_; have HK := n1_; have HB := n2_; have HI0 := n3_; clear n0_ n1_ n2_ n3_; (try clear hb); (try clear hb2); (try clear hk); (try clear hi)) | ((with_reducible refine gate_dst (N := 64) rfl ?_); refine Kd.R_lit k41 _ 41 ?hg (N := 64) ?hd (xs := ([] : List (S41))) (inner := []) (ok := fun _ => True) (okp := fun _ => True) ?hr ?hp (fun _ hk => hk) trivial (Below.refl _ _) (Nat.le_refl _) (by simp) ?_; (case hd => rfl); (case hg => rfl); (case hr => first | (go_simp; done) | (go_simp; rfl)); (case hp => exact (Reps.none _ _)); intro v140 w42 ho43 hb hg_ hnew_; clear hg_ hnew_; (first | rw [← Ny139.out] at ho43 | (simp only [Int.reduceToNat] at ho43; rw [← Ny139.out] at ho43)); have n0_ := Aside0.mk (Kd.R_elder' (by (with_reducible repeat apply Kd.R_alloc); exact HO_7.out) (Kd.R_base ho43) hb); have n1_ := Aside0.mk (Kd.R_lower ho43 (keep_size (w := w) (g := g) (row := none) (by repeat (first | (with_reducible first | exact HK.out | apply KeepBut.set_ | apply keep_drewN | apply keep_drew | apply keep_alloc) | exact HK.out)))); have n2_ := Aside0.mk (IsS68.below (by repeat (first | (with_reducible first | exact HI0.out | apply IsS68.alloc | apply IsS68.drewN | apply IsS68.drew | apply IsS68.set_1) | exact HI0.out)) hb); have n3_ := Aside0.mk (KeepBut.trans (by repeat (first | (with_reducible first | exact HK.out | apply KeepBut.set_ | apply keep_drewN | apply keep_drew | apply keep_alloc) | exact HK.out)) (KeepBut.of_below hb g none) (.inl rfl)); have n4_ := Aside0.mk (below_step (by repeat (first | (with_reducible first | exact HB.out | apply below_alloc | apply pw_below_drewN | apply below_drew1 | refine below_set ?_ (IsS68.ge HI0.out)) | exact HB.out)) hb); clear HO_7; clear HI0; clear HK; clear HB; have HO_7 := n0_; have HO141 := n1_; have HI0 := n2_; have HK := n3_; have HB := n4_; clear n0_ n1_ n2_ n3_ n4_; clear hb ho43; have p142 : 0 ≤ (t135 : Int) := of_decide_eq_true (by first | (with_reducible assumption) | assumption); have q142 : t135 < (x7_2.length : Int) := of_decide_eq_true (by first | (with_reducible assumption) | assumption); obtain ⟨ad142, A142_0, c142_0, e142, hx142_0, hl142_0, hi142_0⟩ := at_L3 (Kd.R_reads' HO_7.out).2.2 t135 p142 q142; cases e142; obtain ⟨ce142, hce142, hMe142, hcc142⟩ := Kd.R_get HO_7.out [] t135 p142 (by first | exact q142 | exact of_decide_eq_true (by first | (with_reducible assumption) | assumption) | (have e_ := (Kd.R_reads' HO_7.out).1; omega)); obtain ⟨ve142_0, rfl, ge142_0⟩ := hMe142; have hv142_0 := hcc142 0 _ rfl; rw [Nat.add_zero, show ((Kd.slice 41 k41)).sz = 1 from rfl, Nat.mul_one] at hv142_0; replace hv142_0 := Option.some.inj (hv142_0.symm.trans hx142_0); rw [hv142_0] at ge142_0; have HL142_0 := Aside0.mk (show Kd.R k41 41 _ _ _ _ (rd_L3 x7_2 t135) from ge142_0); clear hv142_0 ge142_0; clear hcc142 hce142; have HR142_0 := Aside0.mk hi142_0; have HC142_0 := Aside0.mk hl142_0; clear hi142_0 hl142_0; replace p142 := eq_true p142; replace q142 := eq_true q142) | ((with_reducible refine gate_builtin (b := .append) (xs := #[.tmp 64, .tmp 68]) rfl ?_); at_builtin; refine Kd.R_append_rows k41 w.heap.size rfl (.tmp 64) (.tmp 68) 23 41 (.agg #[(.int .i64 0), (.int .i64 0)]) 16 rfl Try.underlying23 info41 rfl (by decide) (by omega) v140 y139 (rd_L3 x7_2 t135) _ _ _ (fun _ => True) (fun _ => False) rfl rfl ?aO ?aR (fun _ _ h => h) (fun _ h => h.elim) ?aF (Below.refl _ _) ?aS ?aL ?_; (case aR => repeat (first | exact (by repeat (first | (with_reducible exact HR142_0.out) | (with_reducible refine Kd.C_alloc ?_ _) | (with_reducible refine Kd.C_drewN ?_ _) | (with_reducible refine Kd.C_drew ?_) | exact HR142_0.out)) | (with_reducible refine Kd.C_alloc ?_ _) | (with_reducible refine Kd.C_drewN ?_ _) | (with_reducible refine Kd.C_drew ?_))); (case aF => exact (fun _ _ => trivial)); (case aO => exact (by (with_reducible repeat apply Kd.R_alloc); exact HO141.out)); (case aS => exact (keep_size (w := w) (g := g) (row := none) (by repeat (first | (with_reducible first | exact HK.out | apply KeepBut.set_ | apply keep_drewN | apply keep_drew | apply keep_alloc) | exact HK.out)))); (case aL => have := LMc36.out; omega); intro v144 w44 ho hb hg hat; rw [← Ny143.out] at ho; have n0_ := Aside0.mk (Kd.R_after (ok := (fun _ => True)) (by (with_reducible repeat apply Kd.R_alloc); exact HO_7.out) hg hat); have n1_ := Aside0.mk (IsS68.grown (by repeat (first | (with_reducible first | exact HI0.out | apply IsS68.alloc | apply IsS68.drewN | apply IsS68.drew | apply IsS68.set_1) | exact HI0.out)) hg (IsS68.own_ne HI0.out HO141.out (by decide))); have n2_ := Aside0.mk (Kd.R_after (ok := (fun k_ => some k_ ≠ (.slice (some ad142) x7_2.length co39 : Value).ownBlock)) (by (with_reducible repeat apply Kd.R_alloc); exact Kd.R_mono HL142_0.out (fun _ hk => ⟨hk.2, hk.1.2⟩)) hg hat); have n3_ := Aside0.mk (below_weaken (by repeat (first | (with_reducible first | exact HB.out | apply below_alloc | apply pw_below_drewN | apply below_drew1 | refine below_set ?_ (IsS68.ge HI0.out)) | exact HB.out)) HL.out hb); have n4_ := Aside0.mk (KeepBut.trans (by repeat (first | (with_reducible first | exact HK.out | apply KeepBut.set_ | apply keep_drewN | apply keep_drew | apply keep_alloc) | exact HK.out)) (KeepBut.of_grown hg g) (Kd.R_base2 HO141.out)); have n5_ := Aside0.mk (ho); clear HO_7; clear HI0; clear HL142_0; clear HB; clear HK; clear HO141; have HO_7 := n0_; have HI0 := n1_; have HL142_0 := n2_; have HB := n3_; have HK := n4_; have HO145 := n5_; clear n0_ n1_ n2_ n3_ n4_ n5_; clear ho hb hg hat) | ((with_reducible refine gate_builtin (b := .append) (xs := #[.tmp 69, .tmp 71]) rfl ?_); at_builtin; refine Kd.R_append k41 w.heap.size rfl (.tmp 69) (.tmp 71) 23 41 (.agg #[(.int .i64 0), (.int .i64 0)]) 16 rfl Try.underlying23 info41 rfl (by decide) (by omega) v144 y143 (⟨2, 0⟩ : S41) [.int .i64 2, .int .i64 0] (fun _ => True) (fun _ => False) rfl rfl ?aP (fun _ hk => hk.elim) ?aF ?aO (Below.refl _ _) ?aS ?aL ?_; (case aP => exact k41_mkM _ _ _ (⟨2, 0⟩ : S41)); (case aF => exact (fun _ _ => trivial)); (case aO => exact (by (with_reducible repeat apply Kd.R_alloc); exact HO145.out)); (case aS => exact (keep_size (w := w) (g := g) (row := none) (by repeat (first | (with_reducible first | exact HK.out | apply KeepBut.set_ | apply keep_drewN | apply keep_drew | apply keep_alloc) | exact HK.out)))); (case aL => have := LMc37.out; omega); intro v147 w45 ho hb hg hat; rw [← Ny146.out] at ho; have n0_ := Aside0.mk (Kd.R_after (ok := (fun _ => True)) (by (with_reducible repeat apply Kd.R_alloc); exact HO_7.out) hg hat); have n1_ := Aside0.mk (IsS68.grown (by repeat (first | (with_reducible first | exact HI0.out | apply IsS68.alloc | apply IsS68.drewN | apply IsS68.drew | apply IsS68.set_1) | exact HI0.out)) hg (IsS68.own_ne HI0.out HO145.out (by decide))); have n2_ := Aside0.mk (Kd.R_after (ok := (fun k_ => some k_ ≠ (.slice (some ad142) x7_2.length co39 : Value).ownBlock)) (by (with_reducible repeat apply Kd.R_alloc); exact HL142_0.out) hg hat); have n3_ := Aside0.mk (below_weaken (by repeat (first | (with_reducible first | exact HB.out | apply below_alloc | apply pw_below_drewN | apply below_drew1 | refine below_set ?_ (IsS68.ge HI0.out)) | exact HB.out)) HL.out hb); have n4_ := Aside0.mk (KeepBut.trans (by repeat (first | (with_reducible first | exact HK.out | apply KeepBut.set_ | apply keep_drewN | apply keep_drew | apply keep_alloc) | exact HK.out)) (KeepBut.of_grown hg g) (Kd.R_base2 HO145.out)); have n5_ := Aside0.mk (ho); clear HO_7; clear HI0; clear HL142_0; clear HB; clear HK; clear HO145; have HO_7 := n0_; have HI0 := n1_; have HL142_0 := n2_; have HB := n3_; have HK := n4_; have HO148 := n5_; clear n0_ n1_ n2_ n3_ n4_ n5_; clear ho hb hg hat; have p38 : 0 ≤ (t135 : Int) := of_decide_eq_true (by first | (with_reducible assumption) | assumption); have q38 : (t135 : Int) < ((x7_2.length : Int) : Int) := of_decide_eq_true (by first | (with_reducible assumption) | assumption); obtain ⟨go38, co38, eo38, gb38, gl38, cl38, HG38⟩ := Kd.R_form HO_7.out (by omega); (first | cases eo38 | (injection eo38 with ea_ en_ ec_; (first | subst ea_ | (injection ea_ with ea_; subst ea_)); subst ec_; clear en_)); have GB38 := Aside0.mk gb38; have GG38 := Aside0.mk HG38; clear gb38 gl38 HG38; (first | simp only [add_plain] at hx142_0 | skip); obtain ⟨ce38, hcl38, hM38, hcc38, hfr38⟩ := Kd.R_elem HO_7.out [] (t135 : Int) p38 q38; obtain ⟨ve38_0, rfl, ge38_0⟩ := hM38; have hx38_0 := hcc38 0 _ rfl; have hf38_0 := hfr38 0; (try simp only [show ((Kd.slice 41 k41)).sz = 1 from rfl, Nat.mul_one, Nat.add_zero] at hx38_0); (try simp only [show ((Kd.slice 41 k41)).sz = 1 from rfl, Nat.mul_one, Nat.add_zero] at hf38_0); clear hcl38 hcc38 hfr38; (try clear hM38); skip; replace p38 := eq_true p38; replace q38 := eq_true q38; have n_ := Aside0.mk (Kd.R_mono (ok' := (fun k_ => some k_ ≠ (v147 : Value).ownBlock)) HO_7.out (fun k_ hk => hk.2)); clear HO_7; have HO_7 := n_; clear n_; have HX46 := Aside0.mk (show Kd.R (Kd.slice 41 k41) 23 w45 w.heap.size (fun _ => True) (.slice (some ⟨go38, 0, none⟩) x7_2.length co39) x7_2 from (by (with_reducible repeat apply Kd.R_alloc); exact Kd.R_mono HO_7.out (fun _ hk => trivial))); obtain ⟨ce46, hcl46, hM46, hcc46, hfr46⟩ := Kd.R_elem HX46.out [] (t135 : Int) (of_decide_eq_true (by first | (with_reducible assumption) | assumption)) (by have h_ : (t135 : Int) < ((x7_2.length : Int) : Int) := of_decide_eq_true (by first | (with_reducible assumption) | assumption); first | exact h_ | (have e_ := (Kd.R_reads' HO_7.out).1; omega) | simpa using h_); obtain ⟨ve46_0, rfl, ge46_0⟩ := hM46; have HP46 := Kd.R_seg HX46.out (t135 : Int) (of_decide_eq_true (by first | (with_reducible assumption) | assumption)) (by have h_ : (t135 : Int) < ((x7_2.length : Int) : Int) := of_decide_eq_true (by first | (with_reducible assumption) | assumption); first | exact h_ | (have e_ := (Kd.R_reads' HO_7.out).1; omega) | simpa using h_) (seg := [v147]) (j := 0) hcl46 hcc46 (show 1 ≤ 1 from by decide) (x' := y146) (Kd.M_row (Kd.R_mono (Kd.R_apart' (HO148.out) (Kd.R_typed HO_7.out) (by decide)) (fun k_ hk => ⟨trivial, fun e_ => (hk.2) (by rw [e_]; rfl)⟩))) (fun _ hk => hk); have hx46_0 := hcc46 0 _ rfl; (try simp only [show ((Kd.slice 41 k41)).sz = 1 from rfl, Nat.mul_one, Nat.add_zero] at hx46_0); have hf46_0 := hfr46 0; (try simp only [show ((Kd.slice 41 k41)).sz = 1 from rfl, Nat.mul_one, Nat.add_zero] at hf46_0); clear hcl46 hcc46 hfr46; (try clear hM46); skip; (try simp only [show ((Kd.slice 41 k41)).sz = 1 from rfl, Nat.mul_one, Nat.add_zero] at HP46)) | ((with_reducible refine gate_store (t := 23) (p := 73) rfl ?_); refine store_event (t := 23) (p := 73) (v := ?vo_w47) (w1 := (w45.setCell ⟨go38, (t135 : Int).toNat, none⟩ (v147))) ?hg ?ho ?hn ?hr ?_; (case ho => rfl); (case hg => rfl); (case hn => rfl); (case hr => first | (go_simp; done) | (go_simp; rfl) | ((obtain ⟨A_, c_, e_⟩ := Kd.R_slice HO148.out; rw [e_]); first | (go_simp; done) | (go_simp; rfl))); intro w47 hw; have hg : w45.grownBy w47 (some go38) := (by rw [hw]; exact HP46.2); have hp_ : Kd.R (Kd.slice 41 k41) 23 w47 w.heap.size (fun _ => True) (.slice (some ⟨go38, 0, none⟩) x7_2.length co39) y149 := (by rw [hw, Ny149.out]; exact HP46.1); clear HP46; have n0_ := Aside0.mk (hp_); have n1_ := Aside0.mk (IsS68.grown (by repeat (first | (with_reducible first | exact HI0.out | apply IsS68.alloc | apply IsS68.drewN | apply IsS68.drew | apply IsS68.set_1) | exact HI0.out)) hg (IsS68.own_ne HI0.out HO_7.out (by decide))); have n2_ := Aside0.mk (Kd.R_after (v := (.slice (some ⟨go38, 0, none⟩) x7_2.length co39)) (v1 := (.slice (some ⟨go38, 0, none⟩) x7_2.length co39)) (ok := (fun k_ => some k_ ≠ (v147 : Value).ownBlock)) (by (with_reducible repeat apply Kd.R_alloc); exact Kd.R_mono HL142_0.out (fun _ hk => ⟨hk.2, hk.1⟩)) hg (.inl rfl)); have n3_ := Aside0.mk ((by rw [hw]; exact below_set (HB.out) (Nat.le_trans HL.out GB38.out) : Below w0.heap.size w0 w47)); have n4_ := Aside0.mk (KeepBut.trans (by repeat (first | (with_reducible first | exact HK.out | apply KeepBut.set_ | apply keep_drewN | apply keep_drew | apply keep_alloc) | exact HK.out)) (KeepBut.of_grown hg g) (Kd.R_base2 HO_7.out)); clear HO_7; clear HI0; clear HL142_0; clear HB; clear HK; clear HO148; have HO_7 := n0_; have HI0 := n1_; have HL142_0 := n2_; have HB := n3_; have HK := n4_; clear n0_ n1_ n2_ n3_ n4_; clear hg hw hp_))
             go_roundg k2
             case measure => have := HK1.out; have := HK2.out; omega
             case rel => exact ⟨(y149), (wrap64 (x9_2 - 1)), (t138), (by first | rfl | (simp; done) | (simp [*]; done)), H', ⟨by have := HK1.out; have := HK2.out; omega⟩, ⟨by (with_reducible repeat apply Kd.R_alloc); exact HO_7.out⟩, ⟨by repeat (first | (with_reducible first | exact HI0.out | apply IsS68.alloc | apply IsS68.drewN | apply IsS68.drew | apply IsS68.set_1) | exact HI0.out)⟩, ⟨by repeat (first | (with_reducible first | exact HK.out | apply KeepBut.set_ | apply keep_drewN | apply keep_drew | apply keep_alloc) | exact HK.out)⟩, ⟨by repeat (first | (with_reducible first | exact HB.out | apply below_alloc | apply pw_below_drewN | apply below_drew1 | refine below_set ?_ (IsS68.ge HI0.out)) | exact HB.out)⟩⟩
            ·rw [if_neg c37] at H
             exact absurd H (by simp)
           ·rw [if_neg c36] at H
            exact absurd H (by simp)
          ·rw [if_neg c35] at H
           exact absurd H (by simp)
         ·rw [if_neg c34] at H
          exact absurd H (by simp)
        ·rw [if_neg c33] at H
         have c33b0 : (t137 == 0) = false := beq_eq_false_iff_ne.mpr c33
         have c33b1 : (t137 != 0) = true := bne_iff_ne.mpr c33
         obtain ⟨y150, hy150⟩ : ∃ y_ : List (S41), y_ = (([] : List (S41))) := ⟨_, rfl⟩
         replace H : (if 0 ≤ t135 then (if t135 < (x7_2.length : Int) then (if y150.length + (rd_L3 x7_2 t135).length < 8796093022208 then ((some (y150 ++ (rd_L3 x7_2 t135) : List (S41))).bind fun y154 => (if 0 ≤ (wrap64 (t135 + 1)) then (if (wrap64 (t135 + 1)) < (x7_2.length : Int) then (if y154.length + (rd_L3 x7_2 (wrap64 (t135 + 1))).length < 8796093022208 then ((some (y154 ++ (rd_L3 x7_2 (wrap64 (t135 + 1))) : List (S41))).bind fun y158 => ((spec_l20Rd_pick.f k2 s0_0 t138 3).bind fun bt161 => (if y158.length < 8796093022208 then ((some (([] : List (List (S41))) : List (List (S41)))).bind fun y166 => (if t135 ≤ (x7_2.length : Int) then ((some (x7_2.take (t135 : Int).toNat : List (List (S41)))).bind fun y169 => (if y166.length + y169.length < 5864062014805 then ((some (y166 ++ y169 : List (List (S41)))).bind fun y173 => (if y173.length < 5864062014805 then ((some (y173 ++ [(y158 ++ [(⟨wrap64 (3 + bt161.1), 0⟩ : S41)])] : List (List (S41)))).bind fun y176 => (if 0 ≤ (wrap64 (t135 + 2)) then (if (wrap64 (t135 + 2)) ≤ (x7_2.length : Int) then ((some (x7_2.drop ((wrap64 (t135 + 2)) : Int).toNat : List (List (S41)))).bind fun y179 => (if y176.length + y179.length < 5864062014805 then (spec_l20Term.l1 k2 a2 (y176 ++ y179) x9_2 s0_0 bt161.2) else (none))) else (none)) else (none))) else (none))) else (none))) else (none))) else (none)))) else (none)) else (none)) else (none))) else (none)) else (none)) else (none)) = some (r1, r2) := by first | (rw [hy150]; with_reducible exact H) | (have H2_ := (Option.bind_some _ _).symm.trans H; rw [hy150]; with_reducible exact H2_) | (have H2_ := (Option.bind_some _ _).symm.trans H; with_reducible exact H2_) | with_reducible exact H | (rw [hy150]; exact H) | exact H
         have Ny150 := Aside0.mk hy150
         clear hy150
         by_cases c48 : 0 ≤ t135
         ·rw [if_pos c48] at H
          have c48b0 : decide (0 ≤ t135) = true := decide_eq_true c48
          clear c48
          by_cases c49 : t135 < (x7_2.length : Int)
          ·rw [if_pos c49] at H
           have c49b0 : decide (t135 < (x7_2.length : Int)) = true := decide_eq_true c49
           clear c49
           by_cases c50 : y150.length + (rd_L3 x7_2 t135).length < 8796093022208
           ·rw [if_pos c50] at H
            have LMc50 := Aside0.mk c50
            clear c50
            obtain ⟨y154, hy154⟩ : ∃ y_ : List (S41), y_ = (y150 ++ (rd_L3 x7_2 t135)) := ⟨_, rfl⟩
            replace H : (if 0 ≤ (wrap64 (t135 + 1)) then (if (wrap64 (t135 + 1)) < (x7_2.length : Int) then (if y154.length + (rd_L3 x7_2 (wrap64 (t135 + 1))).length < 8796093022208 then ((some (y154 ++ (rd_L3 x7_2 (wrap64 (t135 + 1))) : List (S41))).bind fun y158 => ((spec_l20Rd_pick.f k2 s0_0 t138 3).bind fun bt161 => (if y158.length < 8796093022208 then ((some (([] : List (List (S41))) : List (List (S41)))).bind fun y166 => (if t135 ≤ (x7_2.length : Int) then ((some (x7_2.take (t135 : Int).toNat : List (List (S41)))).bind fun y169 => (if y166.length + y169.length < 5864062014805 then ((some (y166 ++ y169 : List (List (S41)))).bind fun y173 => (if y173.length < 5864062014805 then ((some (y173 ++ [(y158 ++ [(⟨wrap64 (3 + bt161.1), 0⟩ : S41)])] : List (List (S41)))).bind fun y176 => (if 0 ≤ (wrap64 (t135 + 2)) then (if (wrap64 (t135 + 2)) ≤ (x7_2.length : Int) then ((some (x7_2.drop ((wrap64 (t135 + 2)) : Int).toNat : List (List (S41)))).bind fun y179 => (if y176.length + y179.length < 5864062014805 then (spec_l20Term.l1 k2 a2 (y176 ++ y179) x9_2 s0_0 bt161.2) else (none))) else (none)) else (none))) else (none))) else (none))) else (none))) else (none)))) else (none)) else (none)) else (none)) = some (r1, r2) := by first | (rw [hy154]; with_reducible exact H) | (have H2_ := (Option.bind_some _ _).symm.trans H; rw [hy154]; with_reducible exact H2_) | (have H2_ := (Option.bind_some _ _).symm.trans H; with_reducible exact H2_) | with_reducible exact H | (rw [hy154]; exact H) | exact H
            have Ny154 := Aside0.mk hy154
            clear hy154
            obtain ⟨ji51, hji51⟩ : ∃ j_ : Int, (wrap64 (t135 + 1)) = j_ := ⟨_, rfl⟩
            replace H : (if 0 ≤ (ji51) then (if (ji51) < (x7_2.length : Int) then (if y154.length + (rd_L3 x7_2 (ji51)).length < 8796093022208 then ((some (y154 ++ (rd_L3 x7_2 (ji51)) : List (S41))).bind fun y158 => ((spec_l20Rd_pick.f k2 s0_0 t138 3).bind fun bt161 => (if y158.length < 8796093022208 then ((some (([] : List (List (S41))) : List (List (S41)))).bind fun y166 => (if t135 ≤ (x7_2.length : Int) then ((some (x7_2.take (t135 : Int).toNat : List (List (S41)))).bind fun y169 => (if y166.length + y169.length < 5864062014805 then ((some (y166 ++ y169 : List (List (S41)))).bind fun y173 => (if y173.length < 5864062014805 then ((some (y173 ++ [(y158 ++ [(⟨wrap64 (3 + bt161.1), 0⟩ : S41)])] : List (List (S41)))).bind fun y176 => (if 0 ≤ (wrap64 (t135 + 2)) then (if (wrap64 (t135 + 2)) ≤ (x7_2.length : Int) then ((some (x7_2.drop ((wrap64 (t135 + 2)) : Int).toNat : List (List (S41)))).bind fun y179 => (if y176.length + y179.length < 5864062014805 then (spec_l20Term.l1 k2 a2 (y176 ++ y179) x9_2 s0_0 bt161.2) else (none))) else (none)) else (none))) else (none))) else (none))) else (none))) else (none)))) else (none)) else (none)) else (none)) = some (r1, r2) := by first | (rw [hji51] at H; exact H) | (simp only [hji51] at H ⊢; exact H)
            (try rw [hji51] at A30)
            (try rw [hji51] at A32)
            have hji51w : (IntKind.i64.wrap (t135 + 1)) = ji51 := (i64_w _).trans hji51
            by_cases c52 : 0 ≤ (ji51)
            ·rw [if_pos c52] at H
             have c52b0 : decide (0 ≤ (ji51)) = true := decide_eq_true c52
             clear c52
             by_cases c53 : (ji51) < (x7_2.length : Int)
             ·rw [if_pos c53] at H
              have c53b0 : decide ((ji51) < (x7_2.length : Int)) = true := decide_eq_true c53
              clear c53
              by_cases c54 : y154.length + (rd_L3 x7_2 (ji51)).length < 8796093022208
              ·rw [if_pos c54] at H
               have LMc54 := Aside0.mk c54
               clear c54
               obtain ⟨y158, hy158⟩ : ∃ y_ : List (S41), y_ = (y154 ++ (rd_L3 x7_2 (ji51))) := ⟨_, rfl⟩
               replace H : ((spec_l20Rd_pick.f k2 s0_0 t138 3).bind fun bt161 => (if y158.length < 8796093022208 then ((some (([] : List (List (S41))) : List (List (S41)))).bind fun y166 => (if t135 ≤ (x7_2.length : Int) then ((some (x7_2.take (t135 : Int).toNat : List (List (S41)))).bind fun y169 => (if y166.length + y169.length < 5864062014805 then ((some (y166 ++ y169 : List (List (S41)))).bind fun y173 => (if y173.length < 5864062014805 then ((some (y173 ++ [(y158 ++ [(⟨wrap64 (3 + bt161.1), 0⟩ : S41)])] : List (List (S41)))).bind fun y176 => (if 0 ≤ (wrap64 (t135 + 2)) then (if (wrap64 (t135 + 2)) ≤ (x7_2.length : Int) then ((some (x7_2.drop ((wrap64 (t135 + 2)) : Int).toNat : List (List (S41)))).bind fun y179 => (if y176.length + y179.length < 5864062014805 then (spec_l20Term.l1 k2 a2 (y176 ++ y179) x9_2 s0_0 bt161.2) else (none))) else (none)) else (none))) else (none))) else (none))) else (none))) else (none))) = some (r1, r2) := by first | (rw [hy158]; with_reducible exact H) | (have H2_ := (Option.bind_some _ _).symm.trans H; rw [hy158]; with_reducible exact H2_) | (have H2_ := (Option.bind_some _ _).symm.trans H; with_reducible exact H2_) | with_reducible exact H | (rw [hy158]; exact H) | exact H
               have Ny158 := Aside0.mk hy158
               clear hy158
               replace H := Option.bind_eq_some_iff.mp H
               obtain ⟨⟨t161, t162⟩, A550, H⟩ := H
               replace H : (if y158.length < 8796093022208 then ((some (([] : List (List (S41))) : List (List (S41)))).bind fun y166 => (if t135 ≤ (x7_2.length : Int) then ((some (x7_2.take (t135 : Int).toNat : List (List (S41)))).bind fun y169 => (if y166.length + y169.length < 5864062014805 then ((some (y166 ++ y169 : List (List (S41)))).bind fun y173 => (if y173.length < 5864062014805 then ((some (y173 ++ [(y158 ++ [(⟨wrap64 (3 + t161), 0⟩ : S41)])] : List (List (S41)))).bind fun y176 => (if 0 ≤ (wrap64 (t135 + 2)) then (if (wrap64 (t135 + 2)) ≤ (x7_2.length : Int) then ((some (x7_2.drop ((wrap64 (t135 + 2)) : Int).toNat : List (List (S41)))).bind fun y179 => (if y176.length + y179.length < 5864062014805 then (spec_l20Term.l1 k2 a2 (y176 ++ y179) x9_2 s0_0 t162) else (none))) else (none)) else (none))) else (none))) else (none))) else (none))) else (none)) = some (r1, r2) := H
               have A55 := Aside0.mk A550
               clear A550
               by_cases c56 : y158.length < 8796093022208
               ·rw [if_pos c56] at H
                have LMc56 := Aside0.mk c56
                clear c56
                obtain ⟨y163, hy163⟩ : ∃ y_ : List (S41), y_ = (y158 ++ [(⟨wrap64 (3 + t161), 0⟩ : S41)]) := ⟨_, rfl⟩
                replace H : ((some (([] : List (List (S41))) : List (List (S41)))).bind fun y166 => (if t135 ≤ (x7_2.length : Int) then ((some (x7_2.take (t135 : Int).toNat : List (List (S41)))).bind fun y169 => (if y166.length + y169.length < 5864062014805 then ((some (y166 ++ y169 : List (List (S41)))).bind fun y173 => (if y173.length < 5864062014805 then ((some (y173 ++ [y163] : List (List (S41)))).bind fun y176 => (if 0 ≤ (wrap64 (t135 + 2)) then (if (wrap64 (t135 + 2)) ≤ (x7_2.length : Int) then ((some (x7_2.drop ((wrap64 (t135 + 2)) : Int).toNat : List (List (S41)))).bind fun y179 => (if y176.length + y179.length < 5864062014805 then (spec_l20Term.l1 k2 a2 (y176 ++ y179) x9_2 s0_0 t162) else (none))) else (none)) else (none))) else (none))) else (none))) else (none))) = some (r1, r2) := by first | (rw [hy163]; with_reducible exact H) | (have H2_ := (Option.bind_some _ _).symm.trans H; rw [hy163]; with_reducible exact H2_) | (have H2_ := (Option.bind_some _ _).symm.trans H; with_reducible exact H2_) | with_reducible exact H | (rw [hy163]; exact H) | exact H
                have Ny163 := Aside0.mk hy163
                clear hy163
                obtain ⟨y166, hy166⟩ : ∃ y_ : List (List (S41)), y_ = (([] : List (List (S41)))) := ⟨_, rfl⟩
                replace H : (if t135 ≤ (x7_2.length : Int) then ((some (x7_2.take (t135 : Int).toNat : List (List (S41)))).bind fun y169 => (if y166.length + y169.length < 5864062014805 then ((some (y166 ++ y169 : List (List (S41)))).bind fun y173 => (if y173.length < 5864062014805 then ((some (y173 ++ [y163] : List (List (S41)))).bind fun y176 => (if 0 ≤ (wrap64 (t135 + 2)) then (if (wrap64 (t135 + 2)) ≤ (x7_2.length : Int) then ((some (x7_2.drop ((wrap64 (t135 + 2)) : Int).toNat : List (List (S41)))).bind fun y179 => (if y176.length + y179.length < 5864062014805 then (spec_l20Term.l1 k2 a2 (y176 ++ y179) x9_2 s0_0 t162) else (none))) else (none)) else (none))) else (none))) else (none))) else (none)) = some (r1, r2) := by first | (rw [hy166]; with_reducible exact H) | (have H2_ := (Option.bind_some _ _).symm.trans H; rw [hy166]; with_reducible exact H2_) | (have H2_ := (Option.bind_some _ _).symm.trans H; with_reducible exact H2_) | with_reducible exact H | (rw [hy166]; exact H) | exact H
                have Ny166 := Aside0.mk hy166
                clear hy166
                have c57b0 := eq_true (of_decide_eq_true (by first | (with_reducible assumption) | assumption) : 0 ≤ t135)
                by_cases c58 : t135 ≤ (x7_2.length : Int)
                ·rw [if_pos c58] at H
                 have c58b0 := eq_true c58
                 have c58b1 : decide (t135 ≤ (x7_2.length : Int)) = true := decide_eq_true c58
                 clear c58
                 obtain ⟨y169, hy169⟩ : ∃ y_ : List (List (S41)), y_ = (x7_2.take (t135 : Int).toNat) := ⟨_, rfl⟩
                 replace H : (if y166.length + y169.length < 5864062014805 then ((some (y166 ++ y169 : List (List (S41)))).bind fun y173 => (if y173.length < 5864062014805 then ((some (y173 ++ [y163] : List (List (S41)))).bind fun y176 => (if 0 ≤ (wrap64 (t135 + 2)) then (if (wrap64 (t135 + 2)) ≤ (x7_2.length : Int) then ((some (x7_2.drop ((wrap64 (t135 + 2)) : Int).toNat : List (List (S41)))).bind fun y179 => (if y176.length + y179.length < 5864062014805 then (spec_l20Term.l1 k2 a2 (y176 ++ y179) x9_2 s0_0 t162) else (none))) else (none)) else (none))) else (none))) else (none)) = some (r1, r2) := by first | (rw [hy169]; with_reducible exact H) | (have H2_ := (Option.bind_some _ _).symm.trans H; rw [hy169]; with_reducible exact H2_) | (have H2_ := (Option.bind_some _ _).symm.trans H; with_reducible exact H2_) | with_reducible exact H | (rw [hy169]; exact H) | exact H
                 have Ny169 := Aside0.mk hy169
                 clear hy169
                 by_cases c59 : y166.length + y169.length < 5864062014805
                 ·rw [if_pos c59] at H
                  have LMc59 := Aside0.mk c59
                  clear c59
                  obtain ⟨y173, hy173⟩ : ∃ y_ : List (List (S41)), y_ = (y166 ++ y169) := ⟨_, rfl⟩
                  replace H : (if y173.length < 5864062014805 then ((some (y173 ++ [y163] : List (List (S41)))).bind fun y176 => (if 0 ≤ (wrap64 (t135 + 2)) then (if (wrap64 (t135 + 2)) ≤ (x7_2.length : Int) then ((some (x7_2.drop ((wrap64 (t135 + 2)) : Int).toNat : List (List (S41)))).bind fun y179 => (if y176.length + y179.length < 5864062014805 then (spec_l20Term.l1 k2 a2 (y176 ++ y179) x9_2 s0_0 t162) else (none))) else (none)) else (none))) else (none)) = some (r1, r2) := by first | (rw [hy173]; with_reducible exact H) | (have H2_ := (Option.bind_some _ _).symm.trans H; rw [hy173]; with_reducible exact H2_) | (have H2_ := (Option.bind_some _ _).symm.trans H; with_reducible exact H2_) | with_reducible exact H | (rw [hy173]; exact H) | exact H
                  have Ny173 := Aside0.mk hy173
                  clear hy173
                  by_cases c60 : y173.length < 5864062014805
                  ·rw [if_pos c60] at H
                   have LMc60 := Aside0.mk c60
                   clear c60
                   obtain ⟨y176, hy176⟩ : ∃ y_ : List (List (S41)), y_ = (y173 ++ [y163]) := ⟨_, rfl⟩
                   replace H : (if 0 ≤ (wrap64 (t135 + 2)) then (if (wrap64 (t135 + 2)) ≤ (x7_2.length : Int) then ((some (x7_2.drop ((wrap64 (t135 + 2)) : Int).toNat : List (List (S41)))).bind fun y179 => (if y176.length + y179.length < 5864062014805 then (spec_l20Term.l1 k2 a2 (y176 ++ y179) x9_2 s0_0 t162) else (none))) else (none)) else (none)) = some (r1, r2) := by first | (rw [hy176]; with_reducible exact H) | (have H2_ := (Option.bind_some _ _).symm.trans H; rw [hy176]; with_reducible exact H2_) | (have H2_ := (Option.bind_some _ _).symm.trans H; with_reducible exact H2_) | with_reducible exact H | (rw [hy176]; exact H) | exact H
                   have Ny176 := Aside0.mk hy176
                   clear hy176
                   by_cases c61 : 0 ≤ (wrap64 (t135 + 2))
                   ·rw [if_pos c61] at H
                    have c61b0 := eq_true c61
                    have c61b1 : decide (0 ≤ (wrap64 (t135 + 2))) = true := decide_eq_true c61
                    by_cases c62 : (wrap64 (t135 + 2)) ≤ (x7_2.length : Int)
                    ·rw [if_pos c62] at H
                     have c62b0 := eq_true c62
                     have c62b1 : decide ((wrap64 (t135 + 2)) ≤ (x7_2.length : Int)) = true := decide_eq_true c62
                     obtain ⟨y179, hy179⟩ : ∃ y_ : List (List (S41)), y_ = (x7_2.drop ((wrap64 (t135 + 2)) : Int).toNat) := ⟨_, rfl⟩
                     replace H : (if y176.length + y179.length < 5864062014805 then (spec_l20Term.l1 k2 a2 (y176 ++ y179) x9_2 s0_0 t162) else (none)) = some (r1, r2) := by first | (rw [hy179]; with_reducible exact H) | (have H2_ := (Option.bind_some _ _).symm.trans H; rw [hy179]; with_reducible exact H2_) | (have H2_ := (Option.bind_some _ _).symm.trans H; with_reducible exact H2_) | with_reducible exact H | (rw [hy179]; exact H) | exact H
                     have Ny179 := Aside0.mk hy179
                     clear hy179
                     by_cases c63 : y176.length + y179.length < 5864062014805
                     ·rw [if_pos c63] at H
                      have LMc63 := Aside0.mk c63
                      clear c63
                      obtain ⟨y183, hy183⟩ : ∃ y_ : List (List (S41)), y_ = (y176 ++ y179) := ⟨_, rfl⟩
                      replace H : (spec_l20Term.l1 k2 a2 y183 x9_2 s0_0 t162) = some (r1, r2) := by first | (rw [hy183]; with_reducible exact H) | (have H2_ := (Option.bind_some _ _).symm.trans H; rw [hy183]; with_reducible exact H2_) | (have H2_ := (Option.bind_some _ _).symm.trans H; with_reducible exact H2_) | with_reducible exact H | (rw [hy183]; exact H) | exact H
                      have Ny183 := Aside0.mk hy183
                      clear hy183
                      have H' := Aside0.mk H
                      clear H
                      obtain ⟨Ao64, co64, eo64⟩ := Kd.R_slice HO_7.out
                      subst eo64
                      try go_wp2_with (first | ((with_reducible refine gate_callee (f := 64) rfl ?_); refine goesL_ (some 52) rfl rfl Try.func64 (by kernel_rfl) rfl #[.pointer (some ⟨g, 0, none⟩), .int .i64 (wrap64 ((x7_2.length : Int) - 1))] rfl (by (try simp only [List.map_toArray, List.map_cons, List.map_nil]); first | done | rfl | (simp only [List.length_drop, List.length_take]; rfl)) ?_; (with_reducible refine (spec_l20Rd_pick.calls k2 g s0_0 x1001_2 (wrap64 ((x7_2.length : Int) - 1)) t135 t136 w0 _ ?side1 ?side2 A30.out).mono ?_); (case side1 => repeat (first | (with_reducible first | exact HI0.out | apply IsS68.alloc | apply IsS68.drewN | apply IsS68.drew | apply IsS68.set_1) | exact HI0.out)); (case side2 => repeat (first | (with_reducible first | exact HB.out | apply below_alloc | apply pw_below_drewN | apply below_drew1 | refine below_set ?_ (IsS68.ge HI0.out)) | exact HB.out)); rintro e w65 ⟨rfl, hi, hb, hk⟩; refine ⟨_, rfl, ?_⟩; have n0_ := Aside0.mk (Kd.R_mono (Kd.R_keep (IsS68.apart (show IsS68 w0 _ g s0_0 x1001_2 from by repeat (first | (with_reducible first | exact HI0.out | apply IsS68.alloc | apply IsS68.drewN | apply IsS68.drew | apply IsS68.set_1) | exact HI0.out)) (by (with_reducible repeat apply Kd.R_alloc); exact HO_7.out) (by decide)) hk (fun _ h => h.2)) (fun _ h => h.1)); have n1_ := Aside0.mk (KeepBut.trans (by repeat (first | (with_reducible first | exact HK.out | apply KeepBut.set_ | apply keep_drewN | apply keep_drew | apply keep_alloc) | exact HK.out)) hk (.inl rfl)); have n2_ := Aside0.mk (hb); have n3_ := Aside0.mk (hi); clear HO_7; clear HK; clear HB; clear HI0; have HO_7 := n0_; have HK := n1_; have HB := n2_; have HI0 := n3_; clear n0_ n1_ n2_ n3_; (try clear hb); (try clear hb2); (try clear hk); (try clear hi)) | (go_at_call 64; (with_reducible refine (spec_l20Rd_pick.calls k2 g s0_0 t136 4 t137 t138 w0 _ ?side1 ?side2 A32.out).mono ?_); (case side1 => repeat (first | (with_reducible first | exact HI0.out | apply IsS68.alloc | apply IsS68.drewN | apply IsS68.drew | apply IsS68.set_1) | exact HI0.out)); (case side2 => repeat (first | (with_reducible first | exact HB.out | apply below_alloc | apply pw_below_drewN | apply below_drew1 | refine below_set ?_ (IsS68.ge HI0.out)) | exact HB.out)); rintro e w66 ⟨rfl, hi, hb, hk⟩; have n0_ := Aside0.mk (Kd.R_mono (Kd.R_keep (IsS68.apart (show IsS68 w0 _ g s0_0 t136 from by repeat (first | (with_reducible first | exact HI0.out | apply IsS68.alloc | apply IsS68.drewN | apply IsS68.drew | apply IsS68.set_1) | exact HI0.out)) (by (with_reducible repeat apply Kd.R_alloc); exact HO_7.out) (by decide)) hk (fun _ h => h.2)) (fun _ h => h.1)); have n1_ := Aside0.mk (KeepBut.trans (by repeat (first | (with_reducible first | exact HK.out | apply KeepBut.set_ | apply keep_drewN | apply keep_drew | apply keep_alloc) | exact HK.out)) hk (.inl rfl)); have n2_ := Aside0.mk (hb); have n3_ := Aside0.mk (hi); clear HO_7; clear HK; clear HB; clear HI0; have HO_7 := n0_; have HK := n1_; have HB := n2_; have HI0 := n3_; clear n0_ n1_ n2_ n3_; (try clear hb); (try clear hb2); (try clear hk); (try clear hi)))
                      have n0_ := Aside0.mk (Kd.R_drew HO_7.out)
                      have n1_ := Aside0.mk (IsS68.drew HI0.out)
                      have n2_ := Aside0.mk (keep_drew HK.out)
                      have n3_ := Aside0.mk (below_drew1 HB.out)
                      clear HO_7
                      clear HI0
                      clear HK
                      clear HB
                      have HO_7 := n0_
                      have HI0 := n1_
                      have HK := n2_
                      have HB := n3_
                      clear n0_ n1_ n2_ n3_
                      have p153 : 0 ≤ (t135 : Int) := of_decide_eq_true (by first | (with_reducible assumption) | assumption)
                      have q153 : t135 < (x7_2.length : Int) := of_decide_eq_true (by first | (with_reducible assumption) | assumption)
                      obtain ⟨ad153, A153_0, c153_0, e153, hx153_0, hl153_0, hi153_0⟩ := at_L3 (Kd.R_reads' HO_7.out).2.2 t135 p153 q153
                      cases e153
                      obtain ⟨ce153, hce153, hMe153, hcc153⟩ := Kd.R_get HO_7.out [] t135 p153 (by first | exact q153 | exact of_decide_eq_true (by first | (with_reducible assumption) | assumption) | (have e_ := (Kd.R_reads' HO_7.out).1; omega))
                      obtain ⟨ve153_0, rfl, ge153_0⟩ := hMe153
                      have hv153_0 := hcc153 0 _ rfl
                      rw [Nat.add_zero, show ((Kd.slice 41 k41)).sz = 1 from rfl, Nat.mul_one] at hv153_0
                      replace hv153_0 := Option.some.inj (hv153_0.symm.trans hx153_0)
                      rw [hv153_0] at ge153_0
                      have HL153_0 := Aside0.mk (show Kd.R k41 41 _ _ _ _ (rd_L3 x7_2 t135) from ge153_0)
                      clear hv153_0 ge153_0
                      clear hcc153 hce153
                      have HR153_0 := Aside0.mk hi153_0
                      have HC153_0 := Aside0.mk hl153_0
                      clear hi153_0 hl153_0
                      replace p153 := eq_true p153
                      replace q153 := eq_true q153
                      have p157 : 0 ≤ ((ji51) : Int) := of_decide_eq_true (by first | (with_reducible assumption) | assumption)
                      have q157 : (ji51) < (x7_2.length : Int) := of_decide_eq_true (by first | (with_reducible assumption) | assumption)
                      obtain ⟨ad157, A157_0, c157_0, e157, hx157_0, hl157_0, hi157_0⟩ := at_L3 (Kd.R_reads' HO_7.out).2.2 (ji51) p157 q157
                      obtain rfl : ad153 = ad157 := (by injection e157)
                      obtain ⟨ce157, hce157, hMe157, hcc157⟩ := Kd.R_get HO_7.out [] (ji51) p157 (by first | exact q157 | exact of_decide_eq_true (by first | (with_reducible assumption) | assumption) | (have e_ := (Kd.R_reads' HO_7.out).1; omega))
                      obtain ⟨ve157_0, rfl, ge157_0⟩ := hMe157
                      have hv157_0 := hcc157 0 _ rfl
                      rw [Nat.add_zero, show ((Kd.slice 41 k41)).sz = 1 from rfl, Nat.mul_one] at hv157_0
                      replace hv157_0 := Option.some.inj (hv157_0.symm.trans hx157_0)
                      rw [hv157_0] at ge157_0
                      have HL157_0 := Aside0.mk (show Kd.R k41 41 _ _ _ _ (rd_L3 x7_2 (ji51)) from ge157_0)
                      clear hv157_0 ge157_0
                      clear hcc157 hce157
                      have HR157_0 := Aside0.mk hi157_0
                      have HC157_0 := Aside0.mk hl157_0
                      clear hi157_0 hl157_0
                      replace p157 := eq_true p157
                      replace q157 := eq_true q157
                      refine start_ (n := 19) (S := fun w' => w'.cell? (ad153.add (t135).toNat) = some (.slice A153_0 (rd_L3 x7_2 t135).length c153_0) ∧ w'.cell? (ad153.add ((ji51)).toNat) = some (.slice A157_0 (rd_L3 x7_2 (ji51)).length c157_0)) (ds := [16]) #[false, false, false, false, false, false, false, false, false, false, false, false, false, false, false, false, false, false, false] (by kernel_rfl) rfl rfl ⟨hx153_0, hx157_0⟩ (fun hHeld => ?_); refine with_tabW spec_l20Term.tab15 spec_l20Term.bits15 (fun HT_ HW_ => ?_)
                      generalize w66.drew = w67 at HO_7 HI0 HK HB HL153_0 HL157_0 HR153_0 HR157_0 hx153_0 hx157_0 hHeld ⊢
                      refine pure_ (i := 1) (N := some 75) (v := ?_) (a' := ?_) #[false, true, false, false, false, false, false, false, false, false, false, false, false, false, false, false, false, false, false] rfl rfl (any_of HT_.out (by kernel_rfl)) (fun _ _ _ h => h) (Or.inl ⟨by rfl, ?_⟩) ?_ ?_
                      rotate_left
                      ·intro w'
                       go_simp
                       with_reducible rfl
                      rotate_left
                      ·simp only [Act.put, List.setIfInBounds_toArray, List.set_cons_zero, List.set_cons_succ, i64_w, i32_w]
                       rfl
                      refine pure_ (i := 2) (N := some 76) (v := ?_) (a' := ?_) #[false, true, true, false, false, false, false, false, false, false, false, false, false, false, false, false, false, false, false] rfl rfl (any_of HT_.out (by kernel_rfl)) (fun _ _ _ h => h) (Or.inl ⟨by rfl, ?_⟩) ?_ ?_
                      rotate_left
                      ·intro w'
                       go_simp
                       with_reducible rfl
                      rotate_left
                      ·simp only [Act.put, List.setIfInBounds_toArray, List.set_cons_zero, List.set_cons_succ, i64_w, i32_w]
                       rfl
                      refine pure_ (i := 3) (N := some 77) (v := ?_) (a' := ?_) #[false, true, true, true, false, false, false, false, false, false, false, false, false, false, false, false, false, false, false] rfl rfl (any_of HT_.out (by kernel_rfl)) (fun _ _ _ h => h) (Or.inl ⟨by rfl, ?_⟩) ?_ ?_
                      rotate_left
                      ·intro w'
                       go_simp
                       with_reducible rfl
                      rotate_left
                      ·simp only [Act.put, List.setIfInBounds_toArray, List.set_cons_zero, List.set_cons_succ, i64_w, i32_w]
                       rfl
                      refine pure_ (i := 6) (N := some 80) (v := ?_) (a' := ?_) #[false, true, true, true, false, false, true, false, false, false, false, false, false, false, false, false, false, false, false] rfl rfl (any_of HT_.out (by kernel_rfl)) (fun _ _ _ h => h) (Or.inl ⟨by rfl, ?_⟩) ?_ ?_
                      rotate_left
                      ·intro w'
                       go_simp
                       with_reducible rfl
                      rotate_left
                      ·simp only [Act.put, List.setIfInBounds_toArray, List.set_cons_zero, List.set_cons_succ, i64_w, i32_w]
                       rfl
                      refine pure_ (i := 7) (N := some 81) (v := ?_) (a' := ?_) #[false, true, true, true, false, false, true, true, false, false, false, false, false, false, false, false, false, false, false] rfl rfl (any_of HT_.out (by kernel_rfl)) (fun _ _ _ h => h) (Or.inl ⟨by rfl, ?_⟩) ?_ ?_
                      rotate_left
                      ·intro w'
                       go_simp
                       with_reducible rfl
                      rotate_left
                      ·simp only [Act.put, List.setIfInBounds_toArray, List.set_cons_zero, List.set_cons_succ, i64_w, i32_w]
                       rfl
                      refine pure_ (i := 8) (N := some 82) (v := ?_) (a' := ?_) #[false, true, true, true, false, false, true, true, true, false, false, false, false, false, false, false, false, false, false] rfl rfl (any_of HT_.out (by kernel_rfl)) (fun _ _ _ h => h) (Or.inl ⟨by rfl, ?_⟩) ?_ ?_
                      rotate_left
                      ·intro w'
                       go_simp
                       with_reducible rfl
                      rotate_left
                      ·simp only [Act.put, List.setIfInBounds_toArray, List.set_cons_zero, List.set_cons_succ, i64_w, i32_w]
                       rfl
                      refine pure_ (i := 9) (N := some 83) (v := ?_) (a' := ?_) #[false, true, true, true, false, false, true, true, true, true, false, false, false, false, false, false, false, false, false] rfl rfl (any_of HT_.out (by kernel_rfl)) (fun _ _ _ h => h) (Or.inl ⟨by rfl, ?_⟩) ?_ ?_
                      rotate_left
                      ·intro w'
                       go_simp
                       with_reducible rfl
                      rotate_left
                      ·simp only [Act.put, List.setIfInBounds_toArray, List.set_cons_zero, List.set_cons_succ, i64_w, i32_w]
                       rfl
                      refine pure_ (i := 12) (N := some 86) (v := ?_) (a' := ?_) #[false, true, true, true, false, false, true, true, true, true, false, false, true, false, false, false, false, false, false] rfl rfl (any_of HT_.out (by kernel_rfl)) (fun _ _ _ h => h) (Or.inl ⟨by rfl, ?_⟩) ?_ ?_
                      rotate_left
                      ·intro w'
                       go_simp
                       with_reducible rfl
                      rotate_left
                      ·simp only [Act.put, List.setIfInBounds_toArray, List.set_cons_zero, List.set_cons_succ, i64_w, i32_w]
                       rfl
                      refine take_ (i := 4) (N := some 78) (v := ?_) (a' := ?_) #[false, true, true, true, true, false, true, true, true, true, false, false, true, false, false, false, false, false, false] rfl rfl (take_ofW HT_.out HW_.out (by kernel_rfl)) (fun _ _ _ h => h) (Or.inl ⟨by rfl, ?_⟩) hHeld ?_ ?_
                      rotate_left
                      ·rintro w' ⟨s0, s1⟩
                       go_simp
                       with_reducible rfl
                      rotate_left
                      ·simp only [Act.put, List.setIfInBounds_toArray, List.set_cons_zero, List.set_cons_succ, i64_w, i32_w]
                       rfl
                      refine take_ (i := 10) (N := some 84) (v := ?_) (a' := ?_) #[false, true, true, true, true, false, true, true, true, true, true, false, true, false, false, false, false, false, false] rfl rfl (take_ofW HT_.out HW_.out (by kernel_rfl)) (fun _ _ _ h => h) (Or.inl ⟨by rfl, ?_⟩) hHeld ?_ ?_
                      rotate_left
                      ·rintro w' ⟨s0, s1⟩
                       go_simp
                       with_reducible rfl
                      rotate_left
                      ·simp only [Act.put, List.setIfInBounds_toArray, List.set_cons_zero, List.set_cons_succ, i64_w, i32_w]
                       rfl
                      refine one_ (i := 0) (N := some 74) #[true, true, true, true, true, false, true, true, true, true, true, false, true, false, false, false, false, false, false] rfl rfl (one_of HT_.out (by kernel_rfl)) (by decide) (fun K hK => ?_)
                      refine Kd.R_lit_step k41 _ 41 ?hg (N := 74) ?hd (xs := ([] : List (S41))) (inner := []) (ok := fun _ => True) (okp := fun _ => True) ?hr ?hp (fun _ hk => hk) trivial (Below.refl _ _) (Nat.le_refl _) (by simp) ?_; (case hd => rfl); (case hg => rfl); (case hr => first | (go_simp; done) | (go_simp; rfl)); (case hp => exact (Reps.none _ _))
                      intro v151 w68 ho69 hb hg_ hnew_
                      have HS0_ := (hb.cell (World.block_lt_of_cell? _ _ (hHeld.1))).trans (hHeld.1)
                      have HS1_ := (hb.cell (World.block_lt_of_cell? _ _ (hHeld.2))).trans (hHeld.2)
                      clear hg_ hnew_
                      (first | rw [← Ny150.out] at ho69 | (simp only [Int.reduceToNat] at ho69; rw [← Ny150.out] at ho69))
                      have n0_ := Aside0.mk (Kd.R_elder' (by (with_reducible repeat apply Kd.R_alloc); exact HO_7.out) (Kd.R_base ho69) hb)
                      have n1_ := Aside0.mk (Kd.R_elder' (by (with_reducible repeat apply Kd.R_alloc); exact HL153_0.out) (Kd.R_base ho69) hb)
                      have n2_ := Aside0.mk (Kd.R_elder' (by (with_reducible repeat apply Kd.R_alloc); exact HL157_0.out) (Kd.R_base ho69) hb)
                      have n3_ := Aside0.mk (Kd.R_lower (Kd.R_new' (Kd.R_new' ho69 (Kd.R_lt (by (with_reducible repeat apply Kd.R_alloc); exact HL153_0.out))) (Kd.R_lt (by (with_reducible repeat apply Kd.R_alloc); exact HL157_0.out))) (keep_size (w := w) (g := g) (row := none) (by repeat (first | (with_reducible first | exact HK.out | apply KeepBut.set_ | apply keep_drewN | apply keep_drew | apply keep_alloc) | exact HK.out))))
                      have n4_ := Aside0.mk (IsS68.below (by repeat (first | (with_reducible first | exact HI0.out | apply IsS68.alloc | apply IsS68.drewN | apply IsS68.drew | apply IsS68.set_1) | exact HI0.out)) hb)
                      have n5_ := Aside0.mk (Kd.C_below (by repeat (first | (with_reducible exact HR153_0.out) | (with_reducible refine Kd.C_alloc ?_ _) | (with_reducible refine Kd.C_drewN ?_ _) | (with_reducible refine Kd.C_drew ?_) | exact HR153_0.out)) hb)
                      have n6_ := Aside0.mk (Kd.C_below (by repeat (first | (with_reducible exact HR157_0.out) | (with_reducible refine Kd.C_alloc ?_ _) | (with_reducible refine Kd.C_drewN ?_ _) | (with_reducible refine Kd.C_drew ?_) | exact HR157_0.out)) hb)
                      have n7_ := Aside0.mk (KeepBut.trans (by repeat (first | (with_reducible first | exact HK.out | apply KeepBut.set_ | apply keep_drewN | apply keep_drew | apply keep_alloc) | exact HK.out)) (KeepBut.of_below hb g none) (.inl rfl))
                      have n8_ := Aside0.mk (below_step (by repeat (first | (with_reducible first | exact HB.out | apply below_alloc | apply pw_below_drewN | apply below_drew1 | refine below_set ?_ (IsS68.ge HI0.out)) | exact HB.out)) hb)
                      clear HO_7
                      clear HL153_0
                      clear HL157_0
                      clear HI0
                      clear HR153_0
                      clear HR157_0
                      clear HK
                      clear HB
                      have HO_7 := n0_
                      have HL153_0 := n1_
                      have HL157_0 := n2_
                      have HO152 := n3_
                      have HI0 := n4_
                      have HR153_0 := n5_
                      have HR157_0 := n6_
                      have HK := n7_
                      have HB := n8_
                      clear n0_ n1_ n2_ n3_ n4_ n5_ n6_ n7_ n8_
                      clear hb ho69
                      refine hK.out _ _ ⟨HS0_, HS1_⟩ (fun hHeld => ?_)
                      clear hK K
                      refine norm_ (a' := ?_) ?_ ?_
                      rotate_left
                      ·show Act.put _ (some 74) _ = _
                       simp only [Act.put, List.setIfInBounds_toArray, List.set_cons_zero, List.set_cons_succ, i64_w, i32_w]
                       rfl
                      refine one_ (i := 5) (N := some 79) #[true, true, true, true, true, true, true, true, true, true, true, false, true, false, false, false, false, false, false] rfl rfl (one_of HT_.out (by kernel_rfl)) (by decide) (fun K hK => ?_)
                      refine Kd.R_append_rows_step k41 w.heap.size (by rfl) (.tmp 74) (.tmp 78) 23 41 (.agg #[(.int .i64 0), (.int .i64 0)]) 16 rfl Try.underlying23 info41 rfl (by decide) (by omega) v151 y150 (rd_L3 x7_2 t135) _ _ _ (fun k_ => some k_ ≠ (.slice A153_0 (rd_L3 x7_2 t135).length c153_0 : Value).ownBlock ∧ some k_ ≠ (.slice A157_0 (rd_L3 x7_2 (ji51)).length c157_0 : Value).ownBlock) (fun _ => False) rfl rfl ?aO ?aR (fun _ _ h => h) (fun _ h => h.elim) ?aF (Below.refl _ _) ?aS ?aL ?_
                      (case aR => repeat (first | exact (by repeat (first | (with_reducible exact HR153_0.out) | (with_reducible refine Kd.C_alloc ?_ _) | (with_reducible refine Kd.C_drewN ?_ _) | (with_reducible refine Kd.C_drew ?_) | exact HR153_0.out)) | (with_reducible refine Kd.C_alloc ?_ _) | (with_reducible refine Kd.C_drewN ?_ _) | (with_reducible refine Kd.C_drew ?_)))
                      (case aF => exact (fun k_ hk => ⟨Kd.fresh' (Kd.R_lt (by (with_reducible repeat apply Kd.R_alloc); exact HL153_0.out)) k_ hk, Kd.fresh' (Kd.R_lt (by (with_reducible repeat apply Kd.R_alloc); exact HL157_0.out)) k_ hk⟩))
                      (case aO => exact (by (with_reducible repeat apply Kd.R_alloc); exact Kd.R_mono HO152.out (fun _ hk => ⟨hk.1.2, hk.2⟩)))
                      (case aS => exact (keep_size (w := w) (g := g) (row := none) (by repeat (first | (with_reducible first | exact HK.out | apply KeepBut.set_ | apply keep_drewN | apply keep_drew | apply keep_alloc) | exact HK.out))))
                      (case aL => have := LMc50.out; omega)
                      intro v155 w70 ho hb hg hat
                      have HS0_ := cell_grown hg (hHeld.1) (by first | (rw [add_block]; exact ((HO_7.out.1 _ rfl).2)) | (show some (Addr.add _ _).block ≠ _; rw [add_block]; exact ((HO_7.out.1 _ rfl).2)) | exact ((HO_7.out.1 _ rfl).2))
                      have HS1_ := cell_grown hg (hHeld.2) (by first | (rw [add_block]; exact ((HO_7.out.1 _ rfl).2)) | (show some (Addr.add _ _).block ≠ _; rw [add_block]; exact ((HO_7.out.1 _ rfl).2)) | exact ((HO_7.out.1 _ rfl).2))
                      rw [← Ny154.out] at ho
                      have n0_ := Aside0.mk (Kd.R_after (ok := (fun _ => True)) (by (with_reducible repeat apply Kd.R_alloc); exact HO_7.out) hg hat)
                      have n1_ := Aside0.mk (IsS68.grown (by repeat (first | (with_reducible first | exact HI0.out | apply IsS68.alloc | apply IsS68.drewN | apply IsS68.drew | apply IsS68.set_1) | exact HI0.out)) hg (IsS68.own_ne HI0.out HO152.out (by decide)))
                      have n2_ := Aside0.mk (Kd.R_after (ok := (fun k_ => some k_ ≠ (.slice (some ad153) x7_2.length co64 : Value).ownBlock)) (by (with_reducible repeat apply Kd.R_alloc); exact Kd.R_mono HL153_0.out (fun _ hk => ⟨hk.1.2, hk.2⟩)) hg hat)
                      have n3_ := Aside0.mk (Kd.R_after (ok := (fun k_ => some k_ ≠ (.slice (some ad153) x7_2.length co64 : Value).ownBlock)) (by (with_reducible repeat apply Kd.R_alloc); exact Kd.R_mono HL157_0.out (fun _ hk => ⟨hk.1.2, hk.2⟩)) hg hat)
                      have n4_ := Aside0.mk (below_weaken (by repeat (first | (with_reducible first | exact HB.out | apply below_alloc | apply pw_below_drewN | apply below_drew1 | refine below_set ?_ (IsS68.ge HI0.out)) | exact HB.out)) HL.out hb)
                      have n5_ := Aside0.mk (KeepBut.trans (by repeat (first | (with_reducible first | exact HK.out | apply KeepBut.set_ | apply keep_drewN | apply keep_drew | apply keep_alloc) | exact HK.out)) (KeepBut.of_grown hg g) (Kd.R_base2 HO152.out))
                      have n6_ := Aside0.mk (ho)
                      clear HO_7
                      clear HI0
                      clear HL153_0
                      clear HL157_0
                      clear HB
                      clear HK
                      clear HO152
                      have HO_7 := n0_
                      have HI0 := n1_
                      have HL153_0 := n2_
                      have HL157_0 := n3_
                      have HB := n4_
                      have HK := n5_
                      have HO156 := n6_
                      clear n0_ n1_ n2_ n3_ n4_ n5_ n6_
                      clear ho hb hg hat
                      refine hK.out _ _ ⟨HS0_, HS1_⟩ (fun hHeld => ?_)
                      clear hK K
                      refine norm_ (a' := ?_) ?_ ?_
                      rotate_left
                      ·show Act.put _ (some 79) _ = _
                       simp only [Act.put, List.setIfInBounds_toArray, List.set_cons_zero, List.set_cons_succ, i64_w, i32_w]
                       rfl
                      refine one_ (i := 11) (N := some 85) #[true, true, true, true, true, true, true, true, true, true, true, true, true, false, false, false, false, false, false] rfl rfl (one_of HT_.out (by kernel_rfl)) (by decide) (fun K hK => ?_)
                      refine Kd.R_append_rows_step k41 w.heap.size (by rfl) (.tmp 79) (.tmp 84) 23 41 (.agg #[(.int .i64 0), (.int .i64 0)]) 16 rfl Try.underlying23 info41 rfl (by decide) (by omega) v155 y154 (rd_L3 x7_2 (ji51)) _ _ _ (fun k_ => some k_ ≠ (.slice A153_0 (rd_L3 x7_2 t135).length c153_0 : Value).ownBlock ∧ some k_ ≠ (.slice A157_0 (rd_L3 x7_2 (ji51)).length c157_0 : Value).ownBlock) (fun _ => False) rfl rfl ?aO ?aR (fun _ _ h => h) (fun _ h => h.elim) ?aF (Below.refl _ _) ?aS ?aL ?_
                      (case aR => repeat (first | exact ((Kd.R_reads' (by (with_reducible repeat apply Kd.R_alloc); exact HL157_0.out)).2.2) | (with_reducible refine Kd.C_alloc ?_ _) | (with_reducible refine Kd.C_drewN ?_ _) | (with_reducible refine Kd.C_drew ?_)))
                      (case aF => exact (fun k_ hk => ⟨Kd.fresh' (Kd.R_lt (by (with_reducible repeat apply Kd.R_alloc); exact HL153_0.out)) k_ hk, Kd.fresh' (Kd.R_lt (by (with_reducible repeat apply Kd.R_alloc); exact HL157_0.out)) k_ hk⟩))
                      (case aO => exact (by (with_reducible repeat apply Kd.R_alloc); exact HO156.out))
                      (case aS => exact (keep_size (w := w) (g := g) (row := none) (by repeat (first | (with_reducible first | exact HK.out | apply KeepBut.set_ | apply keep_drewN | apply keep_drew | apply keep_alloc) | exact HK.out))))
                      (case aL => have := LMc54.out; omega)
                      intro v159 w71 ho hb hg hat
                      have HS0_ := cell_grown hg (hHeld.1) (by first | (rw [add_block]; exact ((HO_7.out.1 _ rfl).2)) | (show some (Addr.add _ _).block ≠ _; rw [add_block]; exact ((HO_7.out.1 _ rfl).2)) | exact ((HO_7.out.1 _ rfl).2))
                      have HS1_ := cell_grown hg (hHeld.2) (by first | (rw [add_block]; exact ((HO_7.out.1 _ rfl).2)) | (show some (Addr.add _ _).block ≠ _; rw [add_block]; exact ((HO_7.out.1 _ rfl).2)) | exact ((HO_7.out.1 _ rfl).2))
                      rw [← Ny158.out] at ho
                      have n0_ := Aside0.mk (Kd.R_after (ok := (fun _ => True)) (by (with_reducible repeat apply Kd.R_alloc); exact HO_7.out) hg hat)
                      have n1_ := Aside0.mk (IsS68.grown (by repeat (first | (with_reducible first | exact HI0.out | apply IsS68.alloc | apply IsS68.drewN | apply IsS68.drew | apply IsS68.set_1) | exact HI0.out)) hg (IsS68.own_ne HI0.out HO156.out (by decide)))
                      have n2_ := Aside0.mk (Kd.R_after (ok := (fun k_ => some k_ ≠ (.slice (some ad153) x7_2.length co64 : Value).ownBlock)) (by (with_reducible repeat apply Kd.R_alloc); exact HL153_0.out) hg hat)
                      have n3_ := Aside0.mk (Kd.R_after (ok := (fun k_ => some k_ ≠ (.slice (some ad153) x7_2.length co64 : Value).ownBlock)) (by (with_reducible repeat apply Kd.R_alloc); exact HL157_0.out) hg hat)
                      have n4_ := Aside0.mk (below_weaken (by repeat (first | (with_reducible first | exact HB.out | apply below_alloc | apply pw_below_drewN | apply below_drew1 | refine below_set ?_ (IsS68.ge HI0.out)) | exact HB.out)) HL.out hb)
                      have n5_ := Aside0.mk (KeepBut.trans (by repeat (first | (with_reducible first | exact HK.out | apply KeepBut.set_ | apply keep_drewN | apply keep_drew | apply keep_alloc) | exact HK.out)) (KeepBut.of_grown hg g) (Kd.R_base2 HO156.out))
                      have n6_ := Aside0.mk (ho)
                      clear HO_7
                      clear HI0
                      clear HL153_0
                      clear HL157_0
                      clear HB
                      clear HK
                      clear HO156
                      have HO_7 := n0_
                      have HI0 := n1_
                      have HL153_0 := n2_
                      have HL157_0 := n3_
                      have HB := n4_
                      have HK := n5_
                      have HO160 := n6_
                      clear n0_ n1_ n2_ n3_ n4_ n5_ n6_
                      clear ho hb hg hat
                      refine hK.out _ _ ⟨HS0_, HS1_⟩ (fun hHeld => ?_)
                      clear hK K
                      refine norm_ (a' := ?_) ?_ ?_
                      rotate_left
                      ·show Act.put _ (some 85) _ = _
                       simp only [Act.put, List.setIfInBounds_toArray, List.set_cons_zero, List.set_cons_succ, i64_w, i32_w]
                       rfl
                      refine one_ (i := 13) (N := some 87) #[true, true, true, true, true, true, true, true, true, true, true, true, true, true, false, false, false, false, false] rfl rfl (one_of HT_.out (by kernel_rfl)) (by decide) (fun K hK => ?_)
                      refine goes_ Try.func64 (by kernel_rfl) rfl #[.pointer (some ⟨g, 0, none⟩), .int .i64 3] (by rfl) rfl rfl (by (try simp only [List.map_toArray, List.map_cons, List.map_nil]); first | done | rfl | (simp only [List.length_drop, List.length_take]; rfl)) ?_
                      with_reducible refine (spec_l20Rd_pick.calls k2 g s0_0 t138 3 t161 t162 w0 _ ?side1 ?side2 A55.out).mono ?_
                      (case side1 => repeat (first | (with_reducible first | exact HI0.out | apply IsS68.alloc | apply IsS68.drewN | apply IsS68.drew | apply IsS68.set_1) | exact HI0.out))
                      (case side2 => repeat (first | (with_reducible first | exact HB.out | apply below_alloc | apply pw_below_drewN | apply below_drew1 | refine below_set ?_ (IsS68.ge HI0.out)) | exact HB.out))
                      rintro e w72 ⟨rfl, hi, hb, hk⟩
                      have HS0_ := keep_cell hk (hHeld.1) (by first | (rw [add_block]; exact Kd.own_blk (IsS68.own_ne HI0.out HO_7.out (by decide))) | (show (Addr.add _ _).block ≠ _; rw [add_block]; exact Kd.own_blk (IsS68.own_ne HI0.out HO_7.out (by decide))) | exact Kd.own_blk (IsS68.own_ne HI0.out HO_7.out (by decide)))
                      have HS1_ := keep_cell hk (hHeld.2) (by first | (rw [add_block]; exact Kd.own_blk (IsS68.own_ne HI0.out HO_7.out (by decide))) | (show (Addr.add _ _).block ≠ _; rw [add_block]; exact Kd.own_blk (IsS68.own_ne HI0.out HO_7.out (by decide))) | exact Kd.own_blk (IsS68.own_ne HI0.out HO_7.out (by decide)))
                      refine ⟨_, rfl, ?_⟩
                      have n0_ := Aside0.mk (Kd.R_mono (Kd.R_keep (IsS68.apart (show IsS68 w0 _ g s0_0 t138 from by repeat (first | (with_reducible first | exact HI0.out | apply IsS68.alloc | apply IsS68.drewN | apply IsS68.drew | apply IsS68.set_1) | exact HI0.out)) (by (with_reducible repeat apply Kd.R_alloc); exact HO_7.out) (by decide)) hk (fun _ h => h.2)) (fun _ h => h.1))
                      have n1_ := Aside0.mk (Kd.R_mono (Kd.R_keep (IsS68.apart (show IsS68 w0 _ g s0_0 t138 from by repeat (first | (with_reducible first | exact HI0.out | apply IsS68.alloc | apply IsS68.drewN | apply IsS68.drew | apply IsS68.set_1) | exact HI0.out)) (by (with_reducible repeat apply Kd.R_alloc); exact HL153_0.out) (by decide)) hk (fun _ h => h.2)) (fun _ h => h.1))
                      have n2_ := Aside0.mk (Kd.R_mono (Kd.R_keep (IsS68.apart (show IsS68 w0 _ g s0_0 t138 from by repeat (first | (with_reducible first | exact HI0.out | apply IsS68.alloc | apply IsS68.drewN | apply IsS68.drew | apply IsS68.set_1) | exact HI0.out)) (by (with_reducible repeat apply Kd.R_alloc); exact HL157_0.out) (by decide)) hk (fun _ h => h.2)) (fun _ h => h.1))
                      have n3_ := Aside0.mk (Kd.R_mono (Kd.R_keep (IsS68.apart (show IsS68 w0 _ g s0_0 t138 from by repeat (first | (with_reducible first | exact HI0.out | apply IsS68.alloc | apply IsS68.drewN | apply IsS68.drew | apply IsS68.set_1) | exact HI0.out)) (by (with_reducible repeat apply Kd.R_alloc); exact HO160.out) (by decide)) hk (fun _ h => h.2)) (fun _ h => h.1))
                      have n4_ := Aside0.mk (KeepBut.trans (by repeat (first | (with_reducible first | exact HK.out | apply KeepBut.set_ | apply keep_drewN | apply keep_drew | apply keep_alloc) | exact HK.out)) hk (.inl rfl))
                      have n5_ := Aside0.mk (hb)
                      have n6_ := Aside0.mk (hi)
                      clear HO_7
                      clear HL153_0
                      clear HL157_0
                      clear HO160
                      clear HK
                      clear HB
                      clear HI0
                      have HO_7 := n0_
                      have HL153_0 := n1_
                      have HL157_0 := n2_
                      have HO160 := n3_
                      have HK := n4_
                      have HB := n5_
                      have HI0 := n6_
                      clear n0_ n1_ n2_ n3_ n4_ n5_ n6_
                      (try clear hb)
                      (try clear hb2)
                      (try clear hk)
                      (try clear hi)
                      refine hK.out _ _ ⟨HS0_, HS1_⟩ (fun hHeld => ?_)
                      clear hK K
                      refine norm_ (a' := ?_) ?_ ?_
                      rotate_left
                      ·show Act.put _ (some 87) _ = _
                       simp only [Act.put, List.setIfInBounds_toArray, List.set_cons_zero, List.set_cons_succ, i64_w, i32_w]
                       rfl
                      refine pure_ (i := 14) (N := some 88) (v := ?_) (a' := ?_) #[true, true, true, true, true, true, true, true, true, true, true, true, true, true, true, false, false, false, false] rfl rfl (any_of HT_.out (by kernel_rfl)) (fun _ _ _ h => h) (Or.inl ⟨by rfl, ?_⟩) ?_ ?_
                      rotate_left
                      ·intro w'
                       go_simp
                       with_reducible rfl
                      rotate_left
                      ·simp only [Act.put, List.setIfInBounds_toArray, List.set_cons_zero, List.set_cons_succ, i64_w, i32_w]
                       rfl
                      refine pure_ (i := 15) (N := some 89) (v := ?_) (a' := ?_) #[true, true, true, true, true, true, true, true, true, true, true, true, true, true, true, true, false, false, false] rfl rfl (any_of HT_.out (by kernel_rfl)) (fun _ _ _ h => h) (Or.inl ⟨by rfl, ?_⟩) ?_ ?_
                      rotate_left
                      ·intro w'
                       go_simp
                       with_reducible rfl
                      rotate_left
                      ·simp only [Act.put, List.setIfInBounds_toArray, List.set_cons_zero, List.set_cons_succ, i64_w, i32_w]
                       rfl
                      refine last_ (i := 16) (N := some 90) #[true, true, true, true, true, true, true, true, true, true, true, true, true, true, true, true, true, false, false] rfl rfl (one_of HT_.out (by kernel_rfl)) (by decide) (fun K hK => ?_)
                      refine value_ (w1 := ?_) (v := ?_) (by rfl) rfl ?_ ?_
                      rotate_left 2
                      ·go_simp
                       constructor
                       ·rfl
                       ·rfl
                      refine hK.out _ _ ?_
                      clear hK K
                      refine norm_ (a' := ?_) ?_ ?_
                      rotate_left
                      ·show Act.put _ (some 90) _ = _
                       simp only [Act.put, List.setIfInBounds_toArray, List.set_cons_zero, List.set_cons_succ, i64_w, i32_w]
                       rfl
                      refine one_ (i := 17) (N := some 91) #[true, true, true, true, true, true, true, true, true, true, true, true, true, true, true, true, true, true, false] rfl rfl (one_of HT_.out (by kernel_rfl)) (by decide) (fun K hK => ?_)
                      refine Kd.R_append_step k41 w.heap.size (by rfl) (.tmp 85) (.tmp 90) 23 41 (.agg #[(.int .i64 0), (.int .i64 0)]) 16 rfl Try.underlying23 info41 rfl (by decide) (by omega) v159 y158 (⟨wrap64 (3 + t161), 0⟩ : S41) [.int .i64 (wrap64 (3 + t161)), .int .i64 0] (fun k_ => some k_ ≠ (.slice A153_0 (rd_L3 x7_2 t135).length c153_0 : Value).ownBlock ∧ some k_ ≠ (.slice A157_0 (rd_L3 x7_2 (ji51)).length c157_0 : Value).ownBlock) (fun _ => False) rfl rfl ?aP (fun _ hk => hk.elim) ?aF ?aO (Below.refl _ _) ?aS ?aL ?_
                      (case aP => exact k41_mkM _ _ _ (⟨wrap64 (3 + t161), 0⟩ : S41))
                      (case aF => exact (fun k_ hk => ⟨Kd.fresh' (Kd.R_lt (by (with_reducible repeat apply Kd.R_alloc); exact HL153_0.out)) k_ hk, Kd.fresh' (Kd.R_lt (by (with_reducible repeat apply Kd.R_alloc); exact HL157_0.out)) k_ hk⟩))
                      (case aO => exact (by (with_reducible repeat apply Kd.R_alloc); exact HO160.out))
                      (case aS => exact (keep_size (w := w) (g := g) (row := none) (by repeat (first | (with_reducible first | exact HK.out | apply KeepBut.set_ | apply keep_drewN | apply keep_drew | apply keep_alloc) | exact HK.out))))
                      (case aL => have := LMc56.out; omega)
                      intro v164 w73 ho hb hg hat
                      have HS0_ := cell_grown hg (hHeld.1) (by first | (rw [add_block]; exact ((HO_7.out.1 _ rfl).2)) | (show some (Addr.add _ _).block ≠ _; rw [add_block]; exact ((HO_7.out.1 _ rfl).2)) | exact ((HO_7.out.1 _ rfl).2))
                      have HS1_ := cell_grown hg (hHeld.2) (by first | (rw [add_block]; exact ((HO_7.out.1 _ rfl).2)) | (show some (Addr.add _ _).block ≠ _; rw [add_block]; exact ((HO_7.out.1 _ rfl).2)) | exact ((HO_7.out.1 _ rfl).2))
                      rw [← Ny163.out] at ho
                      have n0_ := Aside0.mk (Kd.R_after (ok := (fun _ => True)) (by (with_reducible repeat apply Kd.R_alloc); exact HO_7.out) hg hat)
                      have n1_ := Aside0.mk (IsS68.grown (by repeat (first | (with_reducible first | exact HI0.out | apply IsS68.alloc | apply IsS68.drewN | apply IsS68.drew | apply IsS68.set_1) | exact HI0.out)) hg (IsS68.own_ne HI0.out HO160.out (by decide)))
                      have n2_ := Aside0.mk (Kd.R_after (ok := (fun k_ => some k_ ≠ (.slice (some ad153) x7_2.length co64 : Value).ownBlock)) (by (with_reducible repeat apply Kd.R_alloc); exact HL153_0.out) hg hat)
                      have n3_ := Aside0.mk (Kd.R_after (ok := (fun k_ => some k_ ≠ (.slice (some ad153) x7_2.length co64 : Value).ownBlock)) (by (with_reducible repeat apply Kd.R_alloc); exact HL157_0.out) hg hat)
                      have n4_ := Aside0.mk (below_weaken (by repeat (first | (with_reducible first | exact HB.out | apply below_alloc | apply pw_below_drewN | apply below_drew1 | refine below_set ?_ (IsS68.ge HI0.out)) | exact HB.out)) HL.out hb)
                      have n5_ := Aside0.mk (KeepBut.trans (by repeat (first | (with_reducible first | exact HK.out | apply KeepBut.set_ | apply keep_drewN | apply keep_drew | apply keep_alloc) | exact HK.out)) (KeepBut.of_grown hg g) (Kd.R_base2 HO160.out))
                      have n6_ := Aside0.mk (ho)
                      clear HO_7
                      clear HI0
                      clear HL153_0
                      clear HL157_0
                      clear HB
                      clear HK
                      clear HO160
                      have HO_7 := n0_
                      have HI0 := n1_
                      have HL153_0 := n2_
                      have HL157_0 := n3_
                      have HB := n4_
                      have HK := n5_
                      have HO165 := n6_
                      clear n0_ n1_ n2_ n3_ n4_ n5_ n6_
                      clear ho hb hg hat
                      refine hK.out _ _ ⟨HS0_, HS1_⟩ (fun hHeld => ?_)
                      clear hK K
                      refine norm_ (a' := ?_) ?_ ?_
                      rotate_left
                      ·show Act.put _ (some 91) _ = _
                       simp only [Act.put, List.setIfInBounds_toArray, List.set_cons_zero, List.set_cons_succ, i64_w, i32_w]
                       rfl
                      refine pure_ (i := 18) (N := some 11) (v := ?_) (a' := ?_) #[true, true, true, true, true, true, true, true, true, true, true, true, true, true, true, true, true, true, true] rfl rfl (any_of HT_.out (by kernel_rfl)) (fun _ _ _ h => h) (Or.inl ⟨by rfl, ?_⟩) ?_ ?_
                      rotate_left
                      ·intro w'
                       go_simp
                       with_reducible rfl
                      rotate_left
                      ·simp only [Act.put, List.setIfInBounds_toArray, List.set_cons_zero, List.set_cons_succ, i64_w, i32_w]
                       rfl
                      refine done_ (done_of HT_.out (by kernel_rfl)) ?_
                      try go_wp2_with (first | ((with_reducible refine gate_dst (N := 92) rfl ?_); refine Kd.R_lit (Kd.slice 41 k41) _ 23 ?hg (N := 92) ?hd (xs := ([] : List (List (S41)))) (inner := []) (ok := fun _ => True) (okp := fun _ => True) ?hr ?hp (fun _ hk => hk) trivial (Below.refl _ _) (Nat.le_refl _) (by simp) ?_; (case hd => rfl); (case hg => rfl); (case hr => first | (go_simp; done) | (go_simp; rfl)); (case hp => exact (Reps.none _ _)); intro v167 w74 ho75 hb hg_ hnew_; clear hg_ hnew_; (first | rw [← Ny166.out] at ho75 | (simp only [Int.reduceToNat] at ho75; rw [← Ny166.out] at ho75)); have n0_ := Aside0.mk (Kd.R_elder' (by (with_reducible repeat apply Kd.R_alloc); exact HO_7.out) (Kd.R_base ho75) hb); have n1_ := Aside0.mk (Kd.R_below (by (with_reducible repeat apply Kd.R_alloc); exact HL153_0.out) hb); have n2_ := Aside0.mk (Kd.R_below (by (with_reducible repeat apply Kd.R_alloc); exact HL157_0.out) hb); have n3_ := Aside0.mk (Kd.R_below (by (with_reducible repeat apply Kd.R_alloc); exact HO165.out) hb); have n4_ := Aside0.mk (Kd.R_lower (Kd.R_new' (Kd.R_new' (Kd.R_new' (Kd.R_new' ho75 (Kd.R_lt (by (with_reducible repeat apply Kd.R_alloc); exact HO_7.out))) (Kd.R_lt (by (with_reducible repeat apply Kd.R_alloc); exact HL153_0.out))) (Kd.R_lt (by (with_reducible repeat apply Kd.R_alloc); exact HL157_0.out))) (Kd.R_lt (by (with_reducible repeat apply Kd.R_alloc); exact HO165.out))) (keep_size (w := w) (g := g) (row := none) (by repeat (first | (with_reducible first | exact HK.out | apply KeepBut.set_ | apply keep_drewN | apply keep_drew | apply keep_alloc) | exact HK.out)))); have n5_ := Aside0.mk (IsS68.below (by repeat (first | (with_reducible first | exact HI0.out | apply IsS68.alloc | apply IsS68.drewN | apply IsS68.drew | apply IsS68.set_1) | exact HI0.out)) hb); have n6_ := Aside0.mk (KeepBut.trans (by repeat (first | (with_reducible first | exact HK.out | apply KeepBut.set_ | apply keep_drewN | apply keep_drew | apply keep_alloc) | exact HK.out)) (KeepBut.of_below hb g none) (.inl rfl)); have n7_ := Aside0.mk (below_step (by repeat (first | (with_reducible first | exact HB.out | apply below_alloc | apply pw_below_drewN | apply below_drew1 | refine below_set ?_ (IsS68.ge HI0.out)) | exact HB.out)) hb); clear HO_7; clear HL153_0; clear HL157_0; clear HO165; clear HI0; clear HK; clear HB; have HO_7 := n0_; have HL153_0 := n1_; have HL157_0 := n2_; have HO165 := n3_; have HO168 := n4_; have HI0 := n5_; have HK := n6_; have HB := n7_; clear n0_ n1_ n2_ n3_ n4_ n5_ n6_ n7_; clear hb ho75; have q76 : (t135 : Int) ≤ ((x7_2.length : Int) : Int) := of_decide_eq_true (by first | (with_reducible assumption) | assumption); obtain ⟨i076, hi076, _, hsz76, _⟩ := info_parts info23; have hroom76 : x7_2.length ≤ co64 := (Kd.R_reads' HO_7.out).2.1; have hC76 : Kd.C (Kd.slice 41 k41) _ (some ad153) x7_2.length x7_2 := (Kd.R_reads' HO_7.out).2.2; have hcut76 := cut_to (P := Try.prog) 72 23 .i64 Try.underlying72 hi076 (some ad153) x7_2.length co64 t135 (of_decide_eq_true (by first | (with_reducible assumption) | assumption)) q76 hroom76; have hr76 := Kd.C_take (m := (t135 : Int).toNat) hC76 (by omega); have hy76 : y169.length = (t135 : Int).toNat := (by rw [Ny169.out, List.length_take]; omega); rw [← Ny169.out] at hr76; rw [← hy76] at hcut76; have HR172 := Aside0.mk hr76; have HC172 := Aside0.mk (show y169.length ≤ co64 from by omega); clear hr76 hC76 hroom76 hi076 hsz76; have KY76 := Aside0.mk hy76; clear hy76; have KL76 := Aside0.mk (show (t135 : Int).toNat ≤ x7_2.length from by omega); replace q76 := eq_true q76) | ((with_reducible refine gate_builtin (b := .append) (xs := #[.tmp 92, .tmp 95]) rfl ?_); at_builtin; refine Kd.R_append_rows (Kd.slice 41 k41) w.heap.size rfl (.tmp 92) (.tmp 95) 72 23 (.slice none 0 0) 24 rfl Try.underlying72 info23 rfl (by decide) (by omega) v167 y166 y169 _ _ _ (fun k_ => some k_ ≠ (.slice (some ad153) x7_2.length co64 : Value).ownBlock ∧ some k_ ≠ (v164 : Value).ownBlock) (fun k_ => ((fun k_ => some k_ ≠ (.slice (some ad153) x7_2.length co64 : Value).ownBlock ∧ some k_ ≠ (v164 : Value).ownBlock)) k_ ∧ some k_ ≠ (v167 : Value).ownBlock) rfl rfl ?aO ?aR (fun _ _ h => h) (fun _ hk => hk) ?aF (Below.refl _ _) ?aS ?aL ?_; (case aR => rw [Ny169.out]; exact Kd.C_take (m := (t135 : Int).toNat) (Kd.R_frozen (okp := (fun k_ => ((fun k_ => some k_ ≠ (.slice (some ad153) x7_2.length co64 : Value).ownBlock ∧ some k_ ≠ (v164 : Value).ownBlock)) k_ ∧ some k_ ≠ (v167 : Value).ownBlock)) (HO_7.out) (fun k_ hk => ⟨⟨hk.2, hk.1.1.2⟩, hk.1.2⟩)).2.2 KL76.out); (case aF => exact (fun k_ hk => ⟨Kd.fresh' (Kd.R_lt (by (with_reducible repeat apply Kd.R_alloc); exact HO_7.out)) k_ hk, Kd.fresh' (Kd.R_lt (by (with_reducible repeat apply Kd.R_alloc); exact HO165.out)) k_ hk⟩)); (case aO => exact (by (with_reducible repeat apply Kd.R_alloc); exact Kd.R_mono HO168.out (fun _ hk => ⟨hk.1.1.1.2, hk.2⟩))); (case aS => exact (keep_size (w := w) (g := g) (row := none) (by repeat (first | (with_reducible first | exact HK.out | apply KeepBut.set_ | apply keep_drewN | apply keep_drew | apply keep_alloc) | exact HK.out)))); (case aL => have := LMc59.out; omega); intro v174 w77 ho hb hg hat; rw [← Ny173.out] at ho; have n0_ := Aside0.mk (Kd.R_after (ok := (fun k_ => some k_ ≠ (v164 : Value).ownBlock)) (by (with_reducible repeat apply Kd.R_alloc); exact Kd.R_mono HO_7.out (fun _ hk => ⟨hk.1.2, hk.2⟩)) hg hat); have n1_ := Aside0.mk (IsS68.grown (by repeat (first | (with_reducible first | exact HI0.out | apply IsS68.alloc | apply IsS68.drewN | apply IsS68.drew | apply IsS68.set_1) | exact HI0.out)) hg (IsS68.own_ne HI0.out HO168.out (by decide))); have n2_ := Aside0.mk (Kd.R_over' (by (with_reducible repeat apply Kd.R_alloc); exact HO165.out) (Kd.R_typed (by (with_reducible repeat apply Kd.R_alloc); exact HO168.out)) (by decide) hg); have n3_ := Aside0.mk (below_weaken (by repeat (first | (with_reducible first | exact HB.out | apply below_alloc | apply pw_below_drewN | apply below_drew1 | refine below_set ?_ (IsS68.ge HI0.out)) | exact HB.out)) HL.out hb); have n4_ := Aside0.mk (KeepBut.trans (by repeat (first | (with_reducible first | exact HK.out | apply KeepBut.set_ | apply keep_drewN | apply keep_drew | apply keep_alloc) | exact HK.out)) (KeepBut.of_grown hg g) (Kd.R_base2 HO168.out)); have n5_ := Aside0.mk ((show Kd.C (Kd.slice 41 k41) w77 (some ad153) y169.length y169 from by rw [Ny169.out]; exact Kd.C_take (m := (t135 : Int).toNat) ((Kd.R_reads' (Kd.R_after (ok := (fun k_ => some k_ ≠ (v164 : Value).ownBlock)) (by (with_reducible repeat apply Kd.R_alloc); exact Kd.R_mono HO_7.out (fun _ hk => ⟨hk.1.2, hk.2⟩)) hg hat)).2.2) KL76.out)); have n6_ := Aside0.mk (ho); clear HO_7; clear HI0; clear HO165; clear HB; clear HK; clear HR172; clear HO168; have HO_7 := n0_; have HI0 := n1_; have HO165 := n2_; have HB := n3_; have HK := n4_; have HR172 := n5_; have HO175 := n6_; clear n0_ n1_ n2_ n3_ n4_ n5_ n6_; clear ho hb hg hat; obtain ⟨Ao79, co79, eo79⟩ := Kd.R_slice HO165.out; subst eo79) | ((with_reducible refine gate_builtin (b := .append) (xs := #[.tmp 97, .tmp 99]) rfl ?_); at_builtin; refine Kd.R_append (Kd.slice 41 k41) w.heap.size rfl (.tmp 97) (.tmp 99) 72 23 (.slice none 0 0) 24 rfl Try.underlying72 info23 rfl (by decide) (by omega) v174 y173 y163 [.slice Ao79 y163.length co79] (fun k_ => some k_ ≠ (.slice (some ad153) x7_2.length co64 : Value).ownBlock) (fun k_ => ((fun k_ => some k_ ≠ (.slice (some ad153) x7_2.length co64 : Value).ownBlock)) k_ ∧ some k_ ≠ (v174 : Value).ownBlock) rfl rfl ?aP (fun _ hk => hk) ?aF ?aO (Below.refl _ _) ?aS ?aL ?_; (case aP => exact Kd.M_row (Kd.R_mono (Kd.R_apart' (Kd.R_apart' (HO165.out) (Kd.R_typed HO_7.out) (by decide)) (Kd.R_typed HO175.out) (by decide)) (fun k_ hk => ⟨hk.1.2, hk.2⟩))); (case aF => exact (fun k_ hk => Kd.fresh' (Kd.R_lt (by (with_reducible repeat apply Kd.R_alloc); exact HO_7.out)) k_ hk)); (case aO => exact (by (with_reducible repeat apply Kd.R_alloc); exact Kd.R_mono HO175.out (fun _ hk => hk.1))); (case aS => exact (keep_size (w := w) (g := g) (row := none) (by repeat (first | (with_reducible first | exact HK.out | apply KeepBut.set_ | apply keep_drewN | apply keep_drew | apply keep_alloc) | exact HK.out)))); (case aL => have := LMc60.out; omega); intro v177 w78 ho hb hg hat; rw [← Ny176.out] at ho; have n0_ := Aside0.mk (Kd.R_after (ok := (fun k_ => some k_ ≠ (.slice Ao79 y163.length co79 : Value).ownBlock)) (by (with_reducible repeat apply Kd.R_alloc); exact HO_7.out) hg hat); have n1_ := Aside0.mk (IsS68.grown (by repeat (first | (with_reducible first | exact HI0.out | apply IsS68.alloc | apply IsS68.drewN | apply IsS68.drew | apply IsS68.set_1) | exact HI0.out)) hg (IsS68.own_ne HI0.out HO175.out (by decide))); have n2_ := Aside0.mk (below_weaken (by repeat (first | (with_reducible first | exact HB.out | apply below_alloc | apply pw_below_drewN | apply below_drew1 | refine below_set ?_ (IsS68.ge HI0.out)) | exact HB.out)) HL.out hb); have n3_ := Aside0.mk (KeepBut.trans (by repeat (first | (with_reducible first | exact HK.out | apply KeepBut.set_ | apply keep_drewN | apply keep_drew | apply keep_alloc) | exact HK.out)) (KeepBut.of_grown hg g) (Kd.R_base2 HO175.out)); have n4_ := Aside0.mk ((show Kd.C (Kd.slice 41 k41) w78 (some ad153) y169.length y169 from by rw [Ny169.out]; exact Kd.C_take (m := (t135 : Int).toNat) ((Kd.R_reads' (Kd.R_after (ok := (fun k_ => some k_ ≠ (.slice Ao79 y163.length co79 : Value).ownBlock)) (by (with_reducible repeat apply Kd.R_alloc); exact HO_7.out) hg hat)).2.2) KL76.out)); have n5_ := Aside0.mk (ho); clear HO_7; clear HI0; clear HB; clear HK; clear HR172; clear HO175; clear HO165; have HO_7 := n0_; have HI0 := n1_; have HB := n2_; have HK := n3_; have HR172 := n4_; have HO178 := n5_; clear n0_ n1_ n2_ n3_ n4_ n5_; clear ho hb hg hat; have q80 : ((wrap64 (t135 + 2)) : Int) ≤ ((x7_2.length : Int) : Int) := of_decide_eq_true (by first | (with_reducible assumption) | assumption); obtain ⟨i080, hi080, _, hsz80, _⟩ := info_parts info23; have hroom80 : x7_2.length ≤ co64 := (Kd.R_reads' HO_7.out).2.1; have hC80 : Kd.C (Kd.slice 41 k41) _ (some ad153) x7_2.length x7_2 := (Kd.R_reads' HO_7.out).2.2; have q080 : (0 : Int) ≤ ((wrap64 (t135 + 2)) : Int) := of_decide_eq_true (by first | (with_reducible assumption) | assumption); have hcut80 := cut_from (P := Try.prog) 72 23 .i64 Try.underlying72 hi080 1 hsz80 (some ad153) x7_2.length co64 (wrap64 (t135 + 2)) q080 q80; have hr80 := Kd.C_drop (m := ((wrap64 (t135 + 2)) : Int).toNat) (c := co64) hC80 (by omega) hroom80; obtain ⟨A80, hA80⟩ : ∃ A1, A1 = (if co64 = ((wrap64 (t135 + 2)) : Int).toNat then (some ad153) else ((some ad153) : Option Addr).map (·.add (((wrap64 (t135 + 2)) : Int).toNat * 1))) := ⟨_, rfl⟩; obtain ⟨c80, hc80⟩ : ∃ c1, c1 = co64 - ((wrap64 (t135 + 2)) : Int).toNat := ⟨_, rfl⟩; have hy80 : y179.length = x7_2.length - ((wrap64 (t135 + 2)) : Int).toNat := (by rw [Ny179.out, List.length_drop] <;> omega); rw [show (x7_2).drop ((wrap64 (t135 + 2)) : Int).toNat = y179 from Ny179.out.symm] at hr80; replace hr80 : Kd.C (Kd.slice 41 k41) _ A80 y179.length y179 := (by rw [hA80]; exact hr80); rw [← hy80, ← hA80, ← hc80] at hcut80; have HR182 := Aside0.mk hr80; have HC182 := Aside0.mk (show y179.length ≤ c80 from by rw [hy80, hc80]; exact Nat.sub_le_sub_right hroom80 _); clear hr80 hC80 hroom80 hi080 hsz80 hc80; have KY80 := Aside0.mk hy80; have KA80 := Aside0.mk hA80; clear hy80 hA80; have KL80 := Aside0.mk (show ((wrap64 (t135 + 2)) : Int).toNat ≤ x7_2.length from by omega); replace q80 := eq_true q80) | ((with_reducible refine gate_builtin (b := .append) (xs := #[.tmp 101, .tmp 105]) rfl ?_); at_builtin; refine Kd.R_append_rows (Kd.slice 41 k41) w.heap.size rfl (.tmp 101) (.tmp 105) 72 23 (.slice none 0 0) 24 rfl Try.underlying72 info23 rfl (by decide) (by omega) v177 y176 y179 _ _ _ (fun k_ => some k_ ≠ (.slice (some ad153) x7_2.length co64 : Value).ownBlock) (fun k_ => ((fun k_ => some k_ ≠ (.slice (some ad153) x7_2.length co64 : Value).ownBlock)) k_ ∧ some k_ ≠ (v177 : Value).ownBlock) rfl rfl ?aO ?aR (fun _ _ h => h) (fun _ hk => hk) ?aF (Below.refl _ _) ?aS ?aL ?_; (case aR => rw [Ny179.out, KA80.out]; exact Kd.C_drop (m := ((wrap64 (t135 + 2)) : Int).toNat) (c := co64) (Kd.R_frozen (okp := (fun k_ => ((fun k_ => some k_ ≠ (.slice (some ad153) x7_2.length co64 : Value).ownBlock)) k_ ∧ some k_ ≠ (v177 : Value).ownBlock)) (HO_7.out) (fun k_ hk => ⟨hk.2, hk.1.2⟩)).2.2 KL80.out (Kd.R_frozen (okp := (fun k_ => ((fun k_ => some k_ ≠ (.slice (some ad153) x7_2.length co64 : Value).ownBlock)) k_ ∧ some k_ ≠ (v177 : Value).ownBlock)) (HO_7.out) (fun k_ hk => ⟨hk.2, hk.1.2⟩)).2.1); (case aF => exact (fun k_ hk => Kd.fresh' (Kd.R_lt (by (with_reducible repeat apply Kd.R_alloc); exact HO_7.out)) k_ hk)); (case aO => exact (by (with_reducible repeat apply Kd.R_alloc); exact HO178.out)); (case aS => exact (keep_size (w := w) (g := g) (row := none) (by repeat (first | (with_reducible first | exact HK.out | apply KeepBut.set_ | apply keep_drewN | apply keep_drew | apply keep_alloc) | exact HK.out)))); (case aL => have := LMc63.out; omega); intro v184 w81 ho hb hg hat; rw [← Ny183.out] at ho; have n0_ := Aside0.mk (Kd.R_after (ok := (fun _ => True)) (by (with_reducible repeat apply Kd.R_alloc); exact Kd.R_mono HO_7.out (fun _ hk => ⟨trivial, hk.2⟩)) hg hat); have n1_ := Aside0.mk (IsS68.grown (by repeat (first | (with_reducible first | exact HI0.out | apply IsS68.alloc | apply IsS68.drewN | apply IsS68.drew | apply IsS68.set_1) | exact HI0.out)) hg (IsS68.own_ne HI0.out HO178.out (by decide))); have n2_ := Aside0.mk (below_weaken (by repeat (first | (with_reducible first | exact HB.out | apply below_alloc | apply pw_below_drewN | apply below_drew1 | refine below_set ?_ (IsS68.ge HI0.out)) | exact HB.out)) HL.out hb); have n3_ := Aside0.mk (KeepBut.trans (by repeat (first | (with_reducible first | exact HK.out | apply KeepBut.set_ | apply keep_drewN | apply keep_drew | apply keep_alloc) | exact HK.out)) (KeepBut.of_grown hg g) (Kd.R_base2 HO178.out)); have n4_ := Aside0.mk ((show Kd.C (Kd.slice 41 k41) w81 (some ad153) y169.length y169 from by rw [Ny169.out]; exact Kd.C_take (m := (t135 : Int).toNat) ((Kd.R_reads' (Kd.R_after (ok := (fun _ => True)) (by (with_reducible repeat apply Kd.R_alloc); exact Kd.R_mono HO_7.out (fun _ hk => ⟨trivial, hk.2⟩)) hg hat)).2.2) KL76.out)); have n5_ := Aside0.mk ((show Kd.C (Kd.slice 41 k41) w81 A80 y179.length y179 from by rw [Ny179.out, KA80.out]; exact Kd.C_drop (m := ((wrap64 (t135 + 2)) : Int).toNat) (c := co64) ((Kd.R_reads' (Kd.R_after (ok := (fun _ => True)) (by (with_reducible repeat apply Kd.R_alloc); exact Kd.R_mono HO_7.out (fun _ hk => ⟨trivial, hk.2⟩)) hg hat)).2.2) KL80.out ((Kd.R_reads' (Kd.R_after (ok := (fun _ => True)) (by (with_reducible repeat apply Kd.R_alloc); exact Kd.R_mono HO_7.out (fun _ hk => ⟨trivial, hk.2⟩)) hg hat)).2.1))); have n6_ := Aside0.mk (ho); clear HO_7; clear HI0; clear HB; clear HK; clear HR172; clear HR182; clear HO178; have HO_7 := n0_; have HI0 := n1_; have HB := n2_; have HK := n3_; have HR172 := n4_; have HR182 := n5_; have HO185 := n6_; clear n0_ n1_ n2_ n3_ n4_ n5_ n6_; clear ho hb hg hat))
                      go_roundg k2
                      case measure => have := HK1.out; have := HK2.out; omega
                      case rel => exact ⟨(y183), (x9_2), (t162), (by first | rfl | (simp; done) | (simp [*]; done)), H', ⟨by have := HK1.out; have := HK2.out; omega⟩, ⟨by (with_reducible repeat apply Kd.R_alloc); exact Kd.R_mono HO185.out (fun _ hk => trivial)⟩, ⟨by repeat (first | (with_reducible first | exact HI0.out | apply IsS68.alloc | apply IsS68.drewN | apply IsS68.drew | apply IsS68.set_1) | exact HI0.out)⟩, ⟨by repeat (first | (with_reducible first | exact HK.out | apply KeepBut.set_ | apply keep_drewN | apply keep_drew | apply keep_alloc) | exact HK.out)⟩, ⟨by repeat (first | (with_reducible first | exact HB.out | apply below_alloc | apply pw_below_drewN | apply below_drew1 | refine below_set ?_ (IsS68.ge HI0.out)) | exact HB.out)⟩⟩
                     ·rw [if_neg c63] at H
                      exact absurd H (by simp)
                    ·rw [if_neg c62] at H
                     exact absurd H (by simp)
                   ·rw [if_neg c61] at H
                    exact absurd H (by simp)
                  ·rw [if_neg c60] at H
                   exact absurd H (by simp)
                 ·rw [if_neg c59] at H
                  exact absurd H (by simp)
                ·rw [if_neg c58] at H
                 exact absurd H (by simp)
               ·rw [if_neg c56] at H
                exact absurd H (by simp)
              ·rw [if_neg c54] at H
               exact absurd H (by simp)
             ·rw [if_neg c53] at H
              exact absurd H (by simp)
            ·rw [if_neg c52] at H
             exact absurd H (by simp)
           ·rw [if_neg c50] at H
            exact absurd H (by simp)
          ·rw [if_neg c49] at H
           exact absurd H (by simp)
         ·rw [if_neg c48] at H
          exact absurd H (by simp)
       ·rw [if_neg c31] at H
        have c31b0 : decide (0 < x9_2) = false := decide_eq_false c31
        clear c31
        obtain ⟨y186, hy186⟩ : ∃ y_ : List (S41), y_ = (([] : List (S41))) := ⟨_, rfl⟩
        replace H : (if 0 ≤ t135 then (if t135 < (x7_2.length : Int) then (if y186.length + (rd_L3 x7_2 t135).length < 8796093022208 then ((some (y186 ++ (rd_L3 x7_2 t135) : List (S41))).bind fun y190 => (if 0 ≤ (wrap64 (t135 + 1)) then (if (wrap64 (t135 + 1)) < (x7_2.length : Int) then (if y190.length + (rd_L3 x7_2 (wrap64 (t135 + 1))).length < 8796093022208 then ((some (y190 ++ (rd_L3 x7_2 (wrap64 (t135 + 1))) : List (S41))).bind fun y194 => ((spec_l20Rd_pick.f k2 s0_0 t136 3).bind fun bt197 => (if y194.length < 8796093022208 then ((some (([] : List (List (S41))) : List (List (S41)))).bind fun y202 => (if t135 ≤ (x7_2.length : Int) then ((some (x7_2.take (t135 : Int).toNat : List (List (S41)))).bind fun y205 => (if y202.length + y205.length < 5864062014805 then ((some (y202 ++ y205 : List (List (S41)))).bind fun y209 => (if y209.length < 5864062014805 then ((some (y209 ++ [(y194 ++ [(⟨wrap64 (3 + bt197.1), 0⟩ : S41)])] : List (List (S41)))).bind fun y212 => (if 0 ≤ (wrap64 (t135 + 2)) then (if (wrap64 (t135 + 2)) ≤ (x7_2.length : Int) then ((some (x7_2.drop ((wrap64 (t135 + 2)) : Int).toNat : List (List (S41)))).bind fun y215 => (if y212.length + y215.length < 5864062014805 then (spec_l20Term.l1 k2 a2 (y212 ++ y215) x9_2 s0_0 bt197.2) else (none))) else (none)) else (none))) else (none))) else (none))) else (none))) else (none)))) else (none)) else (none)) else (none))) else (none)) else (none)) else (none)) = some (r1, r2) := by first | (rw [hy186]; with_reducible exact H) | (have H2_ := (Option.bind_some _ _).symm.trans H; rw [hy186]; with_reducible exact H2_) | (have H2_ := (Option.bind_some _ _).symm.trans H; with_reducible exact H2_) | with_reducible exact H | (rw [hy186]; exact H) | exact H
        have Ny186 := Aside0.mk hy186
        clear hy186
        by_cases c82 : 0 ≤ t135
        ·rw [if_pos c82] at H
         have c82b0 : decide (0 ≤ t135) = true := decide_eq_true c82
         clear c82
         by_cases c83 : t135 < (x7_2.length : Int)
         ·rw [if_pos c83] at H
          have c83b0 : decide (t135 < (x7_2.length : Int)) = true := decide_eq_true c83
          clear c83
          by_cases c84 : y186.length + (rd_L3 x7_2 t135).length < 8796093022208
          ·rw [if_pos c84] at H
           have LMc84 := Aside0.mk c84
           clear c84
           obtain ⟨y190, hy190⟩ : ∃ y_ : List (S41), y_ = (y186 ++ (rd_L3 x7_2 t135)) := ⟨_, rfl⟩
           replace H : (if 0 ≤ (wrap64 (t135 + 1)) then (if (wrap64 (t135 + 1)) < (x7_2.length : Int) then (if y190.length + (rd_L3 x7_2 (wrap64 (t135 + 1))).length < 8796093022208 then ((some (y190 ++ (rd_L3 x7_2 (wrap64 (t135 + 1))) : List (S41))).bind fun y194 => ((spec_l20Rd_pick.f k2 s0_0 t136 3).bind fun bt197 => (if y194.length < 8796093022208 then ((some (([] : List (List (S41))) : List (List (S41)))).bind fun y202 => (if t135 ≤ (x7_2.length : Int) then ((some (x7_2.take (t135 : Int).toNat : List (List (S41)))).bind fun y205 => (if y202.length + y205.length < 5864062014805 then ((some (y202 ++ y205 : List (List (S41)))).bind fun y209 => (if y209.length < 5864062014805 then ((some (y209 ++ [(y194 ++ [(⟨wrap64 (3 + bt197.1), 0⟩ : S41)])] : List (List (S41)))).bind fun y212 => (if 0 ≤ (wrap64 (t135 + 2)) then (if (wrap64 (t135 + 2)) ≤ (x7_2.length : Int) then ((some (x7_2.drop ((wrap64 (t135 + 2)) : Int).toNat : List (List (S41)))).bind fun y215 => (if y212.length + y215.length < 5864062014805 then (spec_l20Term.l1 k2 a2 (y212 ++ y215) x9_2 s0_0 bt197.2) else (none))) else (none)) else (none))) else (none))) else (none))) else (none))) else (none)))) else (none)) else (none)) else (none)) = some (r1, r2) := by first | (rw [hy190]; with_reducible exact H) | (have H2_ := (Option.bind_some _ _).symm.trans H; rw [hy190]; with_reducible exact H2_) | (have H2_ := (Option.bind_some _ _).symm.trans H; with_reducible exact H2_) | with_reducible exact H | (rw [hy190]; exact H) | exact H
           have Ny190 := Aside0.mk hy190
           clear hy190
           obtain ⟨ji85, hji85⟩ : ∃ j_ : Int, (wrap64 (t135 + 1)) = j_ := ⟨_, rfl⟩
           replace H : (if 0 ≤ (ji85) then (if (ji85) < (x7_2.length : Int) then (if y190.length + (rd_L3 x7_2 (ji85)).length < 8796093022208 then ((some (y190 ++ (rd_L3 x7_2 (ji85)) : List (S41))).bind fun y194 => ((spec_l20Rd_pick.f k2 s0_0 t136 3).bind fun bt197 => (if y194.length < 8796093022208 then ((some (([] : List (List (S41))) : List (List (S41)))).bind fun y202 => (if t135 ≤ (x7_2.length : Int) then ((some (x7_2.take (t135 : Int).toNat : List (List (S41)))).bind fun y205 => (if y202.length + y205.length < 5864062014805 then ((some (y202 ++ y205 : List (List (S41)))).bind fun y209 => (if y209.length < 5864062014805 then ((some (y209 ++ [(y194 ++ [(⟨wrap64 (3 + bt197.1), 0⟩ : S41)])] : List (List (S41)))).bind fun y212 => (if 0 ≤ (wrap64 (t135 + 2)) then (if (wrap64 (t135 + 2)) ≤ (x7_2.length : Int) then ((some (x7_2.drop ((wrap64 (t135 + 2)) : Int).toNat : List (List (S41)))).bind fun y215 => (if y212.length + y215.length < 5864062014805 then (spec_l20Term.l1 k2 a2 (y212 ++ y215) x9_2 s0_0 bt197.2) else (none))) else (none)) else (none))) else (none))) else (none))) else (none))) else (none)))) else (none)) else (none)) else (none)) = some (r1, r2) := by first | (rw [hji85] at H; exact H) | (simp only [hji85] at H ⊢; exact H)
           (try rw [hji85] at A30)
           have hji85w : (IntKind.i64.wrap (t135 + 1)) = ji85 := (i64_w _).trans hji85
           by_cases c86 : 0 ≤ (ji85)
           ·rw [if_pos c86] at H
            have c86b0 : decide (0 ≤ (ji85)) = true := decide_eq_true c86
            clear c86
            by_cases c87 : (ji85) < (x7_2.length : Int)
            ·rw [if_pos c87] at H
             have c87b0 : decide ((ji85) < (x7_2.length : Int)) = true := decide_eq_true c87
             clear c87
             by_cases c88 : y190.length + (rd_L3 x7_2 (ji85)).length < 8796093022208
             ·rw [if_pos c88] at H
              have LMc88 := Aside0.mk c88
              clear c88
              obtain ⟨y194, hy194⟩ : ∃ y_ : List (S41), y_ = (y190 ++ (rd_L3 x7_2 (ji85))) := ⟨_, rfl⟩
              replace H : ((spec_l20Rd_pick.f k2 s0_0 t136 3).bind fun bt197 => (if y194.length < 8796093022208 then ((some (([] : List (List (S41))) : List (List (S41)))).bind fun y202 => (if t135 ≤ (x7_2.length : Int) then ((some (x7_2.take (t135 : Int).toNat : List (List (S41)))).bind fun y205 => (if y202.length + y205.length < 5864062014805 then ((some (y202 ++ y205 : List (List (S41)))).bind fun y209 => (if y209.length < 5864062014805 then ((some (y209 ++ [(y194 ++ [(⟨wrap64 (3 + bt197.1), 0⟩ : S41)])] : List (List (S41)))).bind fun y212 => (if 0 ≤ (wrap64 (t135 + 2)) then (if (wrap64 (t135 + 2)) ≤ (x7_2.length : Int) then ((some (x7_2.drop ((wrap64 (t135 + 2)) : Int).toNat : List (List (S41)))).bind fun y215 => (if y212.length + y215.length < 5864062014805 then (spec_l20Term.l1 k2 a2 (y212 ++ y215) x9_2 s0_0 bt197.2) else (none))) else (none)) else (none))) else (none))) else (none))) else (none))) else (none))) = some (r1, r2) := by first | (rw [hy194]; with_reducible exact H) | (have H2_ := (Option.bind_some _ _).symm.trans H; rw [hy194]; with_reducible exact H2_) | (have H2_ := (Option.bind_some _ _).symm.trans H; with_reducible exact H2_) | with_reducible exact H | (rw [hy194]; exact H) | exact H
              have Ny194 := Aside0.mk hy194
              clear hy194
              replace H := Option.bind_eq_some_iff.mp H
              obtain ⟨⟨t197, t198⟩, A890, H⟩ := H
              replace H : (if y194.length < 8796093022208 then ((some (([] : List (List (S41))) : List (List (S41)))).bind fun y202 => (if t135 ≤ (x7_2.length : Int) then ((some (x7_2.take (t135 : Int).toNat : List (List (S41)))).bind fun y205 => (if y202.length + y205.length < 5864062014805 then ((some (y202 ++ y205 : List (List (S41)))).bind fun y209 => (if y209.length < 5864062014805 then ((some (y209 ++ [(y194 ++ [(⟨wrap64 (3 + t197), 0⟩ : S41)])] : List (List (S41)))).bind fun y212 => (if 0 ≤ (wrap64 (t135 + 2)) then (if (wrap64 (t135 + 2)) ≤ (x7_2.length : Int) then ((some (x7_2.drop ((wrap64 (t135 + 2)) : Int).toNat : List (List (S41)))).bind fun y215 => (if y212.length + y215.length < 5864062014805 then (spec_l20Term.l1 k2 a2 (y212 ++ y215) x9_2 s0_0 t198) else (none))) else (none)) else (none))) else (none))) else (none))) else (none))) else (none)) = some (r1, r2) := H
              have A89 := Aside0.mk A890
              clear A890
              by_cases c90 : y194.length < 8796093022208
              ·rw [if_pos c90] at H
               have LMc90 := Aside0.mk c90
               clear c90
               obtain ⟨y199, hy199⟩ : ∃ y_ : List (S41), y_ = (y194 ++ [(⟨wrap64 (3 + t197), 0⟩ : S41)]) := ⟨_, rfl⟩
               replace H : ((some (([] : List (List (S41))) : List (List (S41)))).bind fun y202 => (if t135 ≤ (x7_2.length : Int) then ((some (x7_2.take (t135 : Int).toNat : List (List (S41)))).bind fun y205 => (if y202.length + y205.length < 5864062014805 then ((some (y202 ++ y205 : List (List (S41)))).bind fun y209 => (if y209.length < 5864062014805 then ((some (y209 ++ [y199] : List (List (S41)))).bind fun y212 => (if 0 ≤ (wrap64 (t135 + 2)) then (if (wrap64 (t135 + 2)) ≤ (x7_2.length : Int) then ((some (x7_2.drop ((wrap64 (t135 + 2)) : Int).toNat : List (List (S41)))).bind fun y215 => (if y212.length + y215.length < 5864062014805 then (spec_l20Term.l1 k2 a2 (y212 ++ y215) x9_2 s0_0 t198) else (none))) else (none)) else (none))) else (none))) else (none))) else (none))) = some (r1, r2) := by first | (rw [hy199]; with_reducible exact H) | (have H2_ := (Option.bind_some _ _).symm.trans H; rw [hy199]; with_reducible exact H2_) | (have H2_ := (Option.bind_some _ _).symm.trans H; with_reducible exact H2_) | with_reducible exact H | (rw [hy199]; exact H) | exact H
               have Ny199 := Aside0.mk hy199
               clear hy199
               obtain ⟨y202, hy202⟩ : ∃ y_ : List (List (S41)), y_ = (([] : List (List (S41)))) := ⟨_, rfl⟩
               replace H : (if t135 ≤ (x7_2.length : Int) then ((some (x7_2.take (t135 : Int).toNat : List (List (S41)))).bind fun y205 => (if y202.length + y205.length < 5864062014805 then ((some (y202 ++ y205 : List (List (S41)))).bind fun y209 => (if y209.length < 5864062014805 then ((some (y209 ++ [y199] : List (List (S41)))).bind fun y212 => (if 0 ≤ (wrap64 (t135 + 2)) then (if (wrap64 (t135 + 2)) ≤ (x7_2.length : Int) then ((some (x7_2.drop ((wrap64 (t135 + 2)) : Int).toNat : List (List (S41)))).bind fun y215 => (if y212.length + y215.length < 5864062014805 then (spec_l20Term.l1 k2 a2 (y212 ++ y215) x9_2 s0_0 t198) else (none))) else (none)) else (none))) else (none))) else (none))) else (none)) = some (r1, r2) := by first | (rw [hy202]; with_reducible exact H) | (have H2_ := (Option.bind_some _ _).symm.trans H; rw [hy202]; with_reducible exact H2_) | (have H2_ := (Option.bind_some _ _).symm.trans H; with_reducible exact H2_) | with_reducible exact H | (rw [hy202]; exact H) | exact H
               have Ny202 := Aside0.mk hy202
               clear hy202
               have c91b0 := eq_true (of_decide_eq_true (by first | (with_reducible assumption) | assumption) : 0 ≤ t135)
               by_cases c92 : t135 ≤ (x7_2.length : Int)
               ·rw [if_pos c92] at H
                have c92b0 := eq_true c92
                have c92b1 : decide (t135 ≤ (x7_2.length : Int)) = true := decide_eq_true c92
                clear c92
                obtain ⟨y205, hy205⟩ : ∃ y_ : List (List (S41)), y_ = (x7_2.take (t135 : Int).toNat) := ⟨_, rfl⟩
                replace H : (if y202.length + y205.length < 5864062014805 then ((some (y202 ++ y205 : List (List (S41)))).bind fun y209 => (if y209.length < 5864062014805 then ((some (y209 ++ [y199] : List (List (S41)))).bind fun y212 => (if 0 ≤ (wrap64 (t135 + 2)) then (if (wrap64 (t135 + 2)) ≤ (x7_2.length : Int) then ((some (x7_2.drop ((wrap64 (t135 + 2)) : Int).toNat : List (List (S41)))).bind fun y215 => (if y212.length + y215.length < 5864062014805 then (spec_l20Term.l1 k2 a2 (y212 ++ y215) x9_2 s0_0 t198) else (none))) else (none)) else (none))) else (none))) else (none)) = some (r1, r2) := by first | (rw [hy205]; with_reducible exact H) | (have H2_ := (Option.bind_some _ _).symm.trans H; rw [hy205]; with_reducible exact H2_) | (have H2_ := (Option.bind_some _ _).symm.trans H; with_reducible exact H2_) | with_reducible exact H | (rw [hy205]; exact H) | exact H
                have Ny205 := Aside0.mk hy205
                clear hy205
                by_cases c93 : y202.length + y205.length < 5864062014805
                ·rw [if_pos c93] at H
                 have LMc93 := Aside0.mk c93
                 clear c93
                 obtain ⟨y209, hy209⟩ : ∃ y_ : List (List (S41)), y_ = (y202 ++ y205) := ⟨_, rfl⟩
                 replace H : (if y209.length < 5864062014805 then ((some (y209 ++ [y199] : List (List (S41)))).bind fun y212 => (if 0 ≤ (wrap64 (t135 + 2)) then (if (wrap64 (t135 + 2)) ≤ (x7_2.length : Int) then ((some (x7_2.drop ((wrap64 (t135 + 2)) : Int).toNat : List (List (S41)))).bind fun y215 => (if y212.length + y215.length < 5864062014805 then (spec_l20Term.l1 k2 a2 (y212 ++ y215) x9_2 s0_0 t198) else (none))) else (none)) else (none))) else (none)) = some (r1, r2) := by first | (rw [hy209]; with_reducible exact H) | (have H2_ := (Option.bind_some _ _).symm.trans H; rw [hy209]; with_reducible exact H2_) | (have H2_ := (Option.bind_some _ _).symm.trans H; with_reducible exact H2_) | with_reducible exact H | (rw [hy209]; exact H) | exact H
                 have Ny209 := Aside0.mk hy209
                 clear hy209
                 by_cases c94 : y209.length < 5864062014805
                 ·rw [if_pos c94] at H
                  have LMc94 := Aside0.mk c94
                  clear c94
                  obtain ⟨y212, hy212⟩ : ∃ y_ : List (List (S41)), y_ = (y209 ++ [y199]) := ⟨_, rfl⟩
                  replace H : (if 0 ≤ (wrap64 (t135 + 2)) then (if (wrap64 (t135 + 2)) ≤ (x7_2.length : Int) then ((some (x7_2.drop ((wrap64 (t135 + 2)) : Int).toNat : List (List (S41)))).bind fun y215 => (if y212.length + y215.length < 5864062014805 then (spec_l20Term.l1 k2 a2 (y212 ++ y215) x9_2 s0_0 t198) else (none))) else (none)) else (none)) = some (r1, r2) := by first | (rw [hy212]; with_reducible exact H) | (have H2_ := (Option.bind_some _ _).symm.trans H; rw [hy212]; with_reducible exact H2_) | (have H2_ := (Option.bind_some _ _).symm.trans H; with_reducible exact H2_) | with_reducible exact H | (rw [hy212]; exact H) | exact H
                  have Ny212 := Aside0.mk hy212
                  clear hy212
                  by_cases c95 : 0 ≤ (wrap64 (t135 + 2))
                  ·rw [if_pos c95] at H
                   have c95b0 := eq_true c95
                   have c95b1 : decide (0 ≤ (wrap64 (t135 + 2))) = true := decide_eq_true c95
                   by_cases c96 : (wrap64 (t135 + 2)) ≤ (x7_2.length : Int)
                   ·rw [if_pos c96] at H
                    have c96b0 := eq_true c96
                    have c96b1 : decide ((wrap64 (t135 + 2)) ≤ (x7_2.length : Int)) = true := decide_eq_true c96
                    obtain ⟨y215, hy215⟩ : ∃ y_ : List (List (S41)), y_ = (x7_2.drop ((wrap64 (t135 + 2)) : Int).toNat) := ⟨_, rfl⟩
                    replace H : (if y212.length + y215.length < 5864062014805 then (spec_l20Term.l1 k2 a2 (y212 ++ y215) x9_2 s0_0 t198) else (none)) = some (r1, r2) := by first | (rw [hy215]; with_reducible exact H) | (have H2_ := (Option.bind_some _ _).symm.trans H; rw [hy215]; with_reducible exact H2_) | (have H2_ := (Option.bind_some _ _).symm.trans H; with_reducible exact H2_) | with_reducible exact H | (rw [hy215]; exact H) | exact H
                    have Ny215 := Aside0.mk hy215
                    clear hy215
                    by_cases c97 : y212.length + y215.length < 5864062014805
                    ·rw [if_pos c97] at H
                     have LMc97 := Aside0.mk c97
                     clear c97
                     obtain ⟨y219, hy219⟩ : ∃ y_ : List (List (S41)), y_ = (y212 ++ y215) := ⟨_, rfl⟩
                     replace H : (spec_l20Term.l1 k2 a2 y219 x9_2 s0_0 t198) = some (r1, r2) := by first | (rw [hy219]; with_reducible exact H) | (have H2_ := (Option.bind_some _ _).symm.trans H; rw [hy219]; with_reducible exact H2_) | (have H2_ := (Option.bind_some _ _).symm.trans H; with_reducible exact H2_) | with_reducible exact H | (rw [hy219]; exact H) | exact H
                     have Ny219 := Aside0.mk hy219
                     clear hy219
                     have H' := Aside0.mk H
                     clear H
                     obtain ⟨Ao98, co98, eo98⟩ := Kd.R_slice HO_7.out
                     subst eo98
                     try go_wp2_with (first | ((with_reducible refine gate_callee (f := 64) rfl ?_); refine goesL_ (some 52) rfl rfl Try.func64 (by kernel_rfl) rfl #[.pointer (some ⟨g, 0, none⟩), .int .i64 (wrap64 ((x7_2.length : Int) - 1))] rfl (by (try simp only [List.map_toArray, List.map_cons, List.map_nil]); first | done | rfl | (simp only [List.length_drop, List.length_take]; rfl)) ?_; (with_reducible refine (spec_l20Rd_pick.calls k2 g s0_0 x1001_2 (wrap64 ((x7_2.length : Int) - 1)) t135 t136 w0 _ ?side1 ?side2 A30.out).mono ?_); (case side1 => repeat (first | (with_reducible first | exact HI0.out | apply IsS68.alloc | apply IsS68.drewN | apply IsS68.drew | apply IsS68.set_1) | exact HI0.out)); (case side2 => repeat (first | (with_reducible first | exact HB.out | apply below_alloc | apply pw_below_drewN | apply below_drew1 | refine below_set ?_ (IsS68.ge HI0.out)) | exact HB.out)); rintro e w99 ⟨rfl, hi, hb, hk⟩; refine ⟨_, rfl, ?_⟩; have n0_ := Aside0.mk (Kd.R_mono (Kd.R_keep (IsS68.apart (show IsS68 w0 _ g s0_0 x1001_2 from by repeat (first | (with_reducible first | exact HI0.out | apply IsS68.alloc | apply IsS68.drewN | apply IsS68.drew | apply IsS68.set_1) | exact HI0.out)) (by (with_reducible repeat apply Kd.R_alloc); exact HO_7.out) (by decide)) hk (fun _ h => h.2)) (fun _ h => h.1)); have n1_ := Aside0.mk (KeepBut.trans (by repeat (first | (with_reducible first | exact HK.out | apply KeepBut.set_ | apply keep_drewN | apply keep_drew | apply keep_alloc) | exact HK.out)) hk (.inl rfl)); have n2_ := Aside0.mk (hb); have n3_ := Aside0.mk (hi); clear HO_7; clear HK; clear HB; clear HI0; have HO_7 := n0_; have HK := n1_; have HB := n2_; have HI0 := n3_; clear n0_ n1_ n2_ n3_; (try clear hb); (try clear hb2); (try clear hk); (try clear hi)))
                     have n0_ := Aside0.mk (Kd.R_drew HO_7.out)
                     have n1_ := Aside0.mk (IsS68.drew HI0.out)
                     have n2_ := Aside0.mk (keep_drew HK.out)
                     have n3_ := Aside0.mk (below_drew1 HB.out)
                     clear HO_7
                     clear HI0
                     clear HK
                     clear HB
                     have HO_7 := n0_
                     have HI0 := n1_
                     have HK := n2_
                     have HB := n3_
                     clear n0_ n1_ n2_ n3_
                     have p189 : 0 ≤ (t135 : Int) := of_decide_eq_true (by first | (with_reducible assumption) | assumption)
                     have q189 : t135 < (x7_2.length : Int) := of_decide_eq_true (by first | (with_reducible assumption) | assumption)
                     obtain ⟨ad189, A189_0, c189_0, e189, hx189_0, hl189_0, hi189_0⟩ := at_L3 (Kd.R_reads' HO_7.out).2.2 t135 p189 q189
                     cases e189
                     obtain ⟨ce189, hce189, hMe189, hcc189⟩ := Kd.R_get HO_7.out [] t135 p189 (by first | exact q189 | exact of_decide_eq_true (by first | (with_reducible assumption) | assumption) | (have e_ := (Kd.R_reads' HO_7.out).1; omega))
                     obtain ⟨ve189_0, rfl, ge189_0⟩ := hMe189
                     have hv189_0 := hcc189 0 _ rfl
                     rw [Nat.add_zero, show ((Kd.slice 41 k41)).sz = 1 from rfl, Nat.mul_one] at hv189_0
                     replace hv189_0 := Option.some.inj (hv189_0.symm.trans hx189_0)
                     rw [hv189_0] at ge189_0
                     have HL189_0 := Aside0.mk (show Kd.R k41 41 _ _ _ _ (rd_L3 x7_2 t135) from ge189_0)
                     clear hv189_0 ge189_0
                     clear hcc189 hce189
                     have HR189_0 := Aside0.mk hi189_0
                     have HC189_0 := Aside0.mk hl189_0
                     clear hi189_0 hl189_0
                     replace p189 := eq_true p189
                     replace q189 := eq_true q189
                     have p193 : 0 ≤ ((ji85) : Int) := of_decide_eq_true (by first | (with_reducible assumption) | assumption)
                     have q193 : (ji85) < (x7_2.length : Int) := of_decide_eq_true (by first | (with_reducible assumption) | assumption)
                     obtain ⟨ad193, A193_0, c193_0, e193, hx193_0, hl193_0, hi193_0⟩ := at_L3 (Kd.R_reads' HO_7.out).2.2 (ji85) p193 q193
                     obtain rfl : ad189 = ad193 := (by injection e193)
                     obtain ⟨ce193, hce193, hMe193, hcc193⟩ := Kd.R_get HO_7.out [] (ji85) p193 (by first | exact q193 | exact of_decide_eq_true (by first | (with_reducible assumption) | assumption) | (have e_ := (Kd.R_reads' HO_7.out).1; omega))
                     obtain ⟨ve193_0, rfl, ge193_0⟩ := hMe193
                     have hv193_0 := hcc193 0 _ rfl
                     rw [Nat.add_zero, show ((Kd.slice 41 k41)).sz = 1 from rfl, Nat.mul_one] at hv193_0
                     replace hv193_0 := Option.some.inj (hv193_0.symm.trans hx193_0)
                     rw [hv193_0] at ge193_0
                     have HL193_0 := Aside0.mk (show Kd.R k41 41 _ _ _ _ (rd_L3 x7_2 (ji85)) from ge193_0)
                     clear hv193_0 ge193_0
                     clear hcc193 hce193
                     have HR193_0 := Aside0.mk hi193_0
                     have HC193_0 := Aside0.mk hl193_0
                     clear hi193_0 hl193_0
                     replace p193 := eq_true p193
                     replace q193 := eq_true q193
                     refine start_ (n := 19) (S := fun w' => w'.cell? (ad189.add (t135).toNat) = some (.slice A189_0 (rd_L3 x7_2 t135).length c189_0) ∧ w'.cell? (ad189.add ((ji85)).toNat) = some (.slice A193_0 (rd_L3 x7_2 (ji85)).length c193_0)) (ds := [16]) #[false, false, false, false, false, false, false, false, false, false, false, false, false, false, false, false, false, false, false] (by kernel_rfl) rfl rfl ⟨hx189_0, hx193_0⟩ (fun hHeld => ?_); refine with_tabW spec_l20Term.tab15 spec_l20Term.bits15 (fun HT_ HW_ => ?_)
                     generalize w99.drew = w100 at HO_7 HI0 HK HB HL189_0 HL193_0 HR189_0 HR193_0 hx189_0 hx193_0 hHeld ⊢
                     refine pure_ (i := 1) (N := some 75) (v := ?_) (a' := ?_) #[false, true, false, false, false, false, false, false, false, false, false, false, false, false, false, false, false, false, false] rfl rfl (any_of HT_.out (by kernel_rfl)) (fun _ _ _ h => h) (Or.inl ⟨by rfl, ?_⟩) ?_ ?_
                     rotate_left
                     ·intro w'
                      go_simp
                      with_reducible rfl
                     rotate_left
                     ·simp only [Act.put, List.setIfInBounds_toArray, List.set_cons_zero, List.set_cons_succ, i64_w, i32_w]
                      rfl
                     refine pure_ (i := 2) (N := some 76) (v := ?_) (a' := ?_) #[false, true, true, false, false, false, false, false, false, false, false, false, false, false, false, false, false, false, false] rfl rfl (any_of HT_.out (by kernel_rfl)) (fun _ _ _ h => h) (Or.inl ⟨by rfl, ?_⟩) ?_ ?_
                     rotate_left
                     ·intro w'
                      go_simp
                      with_reducible rfl
                     rotate_left
                     ·simp only [Act.put, List.setIfInBounds_toArray, List.set_cons_zero, List.set_cons_succ, i64_w, i32_w]
                      rfl
                     refine pure_ (i := 3) (N := some 77) (v := ?_) (a' := ?_) #[false, true, true, true, false, false, false, false, false, false, false, false, false, false, false, false, false, false, false] rfl rfl (any_of HT_.out (by kernel_rfl)) (fun _ _ _ h => h) (Or.inl ⟨by rfl, ?_⟩) ?_ ?_
                     rotate_left
                     ·intro w'
                      go_simp
                      with_reducible rfl
                     rotate_left
                     ·simp only [Act.put, List.setIfInBounds_toArray, List.set_cons_zero, List.set_cons_succ, i64_w, i32_w]
                      rfl
                     refine pure_ (i := 6) (N := some 80) (v := ?_) (a' := ?_) #[false, true, true, true, false, false, true, false, false, false, false, false, false, false, false, false, false, false, false] rfl rfl (any_of HT_.out (by kernel_rfl)) (fun _ _ _ h => h) (Or.inl ⟨by rfl, ?_⟩) ?_ ?_
                     rotate_left
                     ·intro w'
                      go_simp
                      with_reducible rfl
                     rotate_left
                     ·simp only [Act.put, List.setIfInBounds_toArray, List.set_cons_zero, List.set_cons_succ, i64_w, i32_w]
                      rfl
                     refine pure_ (i := 7) (N := some 81) (v := ?_) (a' := ?_) #[false, true, true, true, false, false, true, true, false, false, false, false, false, false, false, false, false, false, false] rfl rfl (any_of HT_.out (by kernel_rfl)) (fun _ _ _ h => h) (Or.inl ⟨by rfl, ?_⟩) ?_ ?_
                     rotate_left
                     ·intro w'
                      go_simp
                      with_reducible rfl
                     rotate_left
                     ·simp only [Act.put, List.setIfInBounds_toArray, List.set_cons_zero, List.set_cons_succ, i64_w, i32_w]
                      rfl
                     refine pure_ (i := 8) (N := some 82) (v := ?_) (a' := ?_) #[false, true, true, true, false, false, true, true, true, false, false, false, false, false, false, false, false, false, false] rfl rfl (any_of HT_.out (by kernel_rfl)) (fun _ _ _ h => h) (Or.inl ⟨by rfl, ?_⟩) ?_ ?_
                     rotate_left
                     ·intro w'
                      go_simp
                      with_reducible rfl
                     rotate_left
                     ·simp only [Act.put, List.setIfInBounds_toArray, List.set_cons_zero, List.set_cons_succ, i64_w, i32_w]
                      rfl
                     refine pure_ (i := 9) (N := some 83) (v := ?_) (a' := ?_) #[false, true, true, true, false, false, true, true, true, true, false, false, false, false, false, false, false, false, false] rfl rfl (any_of HT_.out (by kernel_rfl)) (fun _ _ _ h => h) (Or.inl ⟨by rfl, ?_⟩) ?_ ?_
                     rotate_left
                     ·intro w'
                      go_simp
                      with_reducible rfl
                     rotate_left
                     ·simp only [Act.put, List.setIfInBounds_toArray, List.set_cons_zero, List.set_cons_succ, i64_w, i32_w]
                      rfl
                     refine pure_ (i := 12) (N := some 86) (v := ?_) (a' := ?_) #[false, true, true, true, false, false, true, true, true, true, false, false, true, false, false, false, false, false, false] rfl rfl (any_of HT_.out (by kernel_rfl)) (fun _ _ _ h => h) (Or.inl ⟨by rfl, ?_⟩) ?_ ?_
                     rotate_left
                     ·intro w'
                      go_simp
                      with_reducible rfl
                     rotate_left
                     ·simp only [Act.put, List.setIfInBounds_toArray, List.set_cons_zero, List.set_cons_succ, i64_w, i32_w]
                      rfl
                     refine take_ (i := 4) (N := some 78) (v := ?_) (a' := ?_) #[false, true, true, true, true, false, true, true, true, true, false, false, true, false, false, false, false, false, false] rfl rfl (take_ofW HT_.out HW_.out (by kernel_rfl)) (fun _ _ _ h => h) (Or.inl ⟨by rfl, ?_⟩) hHeld ?_ ?_
                     rotate_left
                     ·rintro w' ⟨s0, s1⟩
                      go_simp
                      with_reducible rfl
                     rotate_left
                     ·simp only [Act.put, List.setIfInBounds_toArray, List.set_cons_zero, List.set_cons_succ, i64_w, i32_w]
                      rfl
                     refine take_ (i := 10) (N := some 84) (v := ?_) (a' := ?_) #[false, true, true, true, true, false, true, true, true, true, true, false, true, false, false, false, false, false, false] rfl rfl (take_ofW HT_.out HW_.out (by kernel_rfl)) (fun _ _ _ h => h) (Or.inl ⟨by rfl, ?_⟩) hHeld ?_ ?_
                     rotate_left
                     ·rintro w' ⟨s0, s1⟩
                      go_simp
                      with_reducible rfl
                     rotate_left
                     ·simp only [Act.put, List.setIfInBounds_toArray, List.set_cons_zero, List.set_cons_succ, i64_w, i32_w]
                      rfl
                     refine one_ (i := 0) (N := some 74) #[true, true, true, true, true, false, true, true, true, true, true, false, true, false, false, false, false, false, false] rfl rfl (one_of HT_.out (by kernel_rfl)) (by decide) (fun K hK => ?_)
                     refine Kd.R_lit_step k41 _ 41 ?hg (N := 74) ?hd (xs := ([] : List (S41))) (inner := []) (ok := fun _ => True) (okp := fun _ => True) ?hr ?hp (fun _ hk => hk) trivial (Below.refl _ _) (Nat.le_refl _) (by simp) ?_; (case hd => rfl); (case hg => rfl); (case hr => first | (go_simp; done) | (go_simp; rfl)); (case hp => exact (Reps.none _ _))
                     intro v187 w101 ho102 hb hg_ hnew_
                     have HS0_ := (hb.cell (World.block_lt_of_cell? _ _ (hHeld.1))).trans (hHeld.1)
                     have HS1_ := (hb.cell (World.block_lt_of_cell? _ _ (hHeld.2))).trans (hHeld.2)
                     clear hg_ hnew_
                     (first | rw [← Ny186.out] at ho102 | (simp only [Int.reduceToNat] at ho102; rw [← Ny186.out] at ho102))
                     have n0_ := Aside0.mk (Kd.R_elder' (by (with_reducible repeat apply Kd.R_alloc); exact HO_7.out) (Kd.R_base ho102) hb)
                     have n1_ := Aside0.mk (Kd.R_elder' (by (with_reducible repeat apply Kd.R_alloc); exact HL189_0.out) (Kd.R_base ho102) hb)
                     have n2_ := Aside0.mk (Kd.R_elder' (by (with_reducible repeat apply Kd.R_alloc); exact HL193_0.out) (Kd.R_base ho102) hb)
                     have n3_ := Aside0.mk (Kd.R_lower (Kd.R_new' (Kd.R_new' ho102 (Kd.R_lt (by (with_reducible repeat apply Kd.R_alloc); exact HL189_0.out))) (Kd.R_lt (by (with_reducible repeat apply Kd.R_alloc); exact HL193_0.out))) (keep_size (w := w) (g := g) (row := none) (by repeat (first | (with_reducible first | exact HK.out | apply KeepBut.set_ | apply keep_drewN | apply keep_drew | apply keep_alloc) | exact HK.out))))
                     have n4_ := Aside0.mk (IsS68.below (by repeat (first | (with_reducible first | exact HI0.out | apply IsS68.alloc | apply IsS68.drewN | apply IsS68.drew | apply IsS68.set_1) | exact HI0.out)) hb)
                     have n5_ := Aside0.mk (Kd.C_below (by repeat (first | (with_reducible exact HR189_0.out) | (with_reducible refine Kd.C_alloc ?_ _) | (with_reducible refine Kd.C_drewN ?_ _) | (with_reducible refine Kd.C_drew ?_) | exact HR189_0.out)) hb)
                     have n6_ := Aside0.mk (Kd.C_below (by repeat (first | (with_reducible exact HR193_0.out) | (with_reducible refine Kd.C_alloc ?_ _) | (with_reducible refine Kd.C_drewN ?_ _) | (with_reducible refine Kd.C_drew ?_) | exact HR193_0.out)) hb)
                     have n7_ := Aside0.mk (KeepBut.trans (by repeat (first | (with_reducible first | exact HK.out | apply KeepBut.set_ | apply keep_drewN | apply keep_drew | apply keep_alloc) | exact HK.out)) (KeepBut.of_below hb g none) (.inl rfl))
                     have n8_ := Aside0.mk (below_step (by repeat (first | (with_reducible first | exact HB.out | apply below_alloc | apply pw_below_drewN | apply below_drew1 | refine below_set ?_ (IsS68.ge HI0.out)) | exact HB.out)) hb)
                     clear HO_7
                     clear HL189_0
                     clear HL193_0
                     clear HI0
                     clear HR189_0
                     clear HR193_0
                     clear HK
                     clear HB
                     have HO_7 := n0_
                     have HL189_0 := n1_
                     have HL193_0 := n2_
                     have HO188 := n3_
                     have HI0 := n4_
                     have HR189_0 := n5_
                     have HR193_0 := n6_
                     have HK := n7_
                     have HB := n8_
                     clear n0_ n1_ n2_ n3_ n4_ n5_ n6_ n7_ n8_
                     clear hb ho102
                     refine hK.out _ _ ⟨HS0_, HS1_⟩ (fun hHeld => ?_)
                     clear hK K
                     refine norm_ (a' := ?_) ?_ ?_
                     rotate_left
                     ·show Act.put _ (some 74) _ = _
                      simp only [Act.put, List.setIfInBounds_toArray, List.set_cons_zero, List.set_cons_succ, i64_w, i32_w]
                      rfl
                     refine one_ (i := 5) (N := some 79) #[true, true, true, true, true, true, true, true, true, true, true, false, true, false, false, false, false, false, false] rfl rfl (one_of HT_.out (by kernel_rfl)) (by decide) (fun K hK => ?_)
                     refine Kd.R_append_rows_step k41 w.heap.size (by rfl) (.tmp 74) (.tmp 78) 23 41 (.agg #[(.int .i64 0), (.int .i64 0)]) 16 rfl Try.underlying23 info41 rfl (by decide) (by omega) v187 y186 (rd_L3 x7_2 t135) _ _ _ (fun k_ => some k_ ≠ (.slice A189_0 (rd_L3 x7_2 t135).length c189_0 : Value).ownBlock ∧ some k_ ≠ (.slice A193_0 (rd_L3 x7_2 (ji85)).length c193_0 : Value).ownBlock) (fun _ => False) rfl rfl ?aO ?aR (fun _ _ h => h) (fun _ h => h.elim) ?aF (Below.refl _ _) ?aS ?aL ?_
                     (case aR => repeat (first | exact (by repeat (first | (with_reducible exact HR189_0.out) | (with_reducible refine Kd.C_alloc ?_ _) | (with_reducible refine Kd.C_drewN ?_ _) | (with_reducible refine Kd.C_drew ?_) | exact HR189_0.out)) | (with_reducible refine Kd.C_alloc ?_ _) | (with_reducible refine Kd.C_drewN ?_ _) | (with_reducible refine Kd.C_drew ?_)))
                     (case aF => exact (fun k_ hk => ⟨Kd.fresh' (Kd.R_lt (by (with_reducible repeat apply Kd.R_alloc); exact HL189_0.out)) k_ hk, Kd.fresh' (Kd.R_lt (by (with_reducible repeat apply Kd.R_alloc); exact HL193_0.out)) k_ hk⟩))
                     (case aO => exact (by (with_reducible repeat apply Kd.R_alloc); exact Kd.R_mono HO188.out (fun _ hk => ⟨hk.1.2, hk.2⟩)))
                     (case aS => exact (keep_size (w := w) (g := g) (row := none) (by repeat (first | (with_reducible first | exact HK.out | apply KeepBut.set_ | apply keep_drewN | apply keep_drew | apply keep_alloc) | exact HK.out))))
                     (case aL => have := LMc84.out; omega)
                     intro v191 w103 ho hb hg hat
                     have HS0_ := cell_grown hg (hHeld.1) (by first | (rw [add_block]; exact ((HO_7.out.1 _ rfl).2)) | (show some (Addr.add _ _).block ≠ _; rw [add_block]; exact ((HO_7.out.1 _ rfl).2)) | exact ((HO_7.out.1 _ rfl).2))
                     have HS1_ := cell_grown hg (hHeld.2) (by first | (rw [add_block]; exact ((HO_7.out.1 _ rfl).2)) | (show some (Addr.add _ _).block ≠ _; rw [add_block]; exact ((HO_7.out.1 _ rfl).2)) | exact ((HO_7.out.1 _ rfl).2))
                     rw [← Ny190.out] at ho
                     have n0_ := Aside0.mk (Kd.R_after (ok := (fun _ => True)) (by (with_reducible repeat apply Kd.R_alloc); exact HO_7.out) hg hat)
                     have n1_ := Aside0.mk (IsS68.grown (by repeat (first | (with_reducible first | exact HI0.out | apply IsS68.alloc | apply IsS68.drewN | apply IsS68.drew | apply IsS68.set_1) | exact HI0.out)) hg (IsS68.own_ne HI0.out HO188.out (by decide)))
                     have n2_ := Aside0.mk (Kd.R_after (ok := (fun k_ => some k_ ≠ (.slice (some ad189) x7_2.length co98 : Value).ownBlock)) (by (with_reducible repeat apply Kd.R_alloc); exact Kd.R_mono HL189_0.out (fun _ hk => ⟨hk.1.2, hk.2⟩)) hg hat)
                     have n3_ := Aside0.mk (Kd.R_after (ok := (fun k_ => some k_ ≠ (.slice (some ad189) x7_2.length co98 : Value).ownBlock)) (by (with_reducible repeat apply Kd.R_alloc); exact Kd.R_mono HL193_0.out (fun _ hk => ⟨hk.1.2, hk.2⟩)) hg hat)
                     have n4_ := Aside0.mk (below_weaken (by repeat (first | (with_reducible first | exact HB.out | apply below_alloc | apply pw_below_drewN | apply below_drew1 | refine below_set ?_ (IsS68.ge HI0.out)) | exact HB.out)) HL.out hb)
                     have n5_ := Aside0.mk (KeepBut.trans (by repeat (first | (with_reducible first | exact HK.out | apply KeepBut.set_ | apply keep_drewN | apply keep_drew | apply keep_alloc) | exact HK.out)) (KeepBut.of_grown hg g) (Kd.R_base2 HO188.out))
                     have n6_ := Aside0.mk (ho)
                     clear HO_7
                     clear HI0
                     clear HL189_0
                     clear HL193_0
                     clear HB
                     clear HK
                     clear HO188
                     have HO_7 := n0_
                     have HI0 := n1_
                     have HL189_0 := n2_
                     have HL193_0 := n3_
                     have HB := n4_
                     have HK := n5_
                     have HO192 := n6_
                     clear n0_ n1_ n2_ n3_ n4_ n5_ n6_
                     clear ho hb hg hat
                     refine hK.out _ _ ⟨HS0_, HS1_⟩ (fun hHeld => ?_)
                     clear hK K
                     refine norm_ (a' := ?_) ?_ ?_
                     rotate_left
                     ·show Act.put _ (some 79) _ = _
                      simp only [Act.put, List.setIfInBounds_toArray, List.set_cons_zero, List.set_cons_succ, i64_w, i32_w]
                      rfl
                     refine one_ (i := 11) (N := some 85) #[true, true, true, true, true, true, true, true, true, true, true, true, true, false, false, false, false, false, false] rfl rfl (one_of HT_.out (by kernel_rfl)) (by decide) (fun K hK => ?_)
                     refine Kd.R_append_rows_step k41 w.heap.size (by rfl) (.tmp 79) (.tmp 84) 23 41 (.agg #[(.int .i64 0), (.int .i64 0)]) 16 rfl Try.underlying23 info41 rfl (by decide) (by omega) v191 y190 (rd_L3 x7_2 (ji85)) _ _ _ (fun k_ => some k_ ≠ (.slice A189_0 (rd_L3 x7_2 t135).length c189_0 : Value).ownBlock ∧ some k_ ≠ (.slice A193_0 (rd_L3 x7_2 (ji85)).length c193_0 : Value).ownBlock) (fun _ => False) rfl rfl ?aO ?aR (fun _ _ h => h) (fun _ h => h.elim) ?aF (Below.refl _ _) ?aS ?aL ?_
                     (case aR => repeat (first | exact ((Kd.R_reads' (by (with_reducible repeat apply Kd.R_alloc); exact HL193_0.out)).2.2) | (with_reducible refine Kd.C_alloc ?_ _) | (with_reducible refine Kd.C_drewN ?_ _) | (with_reducible refine Kd.C_drew ?_)))
                     (case aF => exact (fun k_ hk => ⟨Kd.fresh' (Kd.R_lt (by (with_reducible repeat apply Kd.R_alloc); exact HL189_0.out)) k_ hk, Kd.fresh' (Kd.R_lt (by (with_reducible repeat apply Kd.R_alloc); exact HL193_0.out)) k_ hk⟩))
                     (case aO => exact (by (with_reducible repeat apply Kd.R_alloc); exact HO192.out))
                     (case aS => exact (keep_size (w := w) (g := g) (row := none) (by repeat (first | (with_reducible first | exact HK.out | apply KeepBut.set_ | apply keep_drewN | apply keep_drew | apply keep_alloc) | exact HK.out))))
                     (case aL => have := LMc88.out; omega)
                     intro v195 w104 ho hb hg hat
                     have HS0_ := cell_grown hg (hHeld.1) (by first | (rw [add_block]; exact ((HO_7.out.1 _ rfl).2)) | (show some (Addr.add _ _).block ≠ _; rw [add_block]; exact ((HO_7.out.1 _ rfl).2)) | exact ((HO_7.out.1 _ rfl).2))
                     have HS1_ := cell_grown hg (hHeld.2) (by first | (rw [add_block]; exact ((HO_7.out.1 _ rfl).2)) | (show some (Addr.add _ _).block ≠ _; rw [add_block]; exact ((HO_7.out.1 _ rfl).2)) | exact ((HO_7.out.1 _ rfl).2))
                     rw [← Ny194.out] at ho
                     have n0_ := Aside0.mk (Kd.R_after (ok := (fun _ => True)) (by (with_reducible repeat apply Kd.R_alloc); exact HO_7.out) hg hat)
                     have n1_ := Aside0.mk (IsS68.grown (by repeat (first | (with_reducible first | exact HI0.out | apply IsS68.alloc | apply IsS68.drewN | apply IsS68.drew | apply IsS68.set_1) | exact HI0.out)) hg (IsS68.own_ne HI0.out HO192.out (by decide)))
                     have n2_ := Aside0.mk (Kd.R_after (ok := (fun k_ => some k_ ≠ (.slice (some ad189) x7_2.length co98 : Value).ownBlock)) (by (with_reducible repeat apply Kd.R_alloc); exact HL189_0.out) hg hat)
                     have n3_ := Aside0.mk (Kd.R_after (ok := (fun k_ => some k_ ≠ (.slice (some ad189) x7_2.length co98 : Value).ownBlock)) (by (with_reducible repeat apply Kd.R_alloc); exact HL193_0.out) hg hat)
                     have n4_ := Aside0.mk (below_weaken (by repeat (first | (with_reducible first | exact HB.out | apply below_alloc | apply pw_below_drewN | apply below_drew1 | refine below_set ?_ (IsS68.ge HI0.out)) | exact HB.out)) HL.out hb)
                     have n5_ := Aside0.mk (KeepBut.trans (by repeat (first | (with_reducible first | exact HK.out | apply KeepBut.set_ | apply keep_drewN | apply keep_drew | apply keep_alloc) | exact HK.out)) (KeepBut.of_grown hg g) (Kd.R_base2 HO192.out))
                     have n6_ := Aside0.mk (ho)
                     clear HO_7
                     clear HI0
                     clear HL189_0
                     clear HL193_0
                     clear HB
                     clear HK
                     clear HO192
                     have HO_7 := n0_
                     have HI0 := n1_
                     have HL189_0 := n2_
                     have HL193_0 := n3_
                     have HB := n4_
                     have HK := n5_
                     have HO196 := n6_
                     clear n0_ n1_ n2_ n3_ n4_ n5_ n6_
                     clear ho hb hg hat
                     refine hK.out _ _ ⟨HS0_, HS1_⟩ (fun hHeld => ?_)
                     clear hK K
                     refine norm_ (a' := ?_) ?_ ?_
                     rotate_left
                     ·show Act.put _ (some 85) _ = _
                      simp only [Act.put, List.setIfInBounds_toArray, List.set_cons_zero, List.set_cons_succ, i64_w, i32_w]
                      rfl
                     refine one_ (i := 13) (N := some 87) #[true, true, true, true, true, true, true, true, true, true, true, true, true, true, false, false, false, false, false] rfl rfl (one_of HT_.out (by kernel_rfl)) (by decide) (fun K hK => ?_)
                     refine goes_ Try.func64 (by kernel_rfl) rfl #[.pointer (some ⟨g, 0, none⟩), .int .i64 3] (by rfl) rfl rfl (by (try simp only [List.map_toArray, List.map_cons, List.map_nil]); first | done | rfl | (simp only [List.length_drop, List.length_take]; rfl)) ?_
                     with_reducible refine (spec_l20Rd_pick.calls k2 g s0_0 t136 3 t197 t198 w0 _ ?side1 ?side2 A89.out).mono ?_
                     (case side1 => repeat (first | (with_reducible first | exact HI0.out | apply IsS68.alloc | apply IsS68.drewN | apply IsS68.drew | apply IsS68.set_1) | exact HI0.out))
                     (case side2 => repeat (first | (with_reducible first | exact HB.out | apply below_alloc | apply pw_below_drewN | apply below_drew1 | refine below_set ?_ (IsS68.ge HI0.out)) | exact HB.out))
                     rintro e w105 ⟨rfl, hi, hb, hk⟩
                     have HS0_ := keep_cell hk (hHeld.1) (by first | (rw [add_block]; exact Kd.own_blk (IsS68.own_ne HI0.out HO_7.out (by decide))) | (show (Addr.add _ _).block ≠ _; rw [add_block]; exact Kd.own_blk (IsS68.own_ne HI0.out HO_7.out (by decide))) | exact Kd.own_blk (IsS68.own_ne HI0.out HO_7.out (by decide)))
                     have HS1_ := keep_cell hk (hHeld.2) (by first | (rw [add_block]; exact Kd.own_blk (IsS68.own_ne HI0.out HO_7.out (by decide))) | (show (Addr.add _ _).block ≠ _; rw [add_block]; exact Kd.own_blk (IsS68.own_ne HI0.out HO_7.out (by decide))) | exact Kd.own_blk (IsS68.own_ne HI0.out HO_7.out (by decide)))
                     refine ⟨_, rfl, ?_⟩
                     have n0_ := Aside0.mk (Kd.R_mono (Kd.R_keep (IsS68.apart (show IsS68 w0 _ g s0_0 t136 from by repeat (first | (with_reducible first | exact HI0.out | apply IsS68.alloc | apply IsS68.drewN | apply IsS68.drew | apply IsS68.set_1) | exact HI0.out)) (by (with_reducible repeat apply Kd.R_alloc); exact HO_7.out) (by decide)) hk (fun _ h => h.2)) (fun _ h => h.1))
                     have n1_ := Aside0.mk (Kd.R_mono (Kd.R_keep (IsS68.apart (show IsS68 w0 _ g s0_0 t136 from by repeat (first | (with_reducible first | exact HI0.out | apply IsS68.alloc | apply IsS68.drewN | apply IsS68.drew | apply IsS68.set_1) | exact HI0.out)) (by (with_reducible repeat apply Kd.R_alloc); exact HL189_0.out) (by decide)) hk (fun _ h => h.2)) (fun _ h => h.1))
                     have n2_ := Aside0.mk (Kd.R_mono (Kd.R_keep (IsS68.apart (show IsS68 w0 _ g s0_0 t136 from by repeat (first | (with_reducible first | exact HI0.out | apply IsS68.alloc | apply IsS68.drewN | apply IsS68.drew | apply IsS68.set_1) | exact HI0.out)) (by (with_reducible repeat apply Kd.R_alloc); exact HL193_0.out) (by decide)) hk (fun _ h => h.2)) (fun _ h => h.1))
                     have n3_ := Aside0.mk (Kd.R_mono (Kd.R_keep (IsS68.apart (show IsS68 w0 _ g s0_0 t136 from by repeat (first | (with_reducible first | exact HI0.out | apply IsS68.alloc | apply IsS68.drewN | apply IsS68.drew | apply IsS68.set_1) | exact HI0.out)) (by (with_reducible repeat apply Kd.R_alloc); exact HO196.out) (by decide)) hk (fun _ h => h.2)) (fun _ h => h.1))
                     have n4_ := Aside0.mk (KeepBut.trans (by repeat (first | (with_reducible first | exact HK.out | apply KeepBut.set_ | apply keep_drewN | apply keep_drew | apply keep_alloc) | exact HK.out)) hk (.inl rfl))
                     have n5_ := Aside0.mk (hb)
                     have n6_ := Aside0.mk (hi)
                     clear HO_7
                     clear HL189_0
                     clear HL193_0
                     clear HO196
                     clear HK
                     clear HB
                     clear HI0
                     have HO_7 := n0_
                     have HL189_0 := n1_
                     have HL193_0 := n2_
                     have HO196 := n3_
                     have HK := n4_
                     have HB := n5_
                     have HI0 := n6_
                     clear n0_ n1_ n2_ n3_ n4_ n5_ n6_
                     (try clear hb)
                     (try clear hb2)
                     (try clear hk)
                     (try clear hi)
                     refine hK.out _ _ ⟨HS0_, HS1_⟩ (fun hHeld => ?_)
                     clear hK K
                     refine norm_ (a' := ?_) ?_ ?_
                     rotate_left
                     ·show Act.put _ (some 87) _ = _
                      simp only [Act.put, List.setIfInBounds_toArray, List.set_cons_zero, List.set_cons_succ, i64_w, i32_w]
                      rfl
                     refine pure_ (i := 14) (N := some 88) (v := ?_) (a' := ?_) #[true, true, true, true, true, true, true, true, true, true, true, true, true, true, true, false, false, false, false] rfl rfl (any_of HT_.out (by kernel_rfl)) (fun _ _ _ h => h) (Or.inl ⟨by rfl, ?_⟩) ?_ ?_
                     rotate_left
                     ·intro w'
                      go_simp
                      with_reducible rfl
                     rotate_left
                     ·simp only [Act.put, List.setIfInBounds_toArray, List.set_cons_zero, List.set_cons_succ, i64_w, i32_w]
                      rfl
                     refine pure_ (i := 15) (N := some 89) (v := ?_) (a' := ?_) #[true, true, true, true, true, true, true, true, true, true, true, true, true, true, true, true, false, false, false] rfl rfl (any_of HT_.out (by kernel_rfl)) (fun _ _ _ h => h) (Or.inl ⟨by rfl, ?_⟩) ?_ ?_
                     rotate_left
                     ·intro w'
                      go_simp
                      with_reducible rfl
                     rotate_left
                     ·simp only [Act.put, List.setIfInBounds_toArray, List.set_cons_zero, List.set_cons_succ, i64_w, i32_w]
                      rfl
                     refine last_ (i := 16) (N := some 90) #[true, true, true, true, true, true, true, true, true, true, true, true, true, true, true, true, true, false, false] rfl rfl (one_of HT_.out (by kernel_rfl)) (by decide) (fun K hK => ?_)
                     refine value_ (w1 := ?_) (v := ?_) (by rfl) rfl ?_ ?_
                     rotate_left 2
                     ·go_simp
                      constructor
                      ·rfl
                      ·rfl
                     refine hK.out _ _ ?_
                     clear hK K
                     refine norm_ (a' := ?_) ?_ ?_
                     rotate_left
                     ·show Act.put _ (some 90) _ = _
                      simp only [Act.put, List.setIfInBounds_toArray, List.set_cons_zero, List.set_cons_succ, i64_w, i32_w]
                      rfl
                     refine one_ (i := 17) (N := some 91) #[true, true, true, true, true, true, true, true, true, true, true, true, true, true, true, true, true, true, false] rfl rfl (one_of HT_.out (by kernel_rfl)) (by decide) (fun K hK => ?_)
                     refine Kd.R_append_step k41 w.heap.size (by rfl) (.tmp 85) (.tmp 90) 23 41 (.agg #[(.int .i64 0), (.int .i64 0)]) 16 rfl Try.underlying23 info41 rfl (by decide) (by omega) v195 y194 (⟨wrap64 (3 + t197), 0⟩ : S41) [.int .i64 (wrap64 (3 + t197)), .int .i64 0] (fun k_ => some k_ ≠ (.slice A189_0 (rd_L3 x7_2 t135).length c189_0 : Value).ownBlock ∧ some k_ ≠ (.slice A193_0 (rd_L3 x7_2 (ji85)).length c193_0 : Value).ownBlock) (fun _ => False) rfl rfl ?aP (fun _ hk => hk.elim) ?aF ?aO (Below.refl _ _) ?aS ?aL ?_
                     (case aP => exact k41_mkM _ _ _ (⟨wrap64 (3 + t197), 0⟩ : S41))
                     (case aF => exact (fun k_ hk => ⟨Kd.fresh' (Kd.R_lt (by (with_reducible repeat apply Kd.R_alloc); exact HL189_0.out)) k_ hk, Kd.fresh' (Kd.R_lt (by (with_reducible repeat apply Kd.R_alloc); exact HL193_0.out)) k_ hk⟩))
                     (case aO => exact (by (with_reducible repeat apply Kd.R_alloc); exact HO196.out))
                     (case aS => exact (keep_size (w := w) (g := g) (row := none) (by repeat (first | (with_reducible first | exact HK.out | apply KeepBut.set_ | apply keep_drewN | apply keep_drew | apply keep_alloc) | exact HK.out))))
                     (case aL => have := LMc90.out; omega)
                     intro v200 w106 ho hb hg hat
                     have HS0_ := cell_grown hg (hHeld.1) (by first | (rw [add_block]; exact ((HO_7.out.1 _ rfl).2)) | (show some (Addr.add _ _).block ≠ _; rw [add_block]; exact ((HO_7.out.1 _ rfl).2)) | exact ((HO_7.out.1 _ rfl).2))
                     have HS1_ := cell_grown hg (hHeld.2) (by first | (rw [add_block]; exact ((HO_7.out.1 _ rfl).2)) | (show some (Addr.add _ _).block ≠ _; rw [add_block]; exact ((HO_7.out.1 _ rfl).2)) | exact ((HO_7.out.1 _ rfl).2))
                     rw [← Ny199.out] at ho
                     have n0_ := Aside0.mk (Kd.R_after (ok := (fun _ => True)) (by (with_reducible repeat apply Kd.R_alloc); exact HO_7.out) hg hat)
                     have n1_ := Aside0.mk (IsS68.grown (by repeat (first | (with_reducible first | exact HI0.out | apply IsS68.alloc | apply IsS68.drewN | apply IsS68.drew | apply IsS68.set_1) | exact HI0.out)) hg (IsS68.own_ne HI0.out HO196.out (by decide)))
                     have n2_ := Aside0.mk (Kd.R_after (ok := (fun k_ => some k_ ≠ (.slice (some ad189) x7_2.length co98 : Value).ownBlock)) (by (with_reducible repeat apply Kd.R_alloc); exact HL189_0.out) hg hat)
                     have n3_ := Aside0.mk (Kd.R_after (ok := (fun k_ => some k_ ≠ (.slice (some ad189) x7_2.length co98 : Value).ownBlock)) (by (with_reducible repeat apply Kd.R_alloc); exact HL193_0.out) hg hat)
                     have n4_ := Aside0.mk (below_weaken (by repeat (first | (with_reducible first | exact HB.out | apply below_alloc | apply pw_below_drewN | apply below_drew1 | refine below_set ?_ (IsS68.ge HI0.out)) | exact HB.out)) HL.out hb)
                     have n5_ := Aside0.mk (KeepBut.trans (by repeat (first | (with_reducible first | exact HK.out | apply KeepBut.set_ | apply keep_drewN | apply keep_drew | apply keep_alloc) | exact HK.out)) (KeepBut.of_grown hg g) (Kd.R_base2 HO196.out))
                     have n6_ := Aside0.mk (ho)
                     clear HO_7
                     clear HI0
                     clear HL189_0
                     clear HL193_0
                     clear HB
                     clear HK
                     clear HO196
                     have HO_7 := n0_
                     have HI0 := n1_
                     have HL189_0 := n2_
                     have HL193_0 := n3_
                     have HB := n4_
                     have HK := n5_
                     have HO201 := n6_
                     clear n0_ n1_ n2_ n3_ n4_ n5_ n6_
                     clear ho hb hg hat
                     refine hK.out _ _ ⟨HS0_, HS1_⟩ (fun hHeld => ?_)
                     clear hK K
                     refine norm_ (a' := ?_) ?_ ?_
                     rotate_left
                     ·show Act.put _ (some 91) _ = _
                      simp only [Act.put, List.setIfInBounds_toArray, List.set_cons_zero, List.set_cons_succ, i64_w, i32_w]
                      rfl
                     refine pure_ (i := 18) (N := some 11) (v := ?_) (a' := ?_) #[true, true, true, true, true, true, true, true, true, true, true, true, true, true, true, true, true, true, true] rfl rfl (any_of HT_.out (by kernel_rfl)) (fun _ _ _ h => h) (Or.inl ⟨by rfl, ?_⟩) ?_ ?_
                     rotate_left
                     ·intro w'
                      go_simp
                      with_reducible rfl
                     rotate_left
                     ·simp only [Act.put, List.setIfInBounds_toArray, List.set_cons_zero, List.set_cons_succ, i64_w, i32_w]
                      rfl
                     refine done_ (done_of HT_.out (by kernel_rfl)) ?_
                     try go_wp2_with (first | ((with_reducible refine gate_dst (N := 92) rfl ?_); refine Kd.R_lit (Kd.slice 41 k41) _ 23 ?hg (N := 92) ?hd (xs := ([] : List (List (S41)))) (inner := []) (ok := fun _ => True) (okp := fun _ => True) ?hr ?hp (fun _ hk => hk) trivial (Below.refl _ _) (Nat.le_refl _) (by simp) ?_; (case hd => rfl); (case hg => rfl); (case hr => first | (go_simp; done) | (go_simp; rfl)); (case hp => exact (Reps.none _ _)); intro v203 w107 ho108 hb hg_ hnew_; clear hg_ hnew_; (first | rw [← Ny202.out] at ho108 | (simp only [Int.reduceToNat] at ho108; rw [← Ny202.out] at ho108)); have n0_ := Aside0.mk (Kd.R_elder' (by (with_reducible repeat apply Kd.R_alloc); exact HO_7.out) (Kd.R_base ho108) hb); have n1_ := Aside0.mk (Kd.R_below (by (with_reducible repeat apply Kd.R_alloc); exact HL189_0.out) hb); have n2_ := Aside0.mk (Kd.R_below (by (with_reducible repeat apply Kd.R_alloc); exact HL193_0.out) hb); have n3_ := Aside0.mk (Kd.R_below (by (with_reducible repeat apply Kd.R_alloc); exact HO201.out) hb); have n4_ := Aside0.mk (Kd.R_lower (Kd.R_new' (Kd.R_new' (Kd.R_new' (Kd.R_new' ho108 (Kd.R_lt (by (with_reducible repeat apply Kd.R_alloc); exact HO_7.out))) (Kd.R_lt (by (with_reducible repeat apply Kd.R_alloc); exact HL189_0.out))) (Kd.R_lt (by (with_reducible repeat apply Kd.R_alloc); exact HL193_0.out))) (Kd.R_lt (by (with_reducible repeat apply Kd.R_alloc); exact HO201.out))) (keep_size (w := w) (g := g) (row := none) (by repeat (first | (with_reducible first | exact HK.out | apply KeepBut.set_ | apply keep_drewN | apply keep_drew | apply keep_alloc) | exact HK.out)))); have n5_ := Aside0.mk (IsS68.below (by repeat (first | (with_reducible first | exact HI0.out | apply IsS68.alloc | apply IsS68.drewN | apply IsS68.drew | apply IsS68.set_1) | exact HI0.out)) hb); have n6_ := Aside0.mk (KeepBut.trans (by repeat (first | (with_reducible first | exact HK.out | apply KeepBut.set_ | apply keep_drewN | apply keep_drew | apply keep_alloc) | exact HK.out)) (KeepBut.of_below hb g none) (.inl rfl)); have n7_ := Aside0.mk (below_step (by repeat (first | (with_reducible first | exact HB.out | apply below_alloc | apply pw_below_drewN | apply below_drew1 | refine below_set ?_ (IsS68.ge HI0.out)) | exact HB.out)) hb); clear HO_7; clear HL189_0; clear HL193_0; clear HO201; clear HI0; clear HK; clear HB; have HO_7 := n0_; have HL189_0 := n1_; have HL193_0 := n2_; have HO201 := n3_; have HO204 := n4_; have HI0 := n5_; have HK := n6_; have HB := n7_; clear n0_ n1_ n2_ n3_ n4_ n5_ n6_ n7_; clear hb ho108; have q109 : (t135 : Int) ≤ ((x7_2.length : Int) : Int) := of_decide_eq_true (by first | (with_reducible assumption) | assumption); obtain ⟨i0109, hi0109, _, hsz109, _⟩ := info_parts info23; have hroom109 : x7_2.length ≤ co98 := (Kd.R_reads' HO_7.out).2.1; have hC109 : Kd.C (Kd.slice 41 k41) _ (some ad189) x7_2.length x7_2 := (Kd.R_reads' HO_7.out).2.2; have hcut109 := cut_to (P := Try.prog) 72 23 .i64 Try.underlying72 hi0109 (some ad189) x7_2.length co98 t135 (of_decide_eq_true (by first | (with_reducible assumption) | assumption)) q109 hroom109; have hr109 := Kd.C_take (m := (t135 : Int).toNat) hC109 (by omega); have hy109 : y205.length = (t135 : Int).toNat := (by rw [Ny205.out, List.length_take]; omega); rw [← Ny205.out] at hr109; rw [← hy109] at hcut109; have HR208 := Aside0.mk hr109; have HC208 := Aside0.mk (show y205.length ≤ co98 from by omega); clear hr109 hC109 hroom109 hi0109 hsz109; have KY109 := Aside0.mk hy109; clear hy109; have KL109 := Aside0.mk (show (t135 : Int).toNat ≤ x7_2.length from by omega); replace q109 := eq_true q109) | ((with_reducible refine gate_builtin (b := .append) (xs := #[.tmp 92, .tmp 95]) rfl ?_); at_builtin; refine Kd.R_append_rows (Kd.slice 41 k41) w.heap.size rfl (.tmp 92) (.tmp 95) 72 23 (.slice none 0 0) 24 rfl Try.underlying72 info23 rfl (by decide) (by omega) v203 y202 y205 _ _ _ (fun k_ => some k_ ≠ (.slice (some ad189) x7_2.length co98 : Value).ownBlock ∧ some k_ ≠ (v200 : Value).ownBlock) (fun k_ => ((fun k_ => some k_ ≠ (.slice (some ad189) x7_2.length co98 : Value).ownBlock ∧ some k_ ≠ (v200 : Value).ownBlock)) k_ ∧ some k_ ≠ (v203 : Value).ownBlock) rfl rfl ?aO ?aR (fun _ _ h => h) (fun _ hk => hk) ?aF (Below.refl _ _) ?aS ?aL ?_; (case aR => rw [Ny205.out]; exact Kd.C_take (m := (t135 : Int).toNat) (Kd.R_frozen (okp := (fun k_ => ((fun k_ => some k_ ≠ (.slice (some ad189) x7_2.length co98 : Value).ownBlock ∧ some k_ ≠ (v200 : Value).ownBlock)) k_ ∧ some k_ ≠ (v203 : Value).ownBlock)) (HO_7.out) (fun k_ hk => ⟨⟨hk.2, hk.1.1.2⟩, hk.1.2⟩)).2.2 KL109.out); (case aF => exact (fun k_ hk => ⟨Kd.fresh' (Kd.R_lt (by (with_reducible repeat apply Kd.R_alloc); exact HO_7.out)) k_ hk, Kd.fresh' (Kd.R_lt (by (with_reducible repeat apply Kd.R_alloc); exact HO201.out)) k_ hk⟩)); (case aO => exact (by (with_reducible repeat apply Kd.R_alloc); exact Kd.R_mono HO204.out (fun _ hk => ⟨hk.1.1.1.2, hk.2⟩))); (case aS => exact (keep_size (w := w) (g := g) (row := none) (by repeat (first | (with_reducible first | exact HK.out | apply KeepBut.set_ | apply keep_drewN | apply keep_drew | apply keep_alloc) | exact HK.out)))); (case aL => have := LMc93.out; omega); intro v210 w110 ho hb hg hat; rw [← Ny209.out] at ho; have n0_ := Aside0.mk (Kd.R_after (ok := (fun k_ => some k_ ≠ (v200 : Value).ownBlock)) (by (with_reducible repeat apply Kd.R_alloc); exact Kd.R_mono HO_7.out (fun _ hk => ⟨hk.1.2, hk.2⟩)) hg hat); have n1_ := Aside0.mk (IsS68.grown (by repeat (first | (with_reducible first | exact HI0.out | apply IsS68.alloc | apply IsS68.drewN | apply IsS68.drew | apply IsS68.set_1) | exact HI0.out)) hg (IsS68.own_ne HI0.out HO204.out (by decide))); have n2_ := Aside0.mk (Kd.R_over' (by (with_reducible repeat apply Kd.R_alloc); exact HO201.out) (Kd.R_typed (by (with_reducible repeat apply Kd.R_alloc); exact HO204.out)) (by decide) hg); have n3_ := Aside0.mk (below_weaken (by repeat (first | (with_reducible first | exact HB.out | apply below_alloc | apply pw_below_drewN | apply below_drew1 | refine below_set ?_ (IsS68.ge HI0.out)) | exact HB.out)) HL.out hb); have n4_ := Aside0.mk (KeepBut.trans (by repeat (first | (with_reducible first | exact HK.out | apply KeepBut.set_ | apply keep_drewN | apply keep_drew | apply keep_alloc) | exact HK.out)) (KeepBut.of_grown hg g) (Kd.R_base2 HO204.out)); have n5_ := Aside0.mk ((show Kd.C (Kd.slice 41 k41) w110 (some ad189) y205.length y205 from by rw [Ny205.out]; exact Kd.C_take (m := (t135 : Int).toNat) ((Kd.R_reads' (Kd.R_after (ok := (fun k_ => some k_ ≠ (v200 : Value).ownBlock)) (by (with_reducible repeat apply Kd.R_alloc); exact Kd.R_mono HO_7.out (fun _ hk => ⟨hk.1.2, hk.2⟩)) hg hat)).2.2) KL109.out)); have n6_ := Aside0.mk (ho); clear HO_7; clear HI0; clear HO201; clear HB; clear HK; clear HR208; clear HO204; have HO_7 := n0_; have HI0 := n1_; have HO201 := n2_; have HB := n3_; have HK := n4_; have HR208 := n5_; have HO211 := n6_; clear n0_ n1_ n2_ n3_ n4_ n5_ n6_; clear ho hb hg hat; obtain ⟨Ao112, co112, eo112⟩ := Kd.R_slice HO201.out; subst eo112) | ((with_reducible refine gate_builtin (b := .append) (xs := #[.tmp 97, .tmp 99]) rfl ?_); at_builtin; refine Kd.R_append (Kd.slice 41 k41) w.heap.size rfl (.tmp 97) (.tmp 99) 72 23 (.slice none 0 0) 24 rfl Try.underlying72 info23 rfl (by decide) (by omega) v210 y209 y199 [.slice Ao112 y199.length co112] (fun k_ => some k_ ≠ (.slice (some ad189) x7_2.length co98 : Value).ownBlock) (fun k_ => ((fun k_ => some k_ ≠ (.slice (some ad189) x7_2.length co98 : Value).ownBlock)) k_ ∧ some k_ ≠ (v210 : Value).ownBlock) rfl rfl ?aP (fun _ hk => hk) ?aF ?aO (Below.refl _ _) ?aS ?aL ?_; (case aP => exact Kd.M_row (Kd.R_mono (Kd.R_apart' (Kd.R_apart' (HO201.out) (Kd.R_typed HO_7.out) (by decide)) (Kd.R_typed HO211.out) (by decide)) (fun k_ hk => ⟨hk.1.2, hk.2⟩))); (case aF => exact (fun k_ hk => Kd.fresh' (Kd.R_lt (by (with_reducible repeat apply Kd.R_alloc); exact HO_7.out)) k_ hk)); (case aO => exact (by (with_reducible repeat apply Kd.R_alloc); exact Kd.R_mono HO211.out (fun _ hk => hk.1))); (case aS => exact (keep_size (w := w) (g := g) (row := none) (by repeat (first | (with_reducible first | exact HK.out | apply KeepBut.set_ | apply keep_drewN | apply keep_drew | apply keep_alloc) | exact HK.out)))); (case aL => have := LMc94.out; omega); intro v213 w111 ho hb hg hat; rw [← Ny212.out] at ho; have n0_ := Aside0.mk (Kd.R_after (ok := (fun k_ => some k_ ≠ (.slice Ao112 y199.length co112 : Value).ownBlock)) (by (with_reducible repeat apply Kd.R_alloc); exact HO_7.out) hg hat); have n1_ := Aside0.mk (IsS68.grown (by repeat (first | (with_reducible first | exact HI0.out | apply IsS68.alloc | apply IsS68.drewN | apply IsS68.drew | apply IsS68.set_1) | exact HI0.out)) hg (IsS68.own_ne HI0.out HO211.out (by decide))); have n2_ := Aside0.mk (below_weaken (by repeat (first | (with_reducible first | exact HB.out | apply below_alloc | apply pw_below_drewN | apply below_drew1 | refine below_set ?_ (IsS68.ge HI0.out)) | exact HB.out)) HL.out hb); have n3_ := Aside0.mk (KeepBut.trans (by repeat (first | (with_reducible first | exact HK.out | apply KeepBut.set_ | apply keep_drewN | apply keep_drew | apply keep_alloc) | exact HK.out)) (KeepBut.of_grown hg g) (Kd.R_base2 HO211.out)); have n4_ := Aside0.mk ((show Kd.C (Kd.slice 41 k41) w111 (some ad189) y205.length y205 from by rw [Ny205.out]; exact Kd.C_take (m := (t135 : Int).toNat) ((Kd.R_reads' (Kd.R_after (ok := (fun k_ => some k_ ≠ (.slice Ao112 y199.length co112 : Value).ownBlock)) (by (with_reducible repeat apply Kd.R_alloc); exact HO_7.out) hg hat)).2.2) KL109.out)); have n5_ := Aside0.mk (ho); clear HO_7; clear HI0; clear HB; clear HK; clear HR208; clear HO211; clear HO201; have HO_7 := n0_; have HI0 := n1_; have HB := n2_; have HK := n3_; have HR208 := n4_; have HO214 := n5_; clear n0_ n1_ n2_ n3_ n4_ n5_; clear ho hb hg hat; have q113 : ((wrap64 (t135 + 2)) : Int) ≤ ((x7_2.length : Int) : Int) := of_decide_eq_true (by first | (with_reducible assumption) | assumption); obtain ⟨i0113, hi0113, _, hsz113, _⟩ := info_parts info23; have hroom113 : x7_2.length ≤ co98 := (Kd.R_reads' HO_7.out).2.1; have hC113 : Kd.C (Kd.slice 41 k41) _ (some ad189) x7_2.length x7_2 := (Kd.R_reads' HO_7.out).2.2; have q0113 : (0 : Int) ≤ ((wrap64 (t135 + 2)) : Int) := of_decide_eq_true (by first | (with_reducible assumption) | assumption); have hcut113 := cut_from (P := Try.prog) 72 23 .i64 Try.underlying72 hi0113 1 hsz113 (some ad189) x7_2.length co98 (wrap64 (t135 + 2)) q0113 q113; have hr113 := Kd.C_drop (m := ((wrap64 (t135 + 2)) : Int).toNat) (c := co98) hC113 (by omega) hroom113; obtain ⟨A113, hA113⟩ : ∃ A1, A1 = (if co98 = ((wrap64 (t135 + 2)) : Int).toNat then (some ad189) else ((some ad189) : Option Addr).map (·.add (((wrap64 (t135 + 2)) : Int).toNat * 1))) := ⟨_, rfl⟩; obtain ⟨c113, hc113⟩ : ∃ c1, c1 = co98 - ((wrap64 (t135 + 2)) : Int).toNat := ⟨_, rfl⟩; have hy113 : y215.length = x7_2.length - ((wrap64 (t135 + 2)) : Int).toNat := (by rw [Ny215.out, List.length_drop] <;> omega); rw [show (x7_2).drop ((wrap64 (t135 + 2)) : Int).toNat = y215 from Ny215.out.symm] at hr113; replace hr113 : Kd.C (Kd.slice 41 k41) _ A113 y215.length y215 := (by rw [hA113]; exact hr113); rw [← hy113, ← hA113, ← hc113] at hcut113; have HR218 := Aside0.mk hr113; have HC218 := Aside0.mk (show y215.length ≤ c113 from by rw [hy113, hc113]; exact Nat.sub_le_sub_right hroom113 _); clear hr113 hC113 hroom113 hi0113 hsz113 hc113; have KY113 := Aside0.mk hy113; have KA113 := Aside0.mk hA113; clear hy113 hA113; have KL113 := Aside0.mk (show ((wrap64 (t135 + 2)) : Int).toNat ≤ x7_2.length from by omega); replace q113 := eq_true q113) | ((with_reducible refine gate_builtin (b := .append) (xs := #[.tmp 101, .tmp 105]) rfl ?_); at_builtin; refine Kd.R_append_rows (Kd.slice 41 k41) w.heap.size rfl (.tmp 101) (.tmp 105) 72 23 (.slice none 0 0) 24 rfl Try.underlying72 info23 rfl (by decide) (by omega) v213 y212 y215 _ _ _ (fun k_ => some k_ ≠ (.slice (some ad189) x7_2.length co98 : Value).ownBlock) (fun k_ => ((fun k_ => some k_ ≠ (.slice (some ad189) x7_2.length co98 : Value).ownBlock)) k_ ∧ some k_ ≠ (v213 : Value).ownBlock) rfl rfl ?aO ?aR (fun _ _ h => h) (fun _ hk => hk) ?aF (Below.refl _ _) ?aS ?aL ?_; (case aR => rw [Ny215.out, KA113.out]; exact Kd.C_drop (m := ((wrap64 (t135 + 2)) : Int).toNat) (c := co98) (Kd.R_frozen (okp := (fun k_ => ((fun k_ => some k_ ≠ (.slice (some ad189) x7_2.length co98 : Value).ownBlock)) k_ ∧ some k_ ≠ (v213 : Value).ownBlock)) (HO_7.out) (fun k_ hk => ⟨hk.2, hk.1.2⟩)).2.2 KL113.out (Kd.R_frozen (okp := (fun k_ => ((fun k_ => some k_ ≠ (.slice (some ad189) x7_2.length co98 : Value).ownBlock)) k_ ∧ some k_ ≠ (v213 : Value).ownBlock)) (HO_7.out) (fun k_ hk => ⟨hk.2, hk.1.2⟩)).2.1); (case aF => exact (fun k_ hk => Kd.fresh' (Kd.R_lt (by (with_reducible repeat apply Kd.R_alloc); exact HO_7.out)) k_ hk)); (case aO => exact (by (with_reducible repeat apply Kd.R_alloc); exact HO214.out)); (case aS => exact (keep_size (w := w) (g := g) (row := none) (by repeat (first | (with_reducible first | exact HK.out | apply KeepBut.set_ | apply keep_drewN | apply keep_drew | apply keep_alloc) | exact HK.out)))); (case aL => have := LMc97.out; omega); intro v220 w114 ho hb hg hat; rw [← Ny219.out] at ho; have n0_ := Aside0.mk (Kd.R_after (ok := (fun _ => True)) (by (with_reducible repeat apply Kd.R_alloc); exact Kd.R_mono HO_7.out (fun _ hk => ⟨trivial, hk.2⟩)) hg hat); have n1_ := Aside0.mk (IsS68.grown (by repeat (first | (with_reducible first | exact HI0.out | apply IsS68.alloc | apply IsS68.drewN | apply IsS68.drew | apply IsS68.set_1) | exact HI0.out)) hg (IsS68.own_ne HI0.out HO214.out (by decide))); have n2_ := Aside0.mk (below_weaken (by repeat (first | (with_reducible first | exact HB.out | apply below_alloc | apply pw_below_drewN | apply below_drew1 | refine below_set ?_ (IsS68.ge HI0.out)) | exact HB.out)) HL.out hb); have n3_ := Aside0.mk (KeepBut.trans (by repeat (first | (with_reducible first | exact HK.out | apply KeepBut.set_ | apply keep_drewN | apply keep_drew | apply keep_alloc) | exact HK.out)) (KeepBut.of_grown hg g) (Kd.R_base2 HO214.out)); have n4_ := Aside0.mk ((show Kd.C (Kd.slice 41 k41) w114 (some ad189) y205.length y205 from by rw [Ny205.out]; exact Kd.C_take (m := (t135 : Int).toNat) ((Kd.R_reads' (Kd.R_after (ok := (fun _ => True)) (by (with_reducible repeat apply Kd.R_alloc); exact Kd.R_mono HO_7.out (fun _ hk => ⟨trivial, hk.2⟩)) hg hat)).2.2) KL109.out)); have n5_ := Aside0.mk ((show Kd.C (Kd.slice 41 k41) w114 A113 y215.length y215 from by rw [Ny215.out, KA113.out]; exact Kd.C_drop (m := ((wrap64 (t135 + 2)) : Int).toNat) (c := co98) ((Kd.R_reads' (Kd.R_after (ok := (fun _ => True)) (by (with_reducible repeat apply Kd.R_alloc); exact Kd.R_mono HO_7.out (fun _ hk => ⟨trivial, hk.2⟩)) hg hat)).2.2) KL113.out ((Kd.R_reads' (Kd.R_after (ok := (fun _ => True)) (by (with_reducible repeat apply Kd.R_alloc); exact Kd.R_mono HO_7.out (fun _ hk => ⟨trivial, hk.2⟩)) hg hat)).2.1))); have n6_ := Aside0.mk (ho); clear HO_7; clear HI0; clear HB; clear HK; clear HR208; clear HR218; clear HO214; have HO_7 := n0_; have HI0 := n1_; have HB := n2_; have HK := n3_; have HR208 := n4_; have HR218 := n5_; have HO221 := n6_; clear n0_ n1_ n2_ n3_ n4_ n5_ n6_; clear ho hb hg hat))
                     go_roundg k2
                     case measure => have := HK1.out; have := HK2.out; omega
                     case rel => exact ⟨(y219), (x9_2), (t198), (by first | rfl | (simp; done) | (simp [*]; done)), H', ⟨by have := HK1.out; have := HK2.out; omega⟩, ⟨by (with_reducible repeat apply Kd.R_alloc); exact Kd.R_mono HO221.out (fun _ hk => trivial)⟩, ⟨by repeat (first | (with_reducible first | exact HI0.out | apply IsS68.alloc | apply IsS68.drewN | apply IsS68.drew | apply IsS68.set_1) | exact HI0.out)⟩, ⟨by repeat (first | (with_reducible first | exact HK.out | apply KeepBut.set_ | apply keep_drewN | apply keep_drew | apply keep_alloc) | exact HK.out)⟩, ⟨by repeat (first | (with_reducible first | exact HB.out | apply below_alloc | apply pw_below_drewN | apply below_drew1 | refine below_set ?_ (IsS68.ge HI0.out)) | exact HB.out)⟩⟩
                    ·rw [if_neg c97] at H
                     exact absurd H (by simp)
                   ·rw [if_neg c96] at H
                    exact absurd H (by simp)
                  ·rw [if_neg c95] at H
                   exact absurd H (by simp)
                 ·rw [if_neg c94] at H
                  exact absurd H (by simp)
                ·rw [if_neg c93] at H
                 exact absurd H (by simp)
               ·rw [if_neg c92] at H
                exact absurd H (by simp)
              ·rw [if_neg c90] at H
               exact absurd H (by simp)
             ·rw [if_neg c88] at H
              exact absurd H (by simp)
            ·rw [if_neg c87] at H
             exact absurd H (by simp)
           ·rw [if_neg c86] at H
            exact absurd H (by simp)
          ·rw [if_neg c84] at H
           exact absurd H (by simp)
         ·rw [if_neg c83] at H
          exact absurd H (by simp)
        ·rw [if_neg c82] at H
         exact absurd H (by simp)
      ·rw [if_neg c29] at H
       have c29b0 : decide (1 < (x7_2.length : Int)) = false := decide_eq_false c29
       have c29b1 : decide (1 < x7_2.length) = false := decide_eq_false (by omega)
       clear c29
       by_cases c115 : 0 < (x7_2.length : Int)
       ·rw [if_pos c115] at H
        have c115b0 : decide (0 < (x7_2.length : Int)) = true := decide_eq_true c115
        have c115b1 : decide (0 < x7_2.length) = true := decide_eq_true (by omega)
        clear c115
        replace H := Option.bind_eq_some_iff.mp H
        obtain ⟨⟨t223, t224⟩, A1160, H⟩ := H
        replace H : (if t223 = 0 then (if (rd_L3 x7_2 0).length < 8796093022208 then (spec_l20Term.j2 k2 a2 ((rd_L3 x7_2 0) ++ [(⟨2, 0⟩ : S41)]) s0_0 t224) else (none)) else (spec_l20Term.j2 k2 a2 (rd_L3 x7_2 0) s0_0 t224)) = some (r1, r2) := H
        have A116 := Aside0.mk A1160
        clear A1160
        have HC117 := Aside0.mk H
        clear H
        obtain ⟨Ao118, co118, eo118⟩ := Kd.R_slice HO_7.out
        subst eo118
        have p222 : 0 ≤ (0 : Int) := (by omega)
        have q222 : 0 < (x7_2.length : Int) := of_decide_eq_true (by first | (with_reducible assumption) | assumption)
        obtain ⟨ad222, A222_0, c222_0, e222, hx222_0, hl222_0, hi222_0⟩ := at_L3 (Kd.R_reads' HO_7.out).2.2 0 p222 q222
        cases e222
        obtain ⟨ce222, hce222, hMe222, hcc222⟩ := Kd.R_get HO_7.out [] 0 p222 (by first | exact q222 | exact of_decide_eq_true (by first | (with_reducible assumption) | assumption) | (have e_ := (Kd.R_reads' HO_7.out).1; omega))
        obtain ⟨ve222_0, rfl, ge222_0⟩ := hMe222
        have hv222_0 := hcc222 0 _ rfl
        rw [Nat.add_zero, show ((Kd.slice 41 k41)).sz = 1 from rfl, Nat.mul_one] at hv222_0
        replace hv222_0 := Option.some.inj (hv222_0.symm.trans hx222_0)
        rw [hv222_0] at ge222_0
        have HL222_0 := Aside0.mk (show Kd.R k41 41 _ _ _ _ (rd_L3 x7_2 0) from ge222_0)
        clear hv222_0 ge222_0
        clear hcc222 hce222
        have qi222 : (0 < x7_2.length) = True := eq_true (by omega)
        (try rw [show ((0 : Int)).toNat = 0 from rfl] at hx222_0)
        (try rw [Addr.add_zero'] at hx222_0)
        have HR222_0 := Aside0.mk hi222_0
        have HC222_0 := Aside0.mk hl222_0
        clear hi222_0 hl222_0
        replace p222 := eq_true p222
        replace q222 := eq_true q222
        replace HL222_0 := Aside0.mk (show Kd.R k41 41 _ _ (fun _ => True) _ (rd_L3 x7_2 0) from Kd.R_mono HL222_0.out (fun _ hk => trivial))
        go_upto_if 112 with (first | ((with_reducible refine gate_callee (f := 64) rfl ?_); refine goesL_ (some 111) rfl rfl Try.func64 (by kernel_rfl) rfl #[.pointer (some ⟨g, 0, none⟩), .int .i64 5] rfl (by (try simp only [List.map_toArray, List.map_cons, List.map_nil]); first | done | rfl | (simp only [List.length_drop, List.length_take]; rfl)) ?_; (with_reducible refine (spec_l20Rd_pick.calls k2 g s0_0 x1001_2 5 t223 t224 w0 _ ?side1 ?side2 A116.out).mono ?_); (case side1 => repeat (first | (with_reducible first | exact HI0.out | apply IsS68.alloc | apply IsS68.drewN | apply IsS68.drew | apply IsS68.set_1) | exact HI0.out)); (case side2 => repeat (first | (with_reducible first | exact HB.out | apply below_alloc | apply pw_below_drewN | apply below_drew1 | refine below_set ?_ (IsS68.ge HI0.out)) | exact HB.out)); rintro e w119 ⟨rfl, hi, hb, hk⟩; refine ⟨_, rfl, ?_⟩; have n0_ := Aside0.mk (Kd.R_mono (Kd.R_keep (IsS68.apart (show IsS68 w0 _ g s0_0 x1001_2 from by repeat (first | (with_reducible first | exact HI0.out | apply IsS68.alloc | apply IsS68.drewN | apply IsS68.drew | apply IsS68.set_1) | exact HI0.out)) (by (with_reducible repeat apply Kd.R_alloc); exact HL222_0.out) (by decide)) hk (fun _ h => h.2)) (fun _ h => h.1)); have n1_ := Aside0.mk (KeepBut.trans (by repeat (first | (with_reducible first | exact HK.out | apply KeepBut.set_ | apply keep_drewN | apply keep_drew | apply keep_alloc) | exact HK.out)) hk (.inl rfl)); have n2_ := Aside0.mk (hb); have n3_ := Aside0.mk (hi); clear HL222_0; clear HK; clear HB; clear HI0; have HL222_0 := n0_; have HK := n1_; have HB := n2_; have HI0 := n3_; clear n0_ n1_ n2_ n3_; (try clear hb); (try clear hb2); (try clear hk); (try clear hi)))
        (try simp only [Act.put, List.setIfInBounds_toArray, List.set_cons_zero, List.set_cons_succ])
        go_cut [13] (fun v13 wc => ∃ (kq : Nat) (x13_116 : List (S41)), Aside0 (spec_l20Term.j2 kq a2 x13_116 s0_0 t224 = some (r1, r2)) ∧ Aside0 (kq ≤ k2) ∧ Aside0 (Kd.R k41 41 wc w.heap.size (fun _ => True) v13 x13_116) ∧ Aside0 (IsS68 w0 wc g s0_0 t224) ∧ Aside0 (KeepBut w wc g none) ∧ Aside0 (Below w0.heap.size w0 wc))
        case first =>
         have H := HC117.out
         clear HC117
         by_cases c120 : t223 = 0
         ·rw [if_pos c120] at H
          have c120b0 : (t223 == 0) = true := beq_iff_eq.mpr c120
          have c120b1 : (t223 != 0) = false := bne_eq_false_iff_eq.mpr c120
          clear c120
          (first | rw [c120b0] | (simp only [i64_w, i32_w]; rw [c120b0]) | skip)
          by_cases c121 : (rd_L3 x7_2 0).length < 8796093022208
          ·rw [if_pos c121] at H
           have LMc121 := Aside0.mk c121
           clear c121
           obtain ⟨y225, hy225⟩ : ∃ y_ : List (S41), y_ = ((rd_L3 x7_2 0) ++ [(⟨2, 0⟩ : S41)]) := ⟨_, rfl⟩
           replace H : (spec_l20Term.j2 k2 a2 y225 s0_0 t224) = some (r1, r2) := by first | (rw [hy225]; with_reducible exact H) | (have H2_ := (Option.bind_some _ _).symm.trans H; rw [hy225]; with_reducible exact H2_) | (have H2_ := (Option.bind_some _ _).symm.trans H; with_reducible exact H2_) | with_reducible exact H | (rw [hy225]; exact H) | exact H
           have Ny225 := Aside0.mk hy225
           clear hy225
           have H' := Aside0.mk H
           clear H
           go_wp2_with (first | ((with_reducible refine gate_builtin (b := .append) (xs := #[.tmp 113, .tmp 115]) rfl ?_); at_builtin; refine Kd.R_append k41 w.heap.size rfl (.tmp 113) (.tmp 115) 23 41 (.agg #[(.int .i64 0), (.int .i64 0)]) 16 rfl Try.underlying23 info41 rfl (by decide) (by omega) (.slice A222_0 (rd_L3 x7_2 0).length c222_0) (rd_L3 x7_2 0) (⟨2, 0⟩ : S41) [.int .i64 2, .int .i64 0] (fun _ => True) (fun _ => False) rfl rfl ?aP (fun _ hk => hk.elim) ?aF ?aO (Below.refl _ _) ?aS ?aL ?_; (case aP => exact k41_mkM _ _ _ (⟨2, 0⟩ : S41)); (case aF => exact (fun _ _ => trivial)); (case aO => exact (by (with_reducible repeat apply Kd.R_alloc); exact HL222_0.out)); (case aS => exact (keep_size (w := w) (g := g) (row := none) (by repeat (first | (with_reducible first | exact HK.out | apply KeepBut.set_ | apply keep_drewN | apply keep_drew | apply keep_alloc) | exact HK.out)))); (case aL => have := LMc121.out; omega); intro v226 w122 ho hb hg hat; rw [← Ny225.out] at ho; have n0_ := Aside0.mk (IsS68.grown (by repeat (first | (with_reducible first | exact HI0.out | apply IsS68.alloc | apply IsS68.drewN | apply IsS68.drew | apply IsS68.set_1) | exact HI0.out)) hg (IsS68.own_ne HI0.out HL222_0.out (by decide))); have n1_ := Aside0.mk (below_weaken (by repeat (first | (with_reducible first | exact HB.out | apply below_alloc | apply pw_below_drewN | apply below_drew1 | refine below_set ?_ (IsS68.ge HI0.out)) | exact HB.out)) HL.out hb); have n2_ := Aside0.mk (KeepBut.trans (by repeat (first | (with_reducible first | exact HK.out | apply KeepBut.set_ | apply keep_drewN | apply keep_drew | apply keep_alloc) | exact HK.out)) (KeepBut.of_grown hg g) (Kd.R_base2 HL222_0.out)); have n3_ := Aside0.mk (ho); clear HI0; clear HB; clear HK; clear HL222_0; have HI0 := n0_; have HB := n1_; have HK := n2_; have HO227 := n3_; clear n0_ n1_ n2_ n3_; clear ho hb hg hat))
           go_meet
           case rel => exact ⟨_, (y225), H', ⟨by have := HK1.out; have := HK2.out; first | omega | exact Nat.le_refl _⟩, ⟨by (with_reducible repeat apply Kd.R_alloc); exact HO227.out⟩, ⟨by repeat (first | (with_reducible first | exact HI0.out | apply IsS68.alloc | apply IsS68.drewN | apply IsS68.drew | apply IsS68.set_1) | exact HI0.out)⟩, ⟨by repeat (first | (with_reducible first | exact HK.out | apply KeepBut.set_ | apply keep_drewN | apply keep_drew | apply keep_alloc) | exact HK.out)⟩, ⟨by repeat (first | (with_reducible first | exact HB.out | apply below_alloc | apply pw_below_drewN | apply below_drew1 | refine below_set ?_ (IsS68.ge HI0.out)) | exact HB.out)⟩⟩
          ·rw [if_neg c121] at H
           exact absurd H (by simp)
         ·rw [if_neg c120] at H
          have c120b0 : (t223 == 0) = false := beq_eq_false_iff_ne.mpr c120
          have c120b1 : (t223 != 0) = true := bne_iff_ne.mpr c120
          (first | rw [c120b0] | (simp only [i64_w, i32_w]; rw [c120b0]) | skip)
          have H' := Aside0.mk H
          clear H
          go_wp2
          go_meet
          case rel => exact ⟨_, (rd_L3 x7_2 0), H', ⟨by have := HK1.out; have := HK2.out; first | omega | exact Nat.le_refl _⟩, ⟨by (with_reducible repeat apply Kd.R_alloc); exact HL222_0.out⟩, ⟨by repeat (first | (with_reducible first | exact HI0.out | apply IsS68.alloc | apply IsS68.drewN | apply IsS68.drew | apply IsS68.set_1) | exact HI0.out)⟩, ⟨by repeat (first | (with_reducible first | exact HK.out | apply KeepBut.set_ | apply keep_drewN | apply keep_drew | apply keep_alloc) | exact HK.out)⟩, ⟨by repeat (first | (with_reducible first | exact HB.out | apply below_alloc | apply pw_below_drewN | apply below_drew1 | refine below_set ?_ (IsS68.ge HI0.out)) | exact HB.out)⟩⟩
        case rest =>
         clear HC117
         try clear c1
         try clear p1
         try clear q1
         try clear hx1
         try clear c2
         try clear p2
         try clear q2
         try clear hx2
         try clear qi2
         try clear c3
         try clear c4
         try clear c6
         try clear p6
         try clear c8
         try clear c9
         try clear q10
         try clear c11
         try clear q11
         try clear c12
         try clear c18
         try clear p18
         try clear q18
         try clear hx18
         try clear c19
         try clear p19
         try clear q19
         try clear hx19
         try clear c22
         try clear p22
         try clear q22
         try clear hx22
         try clear qi22
         try clear c29
         try clear c29b0
         try clear c29b1
         try clear c31
         try clear c31b0
         try clear c48
         try clear c49
         try clear c64
         try clear p64
         try clear c82
         try clear c82b0
         try clear c83
         try clear c83b0
         try clear c84
         try clear c86
         try clear c86b0
         try clear c87
         try clear c87b0
         try clear c88
         try clear c90
         try clear c91
         try clear c91b0
         try clear c92
         try clear c92b0
         try clear c92b1
         try clear c93
         try clear c94
         try clear c95
         try clear c95b0
         try clear c95b1
         try clear c96
         try clear c96b0
         try clear c96b1
         try clear c97
         try clear q109
         try clear c113
         try clear q113
         try clear c115
         try clear c115b0
         try clear c115b1
         try clear c120
         try clear c120b0
         try clear c120b1
         try clear c121
         try clear hx189_0
         try clear hx193_0
         try clear hx222_0
         try clear p189
         try clear p193
         try clear p222
         try clear q0113
         try clear q109
         try clear q113
         try clear q189
         try clear q193
         try clear q222
         obtain ⟨kq, x13_116, HA, HJ116, HO_13, HI0, HK, HB⟩ := hcut
         cases kq with
         | zero => exact absurd HA.out (by simp [spec_l20Term.j2])
         | succ kj116 =>
          have H := HA.out
          clear HA
          simp only [spec_l20Term.j2] at H
          replace H := Option.bind_eq_some_iff.mp H
          obtain ⟨⟨t228, t229⟩, A1230, H⟩ := H
          replace H : (if t228 = true then ((spec_l20Rd_pick.f kj116 s0_0 t229 3).bind fun bt230 => (if bt230.1 = 0 then (some ((([] : List (S41))), bt230.2)) else (if bt230.1 = 1 then (if x13_116.length < 8796093022208 then (some ((x13_116 ++ [(⟨5, 0⟩ : S41)]), bt230.2)) else (none)) else ((spec_l20Rd_pick.f kj116 s0_0 bt230.2 2).bind fun bt238 => (if 0 < (x13_116.length : Int) then (some ((x13_116.set (0 : Int).toNat (⟨bt238.1, 6⟩ : S41)), bt238.2)) else (none)))))) else (some (x13_116, t229))) = some (r1, r2) := H
          have A123 := Aside0.mk A1230
          clear A1230
          by_cases c124 : t228 = true
          ·subst c124
           have H1 : ((spec_l20Rd_pick.f kj116 s0_0 t229 3).bind fun bt230 => (if bt230.1 = 0 then (some ((([] : List (S41))), bt230.2)) else (if bt230.1 = 1 then (if x13_116.length < 8796093022208 then (some ((x13_116 ++ [(⟨5, 0⟩ : S41)]), bt230.2)) else (none)) else ((spec_l20Rd_pick.f kj116 s0_0 bt230.2 2).bind fun bt238 => (if 0 < (x13_116.length : Int) then (some ((x13_116.set (0 : Int).toNat (⟨bt238.1, 6⟩ : S41)), bt238.2)) else (none)))))) = some (r1, r2) := by rw [if_pos rfl] at H; exact H
           clear H
           have H := H1
           clear H1
           replace H := Option.bind_eq_some_iff.mp H
           obtain ⟨⟨t230, t231⟩, A1250, H⟩ := H
           replace H : (if t230 = 0 then (some ((([] : List (S41))), t231)) else (if t230 = 1 then (if x13_116.length < 8796093022208 then (some ((x13_116 ++ [(⟨5, 0⟩ : S41)]), t231)) else (none)) else ((spec_l20Rd_pick.f kj116 s0_0 t231 2).bind fun bt238 => (if 0 < (x13_116.length : Int) then (some ((x13_116.set (0 : Int).toNat (⟨bt238.1, 6⟩ : S41)), bt238.2)) else (none))))) = some (r1, r2) := H
           have A125 := Aside0.mk A1250
           clear A1250
           by_cases c126 : t230 = 0
           ·rw [if_pos c126] at H
            have c126b0 : (t230 == 0) = true := beq_iff_eq.mpr c126
            have c126b1 : (t230 != 0) = false := bne_eq_false_iff_eq.mpr c126
            clear c126
            obtain ⟨y232, hy232⟩ : ∃ y_ : List (S41), y_ = (([] : List (S41))) := ⟨_, rfl⟩
            replace H : (some (y232, t231)) = some (r1, r2) := by first | (rw [hy232]; with_reducible exact H) | (have H2_ := (Option.bind_some _ _).symm.trans H; rw [hy232]; with_reducible exact H2_) | (have H2_ := (Option.bind_some _ _).symm.trans H; with_reducible exact H2_) | with_reducible exact H | (rw [hy232]; exact H) | exact H
            have Ny232 := Aside0.mk hy232
            clear hy232
            simp only [Option.some.injEq, Prod.mk.injEq] at H
            obtain ⟨rfl, rfl⟩ := H
            go_wp2_with (first | ((with_reducible refine gate_callee (f := 69) rfl ?_); refine goesL_ (some 119) rfl rfl Try.func69 (by kernel_rfl) rfl #[.pointer (some ⟨g, 0, none⟩), .int .i64 a2] rfl (by (try simp only [List.map_toArray, List.map_cons, List.map_nil]); first | done | rfl | (simp only [List.length_drop, List.length_take]; rfl)) ?_; (with_reducible refine (spec_l20Rd_odd.calls kj116 g s0_0 t224 a2 true t229 w0 _ ?side1 ?side2 A123.out).mono ?_); (case side1 => repeat (first | (with_reducible first | exact HI0.out | apply IsS68.alloc | apply IsS68.drewN | apply IsS68.drew | apply IsS68.set_1) | exact HI0.out)); (case side2 => repeat (first | (with_reducible first | exact HB.out | apply below_alloc | apply pw_below_drewN | apply below_drew1 | refine below_set ?_ (IsS68.ge HI0.out)) | exact HB.out)); rintro e w127 ⟨rfl, hi, hb, hk⟩; refine ⟨_, rfl, ?_⟩; have n0_ := Aside0.mk (Kd.R_mono (Kd.R_keep (IsS68.apart (show IsS68 w0 _ g s0_0 t224 from by repeat (first | (with_reducible first | exact HI0.out | apply IsS68.alloc | apply IsS68.drewN | apply IsS68.drew | apply IsS68.set_1) | exact HI0.out)) (by (with_reducible repeat apply Kd.R_alloc); exact HO_13.out) (by decide)) hk (fun _ h => h.2)) (fun _ h => h.1)); have n1_ := Aside0.mk (KeepBut.trans (by repeat (first | (with_reducible first | exact HK.out | apply KeepBut.set_ | apply keep_drewN | apply keep_drew | apply keep_alloc) | exact HK.out)) hk (.inl rfl)); have n2_ := Aside0.mk (hb); have n3_ := Aside0.mk (hi); clear HO_13; clear HK; clear HB; clear HI0; have HO_13 := n0_; have HK := n1_; have HB := n2_; have HI0 := n3_; clear n0_ n1_ n2_ n3_; (try clear hb); (try clear hb2); (try clear hk); (try clear hi)) | ((with_reducible refine gate_callee (f := 64) rfl ?_); refine goesL_ (some 121) rfl rfl Try.func64 (by kernel_rfl) rfl #[.pointer (some ⟨g, 0, none⟩), .int .i64 3] rfl (by (try simp only [List.map_toArray, List.map_cons, List.map_nil]); first | done | rfl | (simp only [List.length_drop, List.length_take]; rfl)) ?_; (with_reducible refine (spec_l20Rd_pick.calls kj116 g s0_0 t229 3 t230 t231 w0 _ ?side1 ?side2 A125.out).mono ?_); (case side1 => repeat (first | (with_reducible first | exact HI0.out | apply IsS68.alloc | apply IsS68.drewN | apply IsS68.drew | apply IsS68.set_1) | exact HI0.out)); (case side2 => repeat (first | (with_reducible first | exact HB.out | apply below_alloc | apply pw_below_drewN | apply below_drew1 | refine below_set ?_ (IsS68.ge HI0.out)) | exact HB.out)); rintro e w128 ⟨rfl, hi, hb, hk⟩; refine ⟨_, rfl, ?_⟩; have n0_ := Aside0.mk (Kd.R_mono (Kd.R_keep (IsS68.apart (show IsS68 w0 _ g s0_0 t229 from by repeat (first | (with_reducible first | exact HI0.out | apply IsS68.alloc | apply IsS68.drewN | apply IsS68.drew | apply IsS68.set_1) | exact HI0.out)) (by (with_reducible repeat apply Kd.R_alloc); exact HO_13.out) (by decide)) hk (fun _ h => h.2)) (fun _ h => h.1)); have n1_ := Aside0.mk (KeepBut.trans (by repeat (first | (with_reducible first | exact HK.out | apply KeepBut.set_ | apply keep_drewN | apply keep_drew | apply keep_alloc) | exact HK.out)) hk (.inl rfl)); have n2_ := Aside0.mk (hb); have n3_ := Aside0.mk (hi); clear HO_13; clear HK; clear HB; clear HI0; have HO_13 := n0_; have HK := n1_; have HB := n2_; have HI0 := n3_; clear n0_ n1_ n2_ n3_; (try clear hb); (try clear hb2); (try clear hk); (try clear hi)) | ((with_reducible refine gate_dst (N := 129) rfl ?_); refine Kd.R_lit k41 _ 41 ?hg (N := 129) ?hd (xs := ([] : List (S41))) (inner := []) (ok := fun _ => True) (okp := fun _ => True) ?hr ?hp (fun _ hk => hk) trivial (Below.refl _ _) (Nat.le_refl _) (by simp) ?_; (case hd => rfl); (case hg => rfl); (case hr => first | (go_simp; done) | (go_simp; rfl)); (case hp => exact (Reps.none _ _)); intro v233 w129 ho130 hb hg_ hnew_; clear hg_ hnew_; (first | rw [← Ny232.out] at ho130 | (simp only [Int.reduceToNat] at ho130; rw [← Ny232.out] at ho130)); have n0_ := Aside0.mk (Kd.R_elder' (by (with_reducible repeat apply Kd.R_alloc); exact HO_13.out) (Kd.R_base ho130) hb); have n1_ := Aside0.mk (Kd.R_lower (Kd.R_new' ho130 (Kd.R_lt (by (with_reducible repeat apply Kd.R_alloc); exact HO_13.out))) (keep_size (w := w) (g := g) (row := none) (by repeat (first | (with_reducible first | exact HK.out | apply KeepBut.set_ | apply keep_drewN | apply keep_drew | apply keep_alloc) | exact HK.out)))); have n2_ := Aside0.mk (IsS68.below (by repeat (first | (with_reducible first | exact HI0.out | apply IsS68.alloc | apply IsS68.drewN | apply IsS68.drew | apply IsS68.set_1) | exact HI0.out)) hb); have n3_ := Aside0.mk (KeepBut.trans (by repeat (first | (with_reducible first | exact HK.out | apply KeepBut.set_ | apply keep_drewN | apply keep_drew | apply keep_alloc) | exact HK.out)) (KeepBut.of_below hb g none) (.inl rfl)); have n4_ := Aside0.mk (below_step (by repeat (first | (with_reducible first | exact HB.out | apply below_alloc | apply pw_below_drewN | apply below_drew1 | refine below_set ?_ (IsS68.ge HI0.out)) | exact HB.out)) hb); clear HO_13; clear HI0; clear HK; clear HB; have HO_13 := n0_; have HO234 := n1_; have HI0 := n2_; have HK := n3_; have HB := n4_; clear n0_ n1_ n2_ n3_ n4_; clear hb ho130))
            go_ret
            exact ⟨_, by first | rfl | (simp [errW_none, errW_some] <;> rfl) | (simp only [← hji4, ← hji5]; first | rfl | (simp [errW_none, errW_some] <;> rfl)) | (simp [*, errW_none, errW_some] <;> rfl), by (with_reducible repeat apply Kd.R_alloc); exact Kd.R_mono HO234.out (fun _ hk => trivial), by repeat (first | (with_reducible first | exact HI0.out | apply IsS68.alloc | apply IsS68.drewN | apply IsS68.drew | apply IsS68.set_1) | exact HI0.out), by repeat (first | (with_reducible first | exact HB.out | apply below_alloc | apply pw_below_drewN | apply below_drew1 | refine below_set ?_ (IsS68.ge HI0.out)) | exact HB.out), by repeat (first | (with_reducible first | exact HK.out | apply KeepBut.set_ | apply keep_drewN | apply keep_drew | apply keep_alloc) | exact HK.out)⟩
           ·rw [if_neg c126] at H
            have c126b0 : (t230 == 0) = false := beq_eq_false_iff_ne.mpr c126
            have c126b1 : (t230 != 0) = true := bne_iff_ne.mpr c126
            by_cases c131 : t230 = 1
            ·rw [if_pos c131] at H
             have c131b0 : (t230 == 1) = true := beq_iff_eq.mpr c131
             have c131b1 : (t230 != 1) = false := bne_eq_false_iff_eq.mpr c131
             clear c131
             by_cases c132 : x13_116.length < 8796093022208
             ·rw [if_pos c132] at H
              have LMc132 := Aside0.mk c132
              clear c132
              obtain ⟨y235, hy235⟩ : ∃ y_ : List (S41), y_ = (x13_116 ++ [(⟨5, 0⟩ : S41)]) := ⟨_, rfl⟩
              replace H : (some (y235, t231)) = some (r1, r2) := by first | (rw [hy235]; with_reducible exact H) | (have H2_ := (Option.bind_some _ _).symm.trans H; rw [hy235]; with_reducible exact H2_) | (have H2_ := (Option.bind_some _ _).symm.trans H; with_reducible exact H2_) | with_reducible exact H | (rw [hy235]; exact H) | exact H
              have Ny235 := Aside0.mk hy235
              clear hy235
              simp only [Option.some.injEq, Prod.mk.injEq] at H
              obtain ⟨rfl, rfl⟩ := H
              go_wp2_with (first | ((with_reducible refine gate_callee (f := 69) rfl ?_); refine goesL_ (some 119) rfl rfl Try.func69 (by kernel_rfl) rfl #[.pointer (some ⟨g, 0, none⟩), .int .i64 a2] rfl (by (try simp only [List.map_toArray, List.map_cons, List.map_nil]); first | done | rfl | (simp only [List.length_drop, List.length_take]; rfl)) ?_; (with_reducible refine (spec_l20Rd_odd.calls kj116 g s0_0 t224 a2 true t229 w0 _ ?side1 ?side2 A123.out).mono ?_); (case side1 => repeat (first | (with_reducible first | exact HI0.out | apply IsS68.alloc | apply IsS68.drewN | apply IsS68.drew | apply IsS68.set_1) | exact HI0.out)); (case side2 => repeat (first | (with_reducible first | exact HB.out | apply below_alloc | apply pw_below_drewN | apply below_drew1 | refine below_set ?_ (IsS68.ge HI0.out)) | exact HB.out)); rintro e w133 ⟨rfl, hi, hb, hk⟩; refine ⟨_, rfl, ?_⟩; have n0_ := Aside0.mk (Kd.R_mono (Kd.R_keep (IsS68.apart (show IsS68 w0 _ g s0_0 t224 from by repeat (first | (with_reducible first | exact HI0.out | apply IsS68.alloc | apply IsS68.drewN | apply IsS68.drew | apply IsS68.set_1) | exact HI0.out)) (by (with_reducible repeat apply Kd.R_alloc); exact HO_13.out) (by decide)) hk (fun _ h => h.2)) (fun _ h => h.1)); have n1_ := Aside0.mk (KeepBut.trans (by repeat (first | (with_reducible first | exact HK.out | apply KeepBut.set_ | apply keep_drewN | apply keep_drew | apply keep_alloc) | exact HK.out)) hk (.inl rfl)); have n2_ := Aside0.mk (hb); have n3_ := Aside0.mk (hi); clear HO_13; clear HK; clear HB; clear HI0; have HO_13 := n0_; have HK := n1_; have HB := n2_; have HI0 := n3_; clear n0_ n1_ n2_ n3_; (try clear hb); (try clear hb2); (try clear hk); (try clear hi)) | ((with_reducible refine gate_callee (f := 64) rfl ?_); refine goesL_ (some 121) rfl rfl Try.func64 (by kernel_rfl) rfl #[.pointer (some ⟨g, 0, none⟩), .int .i64 3] rfl (by (try simp only [List.map_toArray, List.map_cons, List.map_nil]); first | done | rfl | (simp only [List.length_drop, List.length_take]; rfl)) ?_; (with_reducible refine (spec_l20Rd_pick.calls kj116 g s0_0 t229 3 t230 t231 w0 _ ?side1 ?side2 A125.out).mono ?_); (case side1 => repeat (first | (with_reducible first | exact HI0.out | apply IsS68.alloc | apply IsS68.drewN | apply IsS68.drew | apply IsS68.set_1) | exact HI0.out)); (case side2 => repeat (first | (with_reducible first | exact HB.out | apply below_alloc | apply pw_below_drewN | apply below_drew1 | refine below_set ?_ (IsS68.ge HI0.out)) | exact HB.out)); rintro e w134 ⟨rfl, hi, hb, hk⟩; refine ⟨_, rfl, ?_⟩; have n0_ := Aside0.mk (Kd.R_mono (Kd.R_keep (IsS68.apart (show IsS68 w0 _ g s0_0 t229 from by repeat (first | (with_reducible first | exact HI0.out | apply IsS68.alloc | apply IsS68.drewN | apply IsS68.drew | apply IsS68.set_1) | exact HI0.out)) (by (with_reducible repeat apply Kd.R_alloc); exact HO_13.out) (by decide)) hk (fun _ h => h.2)) (fun _ h => h.1)); have n1_ := Aside0.mk (KeepBut.trans (by repeat (first | (with_reducible first | exact HK.out | apply KeepBut.set_ | apply keep_drewN | apply keep_drew | apply keep_alloc) | exact HK.out)) hk (.inl rfl)); have n2_ := Aside0.mk (hb); have n3_ := Aside0.mk (hi); clear HO_13; clear HK; clear HB; clear HI0; have HO_13 := n0_; have HK := n1_; have HB := n2_; have HI0 := n3_; clear n0_ n1_ n2_ n3_; (try clear hb); (try clear hb2); (try clear hk); (try clear hi)) | ((with_reducible refine gate_builtin (b := .append) (xs := #[.tmp 132, .tmp 134]) rfl ?_); at_builtin; refine Kd.R_append k41 w.heap.size rfl (.tmp 132) (.tmp 134) 23 41 (.agg #[(.int .i64 0), (.int .i64 0)]) 16 rfl Try.underlying23 info41 rfl (by decide) (by omega) u13 x13_116 (⟨5, 0⟩ : S41) [.int .i64 5, .int .i64 0] (fun _ => True) (fun _ => False) rfl rfl ?aP (fun _ hk => hk.elim) ?aF ?aO (Below.refl _ _) ?aS ?aL ?_; (case aP => exact k41_mkM _ _ _ (⟨5, 0⟩ : S41)); (case aF => exact (fun _ _ => trivial)); (case aO => exact (by (with_reducible repeat apply Kd.R_alloc); exact HO_13.out)); (case aS => exact (keep_size (w := w) (g := g) (row := none) (by repeat (first | (with_reducible first | exact HK.out | apply KeepBut.set_ | apply keep_drewN | apply keep_drew | apply keep_alloc) | exact HK.out)))); (case aL => have := LMc132.out; omega); intro v236 w135 ho hb hg hat; rw [← Ny235.out] at ho; have n0_ := Aside0.mk (IsS68.grown (by repeat (first | (with_reducible first | exact HI0.out | apply IsS68.alloc | apply IsS68.drewN | apply IsS68.drew | apply IsS68.set_1) | exact HI0.out)) hg (IsS68.own_ne HI0.out HO_13.out (by decide))); have n1_ := Aside0.mk (below_weaken (by repeat (first | (with_reducible first | exact HB.out | apply below_alloc | apply pw_below_drewN | apply below_drew1 | refine below_set ?_ (IsS68.ge HI0.out)) | exact HB.out)) HL.out hb); have n2_ := Aside0.mk (KeepBut.trans (by repeat (first | (with_reducible first | exact HK.out | apply KeepBut.set_ | apply keep_drewN | apply keep_drew | apply keep_alloc) | exact HK.out)) (KeepBut.of_grown hg g) (Kd.R_base2 HO_13.out)); have n3_ := Aside0.mk (ho); clear HI0; clear HB; clear HK; clear HO_13; have HI0 := n0_; have HB := n1_; have HK := n2_; have HO237 := n3_; clear n0_ n1_ n2_ n3_; clear ho hb hg hat))
              go_ret
              exact ⟨_, by first | rfl | (simp [errW_none, errW_some] <;> rfl) | (simp only [← hji4, ← hji5]; first | rfl | (simp [errW_none, errW_some] <;> rfl)) | (simp [*, errW_none, errW_some] <;> rfl), by (with_reducible repeat apply Kd.R_alloc); exact HO237.out, by repeat (first | (with_reducible first | exact HI0.out | apply IsS68.alloc | apply IsS68.drewN | apply IsS68.drew | apply IsS68.set_1) | exact HI0.out), by repeat (first | (with_reducible first | exact HB.out | apply below_alloc | apply pw_below_drewN | apply below_drew1 | refine below_set ?_ (IsS68.ge HI0.out)) | exact HB.out), by repeat (first | (with_reducible first | exact HK.out | apply KeepBut.set_ | apply keep_drewN | apply keep_drew | apply keep_alloc) | exact HK.out)⟩
             ·rw [if_neg c132] at H
              exact absurd H (by simp)
            ·rw [if_neg c131] at H
             have c131b0 : (t230 == 1) = false := beq_eq_false_iff_ne.mpr c131
             have c131b1 : (t230 != 1) = true := bne_iff_ne.mpr c131
             replace H := Option.bind_eq_some_iff.mp H
             obtain ⟨⟨t238, t239⟩, A1360, H⟩ := H
             replace H : (if 0 < (x13_116.length : Int) then (some ((x13_116.set (0 : Int).toNat (⟨t238, 6⟩ : S41)), t239)) else (none)) = some (r1, r2) := H
             have A136 := Aside0.mk A1360
             clear A1360
             by_cases c137 : 0 < (x13_116.length : Int)
             ·rw [if_pos c137] at H
              have c137b0 : decide (0 < (x13_116.length : Int)) = true := decide_eq_true c137
              have c137b1 : decide (0 < x13_116.length) = true := decide_eq_true (by omega)
              clear c137
              obtain ⟨y240, hy240⟩ : ∃ y_ : List (S41), y_ = (x13_116.set (0 : Int).toNat (⟨t238, 6⟩ : S41)) := ⟨_, rfl⟩
              replace H : (some (y240, t239)) = some (r1, r2) := by first | (rw [hy240]; with_reducible exact H) | (have H2_ := (Option.bind_some _ _).symm.trans H; rw [hy240]; with_reducible exact H2_) | (have H2_ := (Option.bind_some _ _).symm.trans H; with_reducible exact H2_) | with_reducible exact H | (rw [hy240]; exact H) | exact H
              have Ny240 := Aside0.mk hy240
              clear hy240
              simp only [Option.some.injEq, Prod.mk.injEq] at H
              obtain ⟨rfl, rfl⟩ := H
              go_wp2_with (first | ((with_reducible refine gate_callee (f := 69) rfl ?_); refine goesL_ (some 119) rfl rfl Try.func69 (by kernel_rfl) rfl #[.pointer (some ⟨g, 0, none⟩), .int .i64 a2] rfl (by (try simp only [List.map_toArray, List.map_cons, List.map_nil]); first | done | rfl | (simp only [List.length_drop, List.length_take]; rfl)) ?_; (with_reducible refine (spec_l20Rd_odd.calls kj116 g s0_0 t224 a2 true t229 w0 _ ?side1 ?side2 A123.out).mono ?_); (case side1 => repeat (first | (with_reducible first | exact HI0.out | apply IsS68.alloc | apply IsS68.drewN | apply IsS68.drew | apply IsS68.set_1) | exact HI0.out)); (case side2 => repeat (first | (with_reducible first | exact HB.out | apply below_alloc | apply pw_below_drewN | apply below_drew1 | refine below_set ?_ (IsS68.ge HI0.out)) | exact HB.out)); rintro e w139 ⟨rfl, hi, hb, hk⟩; refine ⟨_, rfl, ?_⟩; have n0_ := Aside0.mk (Kd.R_mono (Kd.R_keep (IsS68.apart (show IsS68 w0 _ g s0_0 t224 from by repeat (first | (with_reducible first | exact HI0.out | apply IsS68.alloc | apply IsS68.drewN | apply IsS68.drew | apply IsS68.set_1) | exact HI0.out)) (by (with_reducible repeat apply Kd.R_alloc); exact HO_13.out) (by decide)) hk (fun _ h => h.2)) (fun _ h => h.1)); have n1_ := Aside0.mk (KeepBut.trans (by repeat (first | (with_reducible first | exact HK.out | apply KeepBut.set_ | apply keep_drewN | apply keep_drew | apply keep_alloc) | exact HK.out)) hk (.inl rfl)); have n2_ := Aside0.mk (hb); have n3_ := Aside0.mk (hi); clear HO_13; clear HK; clear HB; clear HI0; have HO_13 := n0_; have HK := n1_; have HB := n2_; have HI0 := n3_; clear n0_ n1_ n2_ n3_; (try clear hb); (try clear hb2); (try clear hk); (try clear hi)) | ((with_reducible refine gate_callee (f := 64) rfl ?_); refine goesL_ (some 121) rfl rfl Try.func64 (by kernel_rfl) rfl #[.pointer (some ⟨g, 0, none⟩), .int .i64 3] rfl (by (try simp only [List.map_toArray, List.map_cons, List.map_nil]); first | done | rfl | (simp only [List.length_drop, List.length_take]; rfl)) ?_; (with_reducible refine (spec_l20Rd_pick.calls kj116 g s0_0 t229 3 t230 t231 w0 _ ?side1 ?side2 A125.out).mono ?_); (case side1 => repeat (first | (with_reducible first | exact HI0.out | apply IsS68.alloc | apply IsS68.drewN | apply IsS68.drew | apply IsS68.set_1) | exact HI0.out)); (case side2 => repeat (first | (with_reducible first | exact HB.out | apply below_alloc | apply pw_below_drewN | apply below_drew1 | refine below_set ?_ (IsS68.ge HI0.out)) | exact HB.out)); rintro e w140 ⟨rfl, hi, hb, hk⟩; refine ⟨_, rfl, ?_⟩; have n0_ := Aside0.mk (Kd.R_mono (Kd.R_keep (IsS68.apart (show IsS68 w0 _ g s0_0 t229 from by repeat (first | (with_reducible first | exact HI0.out | apply IsS68.alloc | apply IsS68.drewN | apply IsS68.drew | apply IsS68.set_1) | exact HI0.out)) (by (with_reducible repeat apply Kd.R_alloc); exact HO_13.out) (by decide)) hk (fun _ h => h.2)) (fun _ h => h.1)); have n1_ := Aside0.mk (KeepBut.trans (by repeat (first | (with_reducible first | exact HK.out | apply KeepBut.set_ | apply keep_drewN | apply keep_drew | apply keep_alloc) | exact HK.out)) hk (.inl rfl)); have n2_ := Aside0.mk (hb); have n3_ := Aside0.mk (hi); clear HO_13; clear HK; clear HB; clear HI0; have HO_13 := n0_; have HK := n1_; have HB := n2_; have HI0 := n3_; clear n0_ n1_ n2_ n3_; (try clear hb); (try clear hb2); (try clear hk); (try clear hi)) | ((with_reducible refine gate_callee (f := 64) rfl ?_); refine goesL_ (some 124) rfl rfl Try.func64 (by kernel_rfl) rfl #[.pointer (some ⟨g, 0, none⟩), .int .i64 2] rfl (by (try simp only [List.map_toArray, List.map_cons, List.map_nil]); first | done | rfl | (simp only [List.length_drop, List.length_take]; rfl)) ?_; (with_reducible refine (spec_l20Rd_pick.calls kj116 g s0_0 t231 2 t238 t239 w0 _ ?side1 ?side2 A136.out).mono ?_); (case side1 => repeat (first | (with_reducible first | exact HI0.out | apply IsS68.alloc | apply IsS68.drewN | apply IsS68.drew | apply IsS68.set_1) | exact HI0.out)); (case side2 => repeat (first | (with_reducible first | exact HB.out | apply below_alloc | apply pw_below_drewN | apply below_drew1 | refine below_set ?_ (IsS68.ge HI0.out)) | exact HB.out)); rintro e w141 ⟨rfl, hi, hb, hk⟩; refine ⟨_, rfl, ?_⟩; have n0_ := Aside0.mk (Kd.R_mono (Kd.R_keep (IsS68.apart (show IsS68 w0 _ g s0_0 t231 from by repeat (first | (with_reducible first | exact HI0.out | apply IsS68.alloc | apply IsS68.drewN | apply IsS68.drew | apply IsS68.set_1) | exact HI0.out)) (by (with_reducible repeat apply Kd.R_alloc); exact HO_13.out) (by decide)) hk (fun _ h => h.2)) (fun _ h => h.1)); have n1_ := Aside0.mk (KeepBut.trans (by repeat (first | (with_reducible first | exact HK.out | apply KeepBut.set_ | apply keep_drewN | apply keep_drew | apply keep_alloc) | exact HK.out)) hk (.inl rfl)); have n2_ := Aside0.mk (hb); have n3_ := Aside0.mk (hi); clear HO_13; clear HK; clear HB; clear HI0; have HO_13 := n0_; have HK := n1_; have HB := n2_; have HI0 := n3_; clear n0_ n1_ n2_ n3_; (try clear hb); (try clear hb2); (try clear hk); (try clear hi); have p138 : 0 ≤ (0 : Int) := (by omega); have q138 : (0 : Int) < ((x13_116.length : Int) : Int) := of_decide_eq_true (by first | (with_reducible assumption) | assumption); have qi138 : (0 < x13_116.length) = True := eq_true (by omega); obtain ⟨go138, co138, eo138, gb138, gl138, cl138, HG138⟩ := Kd.R_form HO_13.out (by omega); (first | cases eo138 | (injection eo138 with ea_ en_ ec_; (first | subst ea_ | (injection ea_ with ea_; subst ea_)); subst ec_; clear en_)); have GB138 := Aside0.mk gb138; have GG138 := Aside0.mk HG138; clear gb138 gl138 HG138; obtain ⟨ce138, hcl138, hM138, hcc138, hfr138⟩ := Kd.R_elem HO_13.out z41 (0 : Int) p138 q138; obtain rfl := k41_openM hM138; have hx138_0 : w141.cell? ⟨go138, (0 : Int).toNat * 2, none⟩ = some (.int .i64 ((rd_T41 x13_116 0).f0)) := hcc138 0 _ rfl; have hx138_1 : w141.cell? ⟨go138, (0 : Int).toNat * 2 + 1, none⟩ = some (.int .i64 ((rd_T41 x13_116 0).f1)) := hcc138 1 _ rfl; have hf138_0 : w141.frozen? ⟨go138, (0 : Int).toNat * 2, none⟩ = false := hfr138 0; have hf138_1 : w141.frozen? ⟨go138, (0 : Int).toNat * 2 + 1, none⟩ = false := hfr138 1; clear hcl138 hcc138 hfr138; (try clear hM138); skip; (try rw [show ((0 : Int)).toNat = 0 from rfl] at hx138_0); (try simp only [Nat.reduceMul, Nat.zero_mul, Nat.zero_add, Nat.reduceAdd] at hx138_0); (try rw [show ((0 : Int)).toNat = 0 from rfl] at hf138_0); (try simp only [Nat.reduceMul, Nat.zero_mul, Nat.zero_add, Nat.reduceAdd] at hf138_0); (try rw [show ((0 : Int)).toNat = 0 from rfl] at hx138_1); (try simp only [Nat.reduceMul, Nat.zero_mul, Nat.zero_add, Nat.reduceAdd] at hx138_1); (try rw [show ((0 : Int)).toNat = 0 from rfl] at hf138_1); (try simp only [Nat.reduceMul, Nat.zero_mul, Nat.zero_add, Nat.reduceAdd] at hf138_1); replace p138 := eq_true p138; replace q138 := eq_true q138; have HX142 := Aside0.mk (show Kd.R k41 41 w141 w.heap.size (fun _ => True) (.slice (some ⟨go138, 0, none⟩) x13_116.length co138) x13_116 from (by (with_reducible repeat apply Kd.R_alloc); exact HO_13.out)); obtain ⟨ce142, hcl142, hM142, hcc142, hfr142⟩ := Kd.R_elem HX142.out z41 (0 : Int) (by omega) (by have h_ : (0 : Int) < ((x13_116.length : Int) : Int) := of_decide_eq_true (by first | (with_reducible assumption) | assumption); first | exact h_ | (have e_ := (Kd.R_reads' HO_13.out).1; omega) | simpa using h_); obtain rfl := k41_openM hM142; have HP142 := Kd.R_seg HX142.out (0 : Int) (by omega) (by have h_ : (0 : Int) < ((x13_116.length : Int) : Int) := of_decide_eq_true (by first | (with_reducible assumption) | assumption); first | exact h_ | (have e_ := (Kd.R_reads' HO_13.out).1; omega) | simpa using h_) (seg := [.int .i64 t238, .int .i64 6]) (j := 0) hcl142 hcc142 (show 2 ≤ 2 from by decide) (x' := (⟨t238, 6⟩ : S41)) (k41_mkM _ _ _ (⟨t238, 6⟩ : S41) ) (fun _ hk => hk); have hx142_0 := hcc142 0 _ rfl; (try simp only [show (k41).sz = 2 from rfl, Nat.mul_one, Nat.add_zero] at hx142_0); (try rw [show ((0 : Int)).toNat = 0 from rfl] at hx142_0); (try simp only [Nat.reduceMul, Nat.zero_mul, Nat.zero_add, Nat.reduceAdd] at hx142_0); have hf142_0 := hfr142 0; (try simp only [show (k41).sz = 2 from rfl, Nat.mul_one, Nat.add_zero] at hf142_0); (try rw [show ((0 : Int)).toNat = 0 from rfl] at hf142_0); (try simp only [Nat.reduceMul, Nat.zero_mul, Nat.zero_add, Nat.reduceAdd] at hf142_0); have hx142_1 := hcc142 1 _ rfl; (try simp only [show (k41).sz = 2 from rfl, Nat.mul_one, Nat.add_zero] at hx142_1); (try rw [show ((0 : Int)).toNat = 0 from rfl] at hx142_1); (try simp only [Nat.reduceMul, Nat.zero_mul, Nat.zero_add, Nat.reduceAdd] at hx142_1); have hf142_1 := hfr142 1; (try simp only [show (k41).sz = 2 from rfl, Nat.mul_one, Nat.add_zero] at hf142_1); (try rw [show ((0 : Int)).toNat = 0 from rfl] at hf142_1); (try simp only [Nat.reduceMul, Nat.zero_mul, Nat.zero_add, Nat.reduceAdd] at hf142_1); clear hcl142 hcc142 hfr142; (try clear hM142); skip) | ((with_reducible refine gate_store (t := 41) (p := 126) rfl ?_); refine store_event (t := 41) (p := 126) (v := ?vo_w143) (w1 := ((w141.setCell ⟨go138, 0, none⟩ (.int .i64 t238)).setCell ⟨go138, 1, none⟩ (.int .i64 6))) ?hg ?ho ?hn ?hr ?_; (case ho => rfl); (case hg => rfl); (case hn => rfl); (case hr => first | (go_simp; done) | (go_simp; rfl)); intro w143 hw; have hg : w141.grownBy w143 (some go138) := (by rw [hw]; exact HP142.2); have hp_ : Kd.R k41 41 w143 w.heap.size (fun _ => True) (.slice (some ⟨go138, 0, none⟩) x13_116.length co138) y240 := (by rw [hw, Ny240.out]; exact HP142.1); clear HP142; have n0_ := Aside0.mk (hp_); have n1_ := Aside0.mk (IsS68.grown (by repeat (first | (with_reducible first | exact HI0.out | apply IsS68.alloc | apply IsS68.drewN | apply IsS68.drew | apply IsS68.set_1) | exact HI0.out)) hg (IsS68.own_ne HI0.out HO_13.out (by decide))); have n2_ := Aside0.mk ((by rw [hw]; exact below_set (below_set (HB.out) (Nat.le_trans HL.out GB138.out)) (Nat.le_trans HL.out GB138.out) : Below w0.heap.size w0 w143)); have n3_ := Aside0.mk (KeepBut.trans (by repeat (first | (with_reducible first | exact HK.out | apply KeepBut.set_ | apply keep_drewN | apply keep_drew | apply keep_alloc) | exact HK.out)) (KeepBut.of_grown hg g) (Kd.R_base2 HO_13.out)); clear HO_13; clear HI0; clear HB; clear HK; have HO_13 := n0_; have HI0 := n1_; have HB := n2_; have HK := n3_; clear n0_ n1_ n2_ n3_; clear hg hw hp_))
              go_ret
              exact ⟨_, by first | rfl | (simp [errW_none, errW_some] <;> rfl) | (simp only [← hji4, ← hji5]; first | rfl | (simp [errW_none, errW_some] <;> rfl)) | (simp [*, errW_none, errW_some] <;> rfl), by (with_reducible repeat apply Kd.R_alloc); exact HO_13.out, by repeat (first | (with_reducible first | exact HI0.out | apply IsS68.alloc | apply IsS68.drewN | apply IsS68.drew | apply IsS68.set_1) | exact HI0.out), by repeat (first | (with_reducible first | exact HB.out | apply below_alloc | apply pw_below_drewN | apply below_drew1 | refine below_set ?_ (IsS68.ge HI0.out)) | exact HB.out), by repeat (first | (with_reducible first | exact HK.out | apply KeepBut.set_ | apply keep_drewN | apply keep_drew | apply keep_alloc) | exact HK.out)⟩
             ·rw [if_neg c137] at H
              exact absurd H (by simp)
          ·replace c124 := Bool.eq_false_iff.mpr c124
           subst c124
           have H1 : (some (x13_116, t229)) = some (r1, r2) := by rw [if_neg (show ¬ (false = true) by decide)] at H; exact H
           clear H
           have H := H1
           clear H1
           simp only [Option.some.injEq, Prod.mk.injEq] at H
           obtain ⟨rfl, rfl⟩ := H
           go_wp2_with (first | ((with_reducible refine gate_callee (f := 69) rfl ?_); refine goesL_ (some 119) rfl rfl Try.func69 (by kernel_rfl) rfl #[.pointer (some ⟨g, 0, none⟩), .int .i64 a2] rfl (by (try simp only [List.map_toArray, List.map_cons, List.map_nil]); first | done | rfl | (simp only [List.length_drop, List.length_take]; rfl)) ?_; (with_reducible refine (spec_l20Rd_odd.calls kj116 g s0_0 t224 a2 false t229 w0 _ ?side1 ?side2 A123.out).mono ?_); (case side1 => repeat (first | (with_reducible first | exact HI0.out | apply IsS68.alloc | apply IsS68.drewN | apply IsS68.drew | apply IsS68.set_1) | exact HI0.out)); (case side2 => repeat (first | (with_reducible first | exact HB.out | apply below_alloc | apply pw_below_drewN | apply below_drew1 | refine below_set ?_ (IsS68.ge HI0.out)) | exact HB.out)); rintro e w144 ⟨rfl, hi, hb, hk⟩; refine ⟨_, rfl, ?_⟩; have n0_ := Aside0.mk (Kd.R_mono (Kd.R_keep (IsS68.apart (show IsS68 w0 _ g s0_0 t224 from by repeat (first | (with_reducible first | exact HI0.out | apply IsS68.alloc | apply IsS68.drewN | apply IsS68.drew | apply IsS68.set_1) | exact HI0.out)) (by (with_reducible repeat apply Kd.R_alloc); exact HO_13.out) (by decide)) hk (fun _ h => h.2)) (fun _ h => h.1)); have n1_ := Aside0.mk (KeepBut.trans (by repeat (first | (with_reducible first | exact HK.out | apply KeepBut.set_ | apply keep_drewN | apply keep_drew | apply keep_alloc) | exact HK.out)) hk (.inl rfl)); have n2_ := Aside0.mk (hb); have n3_ := Aside0.mk (hi); clear HO_13; clear HK; clear HB; clear HI0; have HO_13 := n0_; have HK := n1_; have HB := n2_; have HI0 := n3_; clear n0_ n1_ n2_ n3_; (try clear hb); (try clear hb2); (try clear hk); (try clear hi)))
           go_ret
           exact ⟨_, by first | rfl | (simp [errW_none, errW_some] <;> rfl) | (simp only [← hji4, ← hji5]; first | rfl | (simp [errW_none, errW_some] <;> rfl)) | (simp [*, errW_none, errW_some] <;> rfl), by (with_reducible repeat apply Kd.R_alloc); exact HO_13.out, by repeat (first | (with_reducible first | exact HI0.out | apply IsS68.alloc | apply IsS68.drewN | apply IsS68.drew | apply IsS68.set_1) | exact HI0.out), by repeat (first | (with_reducible first | exact HB.out | apply below_alloc | apply pw_below_drewN | apply below_drew1 | refine below_set ?_ (IsS68.ge HI0.out)) | exact HB.out), by repeat (first | (with_reducible first | exact HK.out | apply KeepBut.set_ | apply keep_drewN | apply keep_drew | apply keep_alloc) | exact HK.out)⟩
       ·rw [if_neg c115] at H
        exact absurd H (by simp)

end Go.Proofs.Ytigkmppgbaoafaa.PFnNotEither
