-- Made by a program of this session (wip/tools/patchprint.py), not by the kit itself.
import Derived.Test.YtfhmafmfaoknlaaPFnReadTermx0
import Derived.Test.YtfhmafmfaoknlaaPFnReadTermx4
import Derived.Test.YtfhmafmfaoknlaaPFnReadTermx5
namespace Go.Proofs.Ytfhmafmfaoknlaa.PFnReadTerm
open Go.RowKit Go.Proofs.YtfhmafmfaoknlaaW.PrintWords Go.Proofs.YtfhmafmfaoknlaaW.PrintLast Go.Proofs.YtfhmafmfaoknlaaW.PrintMore
attribute [local go_sem] max2_int min2_int max_two min_two max_three min_three max_four min_four   -- for this text's walks alone
set_option linter.unusedVariables false
set_option linter.unusedSimpArgs false

attribute [local go_sem] setCell_isSome
/-! ### spec_l20Term: function 61 -/
mutual
def spec_l20Term.l0 : Nat → Int → Int → List (List (S62)) → Int → List Int → Int → Option ((List (S62)) × Int)
 | 0, _, _, _, _, _, _ => none
 | k + 1, x1, x2, x7, x8, x1000, x1001 => if x8 > 0 then ((spec_l20Rd_pick.f k x1000 x1001 4).bind fun bt163 => (if bt163.1 = 0 then ((spec_l20Rd_pick.f k x1000 bt163.2 (wrap64 (x1 + 2))).bind fun bt165 => (if x7.length < 5864062014805 then (spec_l20Term.l0 k x1 x2 (x7 ++ [(([(⟨1, bt165.1⟩ : S62)] : List (S62)))]) (wrap64 (x8 - 1)) x1000 bt165.2) else (none))) else ((spec_l20Rd_pick.f k x1000 bt163.2 x1).bind fun bt173 => (if x7.length < 5864062014805 then (spec_l20Term.l0 k x1 x2 (x7 ++ [(([(⟨0, bt173.1⟩ : S62)] : List (S62)))]) (wrap64 (x8 - 1)) x1000 bt173.2) else (none))))) else (spec_l20Term.l1 k x2 x7 3 x1000 x1001)
def spec_l20Term.l1 : Nat → Int → List (List (S62)) → Int → List Int → Int → Option ((List (S62)) × Int)
 | 0, _, _, _, _, _ => none
 | k + 1, x2, x7, x9, x1000, x1001 => if (x7.length : Int) > 1 then ((spec_l20Rd_pick.f k x1000 x1001 (wrap64 ((x7.length : Int) - 1))).bind fun bt181 => (if x9 > 0 then ((spec_l20Rd_pick.f k x1000 bt181.2 4).bind fun bt183 => (if bt183.1 = 0 then ((some (([] : List (S62)) : List (S62))).bind fun y185 => (if 0 ≤ bt181.1 then (if bt181.1 < (x7.length : Int) then (if y185.length + (rd_L3 x7 bt181.1).length < 8796093022208 then ((some (y185 ++ (rd_L3 x7 bt181.1) : List (S62))).bind fun y189 => (if y189.length < 8796093022208 then (spec_l20Term.l1 k x2 (x7.set (bt181.1 : Int).toNat (y189 ++ [(⟨2, 0⟩ : S62)])) (wrap64 (x9 - 1)) x1000 bt183.2) else (none))) else (none)) else (none)) else (none))) else ((some (([] : List (S62)) : List (S62))).bind fun y196 => (if 0 ≤ bt181.1 then (if bt181.1 < (x7.length : Int) then (if y196.length + (rd_L3 x7 bt181.1).length < 8796093022208 then ((some (y196 ++ (rd_L3 x7 bt181.1) : List (S62))).bind fun y200 => (if 0 ≤ (wrap64 (bt181.1 + 1)) then (if (wrap64 (bt181.1 + 1)) < (x7.length : Int) then (if y200.length + (rd_L3 x7 (wrap64 (bt181.1 + 1))).length < 8796093022208 then ((some (y200 ++ (rd_L3 x7 (wrap64 (bt181.1 + 1))) : List (S62))).bind fun y204 => ((spec_l20Rd_pick.f k x1000 bt183.2 3).bind fun bt207 => (if y204.length < 8796093022208 then ((some (([] : List (List (S62))) : List (List (S62)))).bind fun y212 => (if bt181.1 ≤ (x7.length : Int) then ((some (x7.take (bt181.1 : Int).toNat : List (List (S62)))).bind fun y215 => (if y212.length + y215.length < 5864062014805 then ((some (y212 ++ y215 : List (List (S62)))).bind fun y219 => (if y219.length < 5864062014805 then ((some (y219 ++ [(y204 ++ [(⟨wrap64 (3 + bt207.1), 0⟩ : S62)])] : List (List (S62)))).bind fun y222 => (if 0 ≤ (wrap64 (bt181.1 + 2)) then (if (wrap64 (bt181.1 + 2)) ≤ (x7.length : Int) then ((some (x7.drop ((wrap64 (bt181.1 + 2)) : Int).toNat : List (List (S62)))).bind fun y225 => (if y222.length + y225.length < 5864062014805 then (spec_l20Term.l1 k x2 (y222 ++ y225) x9 x1000 bt207.2) else (none))) else (none)) else (none))) else (none))) else (none))) else (none))) else (none)))) else (none)) else (none)) else (none))) else (none)) else (none)) else (none))))) else ((some (([] : List (S62)) : List (S62))).bind fun y232 => (if 0 ≤ bt181.1 then (if bt181.1 < (x7.length : Int) then (if y232.length + (rd_L3 x7 bt181.1).length < 8796093022208 then ((some (y232 ++ (rd_L3 x7 bt181.1) : List (S62))).bind fun y236 => (if 0 ≤ (wrap64 (bt181.1 + 1)) then (if (wrap64 (bt181.1 + 1)) < (x7.length : Int) then (if y236.length + (rd_L3 x7 (wrap64 (bt181.1 + 1))).length < 8796093022208 then ((some (y236 ++ (rd_L3 x7 (wrap64 (bt181.1 + 1))) : List (S62))).bind fun y240 => ((spec_l20Rd_pick.f k x1000 bt181.2 3).bind fun bt243 => (if y240.length < 8796093022208 then ((some (([] : List (List (S62))) : List (List (S62)))).bind fun y248 => (if bt181.1 ≤ (x7.length : Int) then ((some (x7.take (bt181.1 : Int).toNat : List (List (S62)))).bind fun y251 => (if y248.length + y251.length < 5864062014805 then ((some (y248 ++ y251 : List (List (S62)))).bind fun y255 => (if y255.length < 5864062014805 then ((some (y255 ++ [(y240 ++ [(⟨wrap64 (3 + bt243.1), 0⟩ : S62)])] : List (List (S62)))).bind fun y258 => (if 0 ≤ (wrap64 (bt181.1 + 2)) then (if (wrap64 (bt181.1 + 2)) ≤ (x7.length : Int) then ((some (x7.drop ((wrap64 (bt181.1 + 2)) : Int).toNat : List (List (S62)))).bind fun y261 => (if y258.length + y261.length < 5864062014805 then (spec_l20Term.l1 k x2 (y258 ++ y261) x9 x1000 bt243.2) else (none))) else (none)) else (none))) else (none))) else (none))) else (none))) else (none)))) else (none)) else (none)) else (none))) else (none)) else (none)) else (none))))) else (if 0 < (x7.length : Int) then ((spec_l20Rd_pick.f k x1000 x1001 5).bind fun bt269 => (if bt269.1 = 0 then (if (rd_L3 x7 0).length < 8796093022208 then (spec_l20Term.j2 k x2 ((rd_L3 x7 0) ++ [(⟨2, 0⟩ : S62)]) x1000 bt269.2) else (none)) else (spec_l20Term.j2 k x2 (rd_L3 x7 0) x1000 bt269.2))) else (none))
def spec_l20Term.j2 : Nat → Int → List (S62) → List Int → Int → Option ((List (S62)) × Int)
 | 0, _, _, _, _ => none
 | k + 1, x2, x13, x1000, x1001 => (spec_l20Rd_odd.f k x1000 x1001 x2).bind fun bt274 => (if bt274.1 = true then ((spec_l20Rd_pick.f k x1000 bt274.2 3).bind fun bt276 => (if bt276.1 = 0 then (some ((([] : List (S62))), bt276.2)) else (if bt276.1 = 1 then (if x13.length < 8796093022208 then (some ((x13 ++ [(⟨5, 0⟩ : S62)]), bt276.2)) else (none)) else ((spec_l20Rd_pick.f k x1000 bt276.2 2).bind fun bt284 => (if 0 < (x13.length : Int) then (some ((x13.set (0 : Int).toNat (⟨bt284.1, 6⟩ : S62)), bt284.2)) else (none)))))) else (some (x13, bt274.2)))
end
def spec_l20Term.f (k : Nat) (s0_0 : List Int) (s0_1 : Int) (a1 : Int) (a2 : Int) : Option ((List (S62)) × Int) := (spec_l20Rd_pick.f k s0_0 s0_1 4).bind fun bt161 => (spec_l20Term.l0 k (mn (mx a1 1) 4) a2 (([] : List (List (S62)))) (wrap64 (1 + bt161.1)) s0_0 bt161.2)
theorem spec_l20Term.mono_l : ∀ k, (∀ y0 y1 y2 y3 y4 y5, LeO (spec_l20Term.l0 k y0 y1 y2 y3 y4 y5) (spec_l20Term.l0 (k + 1) y0 y1 y2 y3 y4 y5)) ∧ (∀ y0 y1 y2 y3 y4, LeO (spec_l20Term.l1 k y0 y1 y2 y3 y4) (spec_l20Term.l1 (k + 1) y0 y1 y2 y3 y4)) ∧ (∀ y0 y1 y2 y3, LeO (spec_l20Term.j2 k y0 y1 y2 y3) (spec_l20Term.j2 (k + 1) y0 y1 y2 y3))
 | 0 => ⟨fun _ _ _ _ _ _ r h => by simp [spec_l20Term.l0] at h, fun _ _ _ _ _ r h => by simp [spec_l20Term.l1] at h, fun _ _ _ _ r h => by simp [spec_l20Term.j2] at h⟩
 | k + 1 => by
  obtain ⟨ih0, ih1, ih2⟩ := spec_l20Term.mono_l k
  refine ⟨?_, ?_, ?_⟩
  ·intro y0 y1 y2 y3 y4 y5
   unfold spec_l20Term.l0
   repeat' first
   | (with_reducible exact ih0 _ _ _ _ _ _)
   | (with_reducible exact ih1 _ _ _ _ _)
   | (with_reducible exact ih2 _ _ _ _)
   | (with_reducible exact spec_l20Rd_odd.mono _ _ _ _)
   | (with_reducible exact spec_l20Rd_pick.mono _ _ _ _)
   | (with_reducible exact LeO.refl _)
   | (with_reducible exact LeO.none _)
   | (with_reducible refine LeO.ite ?_ ?_)
   | (with_reducible refine LeO.bind ?_ (fun _ => ?_))
   | exact ih0 _ _ _ _ _ _
   | exact ih1 _ _ _ _ _
   | exact ih2 _ _ _ _
   | exact spec_l20Rd_odd.mono _ _ _ _
   | exact spec_l20Rd_pick.mono _ _ _ _
   | exact LeO.none _
   | refine LeO.ite ?_ ?_
   | refine LeO.bind ?_ (fun _ => ?_)
  ·intro y0 y1 y2 y3 y4
   unfold spec_l20Term.l1
   repeat' first
   | (with_reducible exact ih0 _ _ _ _ _ _)
   | (with_reducible exact ih1 _ _ _ _ _)
   | (with_reducible exact ih2 _ _ _ _)
   | (with_reducible exact spec_l20Rd_odd.mono _ _ _ _)
   | (with_reducible exact spec_l20Rd_pick.mono _ _ _ _)
   | (with_reducible exact LeO.refl _)
   | (with_reducible exact LeO.none _)
   | (with_reducible refine LeO.ite ?_ ?_)
   | (with_reducible refine LeO.bind ?_ (fun _ => ?_))
   | exact ih0 _ _ _ _ _ _
   | exact ih1 _ _ _ _ _
   | exact ih2 _ _ _ _
   | exact spec_l20Rd_odd.mono _ _ _ _
   | exact spec_l20Rd_pick.mono _ _ _ _
   | exact LeO.none _
   | refine LeO.ite ?_ ?_
   | refine LeO.bind ?_ (fun _ => ?_)
  ·intro y0 y1 y2 y3
   unfold spec_l20Term.j2
   repeat' first
   | (with_reducible exact ih0 _ _ _ _ _ _)
   | (with_reducible exact ih1 _ _ _ _ _)
   | (with_reducible exact ih2 _ _ _ _)
   | (with_reducible exact spec_l20Rd_odd.mono _ _ _ _)
   | (with_reducible exact spec_l20Rd_pick.mono _ _ _ _)
   | (with_reducible exact LeO.refl _)
   | (with_reducible exact LeO.none _)
   | (with_reducible refine LeO.ite ?_ ?_)
   | (with_reducible refine LeO.bind ?_ (fun _ => ?_))
   | exact ih0 _ _ _ _ _ _
   | exact ih1 _ _ _ _ _
   | exact ih2 _ _ _ _
   | exact spec_l20Rd_odd.mono _ _ _ _
   | exact spec_l20Rd_pick.mono _ _ _ _
   | exact LeO.none _
   | refine LeO.ite ?_ ?_
   | refine LeO.bind ?_ (fun _ => ?_)
theorem spec_l20Term.mono : ∀ a0 a1 a2 a3 k, LeO (spec_l20Term.f k a0 a1 a2 a3) (spec_l20Term.f (k + 1) a0 a1 a2 a3) := by
 intro a0 a1 a2 a3 k
 obtain ⟨ih0, ih1, ih2⟩ := spec_l20Term.mono_l k
 unfold spec_l20Term.f
 repeat' first
   | (with_reducible exact ih0 _ _ _ _ _ _)
   | (with_reducible exact ih1 _ _ _ _ _)
   | (with_reducible exact ih2 _ _ _ _)
   | (with_reducible exact spec_l20Rd_odd.mono _ _ _ _)
   | (with_reducible exact spec_l20Rd_pick.mono _ _ _ _)
   | (with_reducible exact LeO.refl _)
   | (with_reducible exact LeO.none _)
   | (with_reducible refine LeO.ite ?_ ?_)
   | (with_reducible refine LeO.bind ?_ (fun _ => ?_))
   | exact ih0 _ _ _ _ _ _
   | exact ih1 _ _ _ _ _
   | exact ih2 _ _ _ _
   | exact spec_l20Rd_odd.mono _ _ _ _
   | exact spec_l20Rd_pick.mono _ _ _ _
   | exact LeO.none _
   | refine LeO.ite ?_ ?_
   | refine LeO.bind ?_ (fun _ => ?_)
def spec_l20Term.T15 : Bool × List (List Nat × List Nat) := (true, [([], []), ([], []), ([], []), ([1, 2], [1, 2]), ([3], [3]), ([0, 4], [0, 4]), ([], []), ([], []), ([7], [7]), ([6, 8], [6, 8]), ([9], [9]), ([5, 10, 5], [5, 10]), ([], []), ([12, 11], [12]), ([13], [13]), ([14], [14]), ([15], [15]), ([11, 16, 13], [11, 16]), ([17, 17, 0, 1, 2, 3, 4, 5, 6, 7, 8, 9, 10, 11, 12, 13, 14, 15, 16, 17], [17])])
def spec_l20Term.B15 : List Nat := [0, 0, 0, 6, 14, 31, 0, 0, 128, 448, 960, 2047, 0, 8191, 16383, 32767, 65535, 131071, 262143]
theorem spec_l20Term.tab15 : rtab .any (opsOf Try.f61 15) = spec_l20Term.T15 := by kernel_rfl
theorem spec_l20Term.bits15 : waitsOk spec_l20Term.T15.2 spec_l20Term.B15 = true := by kernel_rfl
set_option maxHeartbeats 8000000 in
set_option maxRecDepth 100000 in
theorem spec_l20Term.calls (k : Nat) (g : Nat) (s0_0 : List Int) (s0_1 : Int) (a1 : Int) (a2 : Int) (r1 : List (S62)) (r2 : Int) (w0 w : World) (hI : IsS103 w0 w g s0_0 s0_1) (hB : Below w0.heap.size w0 w) (h : spec_l20Term.f k s0_0 s0_1 a1 a2 = some (r1, r2)) :
  Calls Try.prog 61 #[.pointer (some ⟨g, 0, none⟩), .int .i64 a1, .int .i64 a2] w fun e w' => ∃ v0_ : Value, e = .returned (v0_) ∧ Kd.R k62 62 w' w.heap.size (fun _ => True) v0_ r1 ∧ IsS103 w0 w' g s0_0 r2 ∧ Below w0.heap.size w0 w' ∧ KeepBut w w' g none := by
 have hu62 := Try.underlying62
 have HI0 := Aside0.mk hI
 have HK := Aside0.mk (KeepBut.refl w g none)
 have HL := Aside0.mk hB.size
 clear hI
 have HW0 := Aside0.mk hB.size
 have HB := Aside0.mk hB
 clear hB
 have H : ((spec_l20Rd_pick.f k s0_0 s0_1 4).bind fun bt161 => (spec_l20Term.l0 k (mn (mx a1 1) 4) a2 (([] : List (List (S62)))) (wrap64 (1 + bt161.1)) s0_0 bt161.2)) = some (r1, r2) := h
 clear h
 obtain ⟨ji4, hji4⟩ : ∃ j_ : Int, (mx a1 1) = j_ := ⟨_, rfl⟩
 replace H : ((spec_l20Rd_pick.f k s0_0 s0_1 4).bind fun bt161 => (spec_l20Term.l0 k (mn (ji4) 4) a2 (([] : List (List (S62)))) (wrap64 (1 + bt161.1)) s0_0 bt161.2)) = some (r1, r2) := by first | (rw [hji4] at H; exact H) | (simp only [hji4] at H ⊢; exact H)
 (try (have hji4l : 1 ≤ ji4 := by (rw [← hji4]; unfold mx; (repeat' split) <;> omega)))
 (try (have hji4m : 0 ≤ ji4 := by omega))
 have hji4_ : (if a1 < 1 then 1 else a1) = ji4 := hji4
 obtain ⟨ji5, hji5⟩ : ∃ j_ : Int, (mn (ji4) 4) = j_ := ⟨_, rfl⟩
 replace H : ((spec_l20Rd_pick.f k s0_0 s0_1 4).bind fun bt161 => (spec_l20Term.l0 k ji5 a2 (([] : List (List (S62)))) (wrap64 (1 + bt161.1)) s0_0 bt161.2)) = some (r1, r2) := by first | (rw [hji5] at H; exact H) | (simp only [hji5] at H ⊢; exact H)
 have hji5_ : (if 4 < (ji4) then 4 else (ji4)) = ji5 := hji5
 obtain ⟨y158, hy158⟩ : ∃ y_ : List (List (S62)), y_ = (([] : List (List (S62)))) := ⟨_, rfl⟩
 replace H : ((spec_l20Rd_pick.f k s0_0 s0_1 4).bind fun bt161 => (spec_l20Term.l0 k ji5 a2 y158 (wrap64 (1 + bt161.1)) s0_0 bt161.2)) = some (r1, r2) := by first | (rw [hy158]; with_reducible exact H) | (have H2_ := (Option.bind_some _ _).symm.trans H; rw [hy158]; with_reducible exact H2_) | (have H2_ := (Option.bind_some _ _).symm.trans H; with_reducible exact H2_) | with_reducible exact H | (rw [hy158]; exact H) | exact H
 have Ny158 := Aside0.mk hy158
 clear hy158
 replace H := Option.bind_eq_some_iff.mp H
 obtain ⟨⟨t161, t162⟩, A60, H⟩ := H
 replace H : (spec_l20Term.l0 k ji5 a2 y158 (wrap64 (1 + t161)) s0_0 t162) = some (r1, r2) := H
 have A6 := Aside0.mk A60
 clear A60
 have H' := Aside0.mk H
 clear H
 go_enter Try.func61, Try.ntmps61
 go_wp2_with (first | ((with_reducible refine gate_dst (N := 17) rfl ?_); refine Kd.R_lit (Kd.slice 62 k62) _ 25 ?hg (N := 17) ?hd (xs := ([] : List (List (S62)))) (inner := []) (ok := fun _ => True) (okp := fun _ => True) ?hr ?hp (fun _ hk => hk) trivial (Below.refl _ _) (Nat.le_refl _) (by simp) ?_; (case hd => rfl); (case hg => rfl); (case hr => first | (go_simp; done) | (go_simp; rfl)); (case hp => exact (Reps.none _ _)); intro v159 w7 ho8 hb hg_ hnew_; clear hg_ hnew_; (first | rw [← Ny158.out] at ho8 | (simp only [Int.reduceToNat] at ho8; rw [← Ny158.out] at ho8)); have n0_ := Aside0.mk (Kd.R_lower ho8 (keep_size (w := w) (g := g) (row := none) pwl_)); have n1_ := Aside0.mk (IsS103.below pwm_ hb); have n2_ := Aside0.mk (KeepBut.trans pwl_ (KeepBut.of_below hb g none) (.inl rfl)); have n3_ := Aside0.mk (below_step pwo_ hb); clear HI0; clear HK; clear HB; have HO160 := n0_; have HI0 := n1_; have HK := n2_; have HB := n3_; clear n0_ n1_ n2_ n3_; clear hb ho8) | ((with_reducible refine gate_callee (f := 60) rfl ?_); refine goesL_ (some 19) rfl rfl Try.func60 (by kernel_rfl) rfl #[.pointer (some ⟨g, 0, none⟩), .int .i64 4] rfl pwk_ ?_; (with_reducible refine (spec_l20Rd_pick.calls k g s0_0 s0_1 4 t161 t162 w0 _ ?side1 ?side2 A6.out).mono ?_); (case side1 => repeat (first | (with_reducible first | exact HI0.out | apply IsS103.alloc | apply IsS103.drewN | apply IsS103.drew | apply IsS103.set_1) | exact HI0.out)); (case side2 => repeat (first | (with_reducible first | exact HB.out | apply below_alloc | apply pw_below_drewN | apply below_drew1 | refine below_set ?_ (IsS103.ge HI0.out)) | exact HB.out)); rintro e w9 ⟨rfl, hi, hb, hk⟩; refine ⟨_, rfl, ?_⟩; have n0_ := Aside0.mk (Kd.R_mono (Kd.R_keep (IsS103.apart (show IsS103 w0 _ g s0_0 s0_1 from by repeat (first | (with_reducible first | exact HI0.out | apply IsS103.alloc | apply IsS103.drewN | apply IsS103.drew | apply IsS103.set_1) | exact HI0.out)) (by (with_reducible repeat apply Kd.R_alloc); exact HO160.out) (by decide)) hk (fun _ h => h.2)) (fun _ h => h.1)); have n1_ := Aside0.mk (KeepBut.trans pwl_ hk (.inl rfl)); have n2_ := Aside0.mk (hb); have n3_ := Aside0.mk (hi); clear HO160; clear HK; clear HB; clear HI0; have HO160 := n0_; have HK := n1_; have HB := n2_; have HI0 := n3_; clear n0_ n1_ n2_ n3_; (try clear hb); (try clear hb2); (try clear hk); (try clear hi)))
 go_loopg [7, 8] k (fun kq v7 v8 w' => ∃ (x7_1 : List (List (S62))) (x8_1 : Int) (x1001_1 : Int), v8 = .int .i64 x8_1 ∧ Aside0 (spec_l20Term.l0 kq ji5 a2 x7_1 x8_1 s0_0 x1001_1 = some (r1, r2)) ∧ Aside0 (kq ≤ k) ∧ Aside0 (Kd.R (Kd.slice 62 k62) 25 w' w.heap.size (fun _ => True) v7 x7_1) ∧ Aside0 (IsS103 w0 w' g s0_0 x1001_1) ∧ Aside0 (KeepBut w w' g none) ∧ Aside0 (Below w0.heap.size w0 w'))
 case atStart => exact ⟨(y158), (wrap64 (1 + t161)), (t162), pwa_, H', ⟨Nat.le_refl _⟩, ⟨by (with_reducible repeat apply Kd.R_alloc); exact HO160.out⟩, ⟨pwm_⟩, ⟨pwl_⟩, ⟨pwo_⟩⟩
 case round =>
  clear H'
  try clear p2
  try clear c6
  try clear p6
  obtain ⟨x7_1, x8_1, x1001_1, rfl, HA, HK1, HO_7, HI0, HK, HB⟩ := hrel
  cases gk with
  | zero => exact absurd HA.out (by simp [spec_l20Term.l0])
  | succ k1 =>
   have H := HA.out
   clear HA
   simp only [spec_l20Term.l0] at H
   by_cases c10 : x8_1 > 0
   ·rw [if_pos c10] at H
    have c10b0 : decide (0 < x8_1) = true := decide_eq_true c10
    clear c10
    replace H := Option.bind_eq_some_iff.mp H
    obtain ⟨⟨t163, t164⟩, A110, H⟩ := H
    replace H : (if t163 = 0 then ((spec_l20Rd_pick.f k1 s0_0 t164 (wrap64 (ji5 + 2))).bind fun bt165 => (if x7_1.length < 5864062014805 then (spec_l20Term.l0 k1 ji5 a2 (x7_1 ++ [(([(⟨1, bt165.1⟩ : S62)] : List (S62)))]) (wrap64 (x8_1 - 1)) s0_0 bt165.2) else (none))) else ((spec_l20Rd_pick.f k1 s0_0 t164 ji5).bind fun bt173 => (if x7_1.length < 5864062014805 then (spec_l20Term.l0 k1 ji5 a2 (x7_1 ++ [(([(⟨0, bt173.1⟩ : S62)] : List (S62)))]) (wrap64 (x8_1 - 1)) s0_0 bt173.2) else (none)))) = some (r1, r2) := H
    have A11 := Aside0.mk A110
    clear A110
    by_cases c12 : t163 = 0
    ·rw [if_pos c12] at H
     have c12b0 : (t163 == 0) = true := beq_iff_eq.mpr c12
     have c12b1 : (t163 != 0) = false := bne_eq_false_iff_eq.mpr c12
     clear c12
     replace H := Option.bind_eq_some_iff.mp H
     obtain ⟨⟨t165, t166⟩, A130, H⟩ := H
     replace H : (if x7_1.length < 5864062014805 then (spec_l20Term.l0 k1 ji5 a2 (x7_1 ++ [(([(⟨1, t165⟩ : S62)] : List (S62)))]) (wrap64 (x8_1 - 1)) s0_0 t166) else (none)) = some (r1, r2) := H
     have A13 := Aside0.mk A130
     clear A130
     obtain ⟨y167, hy167⟩ : ∃ y_ : List (S62), y_ = (([(⟨1, t165⟩ : S62)] : List (S62))) := ⟨_, rfl⟩
     replace H : (if x7_1.length < 5864062014805 then (spec_l20Term.l0 k1 ji5 a2 (x7_1 ++ [y167]) (wrap64 (x8_1 - 1)) s0_0 t166) else (none)) = some (r1, r2) := by first | (rw [hy167]; with_reducible exact H) | (have H2_ := (Option.bind_some _ _).symm.trans H; rw [hy167]; with_reducible exact H2_) | (have H2_ := (Option.bind_some _ _).symm.trans H; with_reducible exact H2_) | with_reducible exact H | (rw [hy167]; exact H) | exact H
     have Ny167 := Aside0.mk hy167
     clear hy167
     by_cases c14 : x7_1.length < 5864062014805
     ·rw [if_pos c14] at H
      have LMc14 := Aside0.mk c14
      clear c14
      obtain ⟨y170, hy170⟩ : ∃ y_ : List (List (S62)), y_ = (x7_1 ++ [y167]) := ⟨_, rfl⟩
      replace H : (spec_l20Term.l0 k1 ji5 a2 y170 (wrap64 (x8_1 - 1)) s0_0 t166) = some (r1, r2) := by first | (rw [hy170]; with_reducible exact H) | (have H2_ := (Option.bind_some _ _).symm.trans H; rw [hy170]; with_reducible exact H2_) | (have H2_ := (Option.bind_some _ _).symm.trans H; with_reducible exact H2_) | with_reducible exact H | (rw [hy170]; exact H) | exact H
      have Ny170 := Aside0.mk hy170
      clear hy170
      have H' := Aside0.mk H
      clear H
      go_wp2_with (first | ((with_reducible refine gate_callee (f := 60) rfl ?_); refine goesL_ (some 26) rfl rfl Try.func60 (by kernel_rfl) rfl #[.pointer (some ⟨g, 0, none⟩), .int .i64 4] rfl pwk_ ?_; (with_reducible refine (spec_l20Rd_pick.calls k1 g s0_0 x1001_1 4 t163 t164 w0 _ ?side1 ?side2 A11.out).mono ?_); (case side1 => repeat (first | (with_reducible first | exact HI0.out | apply IsS103.alloc | apply IsS103.drewN | apply IsS103.drew | apply IsS103.set_1) | exact HI0.out)); (case side2 => repeat (first | (with_reducible first | exact HB.out | apply below_alloc | apply pw_below_drewN | apply below_drew1 | refine below_set ?_ (IsS103.ge HI0.out)) | exact HB.out)); rintro e w15 ⟨rfl, hi, hb, hk⟩; refine ⟨_, rfl, ?_⟩; have n0_ := Aside0.mk (Kd.R_mono (Kd.R_keep (IsS103.apart (show IsS103 w0 _ g s0_0 x1001_1 from by repeat (first | (with_reducible first | exact HI0.out | apply IsS103.alloc | apply IsS103.drewN | apply IsS103.drew | apply IsS103.set_1) | exact HI0.out)) pwd_ (by decide)) hk (fun _ h => h.2)) (fun _ h => h.1)); have n1_ := Aside0.mk (KeepBut.trans pwl_ hk (.inl rfl)); have n2_ := Aside0.mk (hb); have n3_ := Aside0.mk (hi); clear HO_7; clear HK; clear HB; clear HI0; have HO_7 := n0_; have HK := n1_; have HB := n2_; have HI0 := n3_; clear n0_ n1_ n2_ n3_; (try clear hb); (try clear hb2); (try clear hk); (try clear hi)) | ((with_reducible refine gate_callee (f := 60) rfl ?_); refine goesL_ (some 32) rfl rfl Try.func60 (by kernel_rfl) rfl #[.pointer (some ⟨g, 0, none⟩), .int .i64 (wrap64 (ji5 + 2))] rfl (by (try simp only [List.map_toArray, List.map_cons, List.map_nil]); first | done | (simp only [show wrap64 (ji5 + 2) = ji5 + 2 from (by have h4_ := hji5_; unfold wrap64; split at h4_ <;> omega)]; rfl) | (simp only [hji5]; rfl) | rfl | (simp only [List.length_drop, List.length_take]; rfl)) ?_; (with_reducible refine (spec_l20Rd_pick.calls k1 g s0_0 t164 (wrap64 (ji5 + 2)) t165 t166 w0 _ ?side1 ?side2 A13.out).mono ?_); (case side1 => repeat (first | (with_reducible first | exact HI0.out | apply IsS103.alloc | apply IsS103.drewN | apply IsS103.drew | apply IsS103.set_1) | exact HI0.out)); (case side2 => repeat (first | (with_reducible first | exact HB.out | apply below_alloc | apply pw_below_drewN | apply below_drew1 | refine below_set ?_ (IsS103.ge HI0.out)) | exact HB.out)); rintro e w16 ⟨rfl, hi, hb, hk⟩; refine ⟨_, rfl, ?_⟩; have n0_ := Aside0.mk (Kd.R_mono (Kd.R_keep (IsS103.apart (show IsS103 w0 _ g s0_0 t164 from by repeat (first | (with_reducible first | exact HI0.out | apply IsS103.alloc | apply IsS103.drewN | apply IsS103.drew | apply IsS103.set_1) | exact HI0.out)) pwd_ (by decide)) hk (fun _ h => h.2)) (fun _ h => h.1)); have n1_ := Aside0.mk (KeepBut.trans pwl_ hk (.inl rfl)); have n2_ := Aside0.mk (hb); have n3_ := Aside0.mk (hi); clear HO_7; clear HK; clear HB; clear HI0; have HO_7 := n0_; have HK := n1_; have HB := n2_; have HI0 := n3_; clear n0_ n1_ n2_ n3_; (try clear hb); (try clear hb2); (try clear hk); (try clear hi)) | ((with_reducible refine gate_dst (N := 34) rfl ?_); refine Kd.R_lit k62 _ 62 ?hg (N := 34) ?hd (xs := ([(⟨1, t165⟩ : S62)] : List (S62))) (inner := [.int .i64 1, .int .i64 t165]) (ok := fun _ => True) (okp := fun _ => True) ?hr ?hp (fun _ hk => hk) trivial (Below.refl _ _) (Nat.le_refl _) (by simp) ?_; (case hd => rfl); (case hg => rfl); (case hr => first | (go_simp; done) | (go_simp; rfl)); (case hp => exact (Reps.c2 (show Kd.M k62 _ _ _ (⟨1, t165⟩ : S62) [.int .i64 1, .int .i64 t165] from (k62_mkM _ _ _ (⟨1, t165⟩ : S62) )) (Reps.none _ _))); intro v168 w17 ho18 hb hg_ hnew_; clear hg_ hnew_; (first | rw [← Ny167.out] at ho18 | (simp only [Int.reduceToNat] at ho18; rw [← Ny167.out] at ho18)); have n0_ := Aside0.mk (Kd.R_elder' pwd_ (Kd.R_base ho18) hb); have n1_ := Aside0.mk (Kd.R_lower ho18 (keep_size (w := w) (g := g) (row := none) pwl_)); have n2_ := Aside0.mk (IsS103.below pwm_ hb); have n3_ := Aside0.mk (KeepBut.trans pwl_ (KeepBut.of_below hb g none) (.inl rfl)); have n4_ := Aside0.mk (below_step pwo_ hb); clear HO_7; clear HI0; clear HK; clear HB; have HO_7 := n0_; have HO169 := n1_; have HI0 := n2_; have HK := n3_; have HB := n4_; clear n0_ n1_ n2_ n3_ n4_; clear hb ho18; obtain ⟨Ao20, co20, eo20⟩ := Kd.R_slice HO169.out; subst eo20) | ((with_reducible refine gate_builtin (b := .append) (xs := #[.tmp 28, .tmp 35]) rfl ?_); at_builtin; refine Kd.R_append (Kd.slice 62 k62) w.heap.size rfl (.tmp 28) (.tmp 35) 104 25 (.slice none 0 0) 24 rfl Try.underlying104 info25 rfl (by decide) (by omega) u7 x7_1 y167 [.slice Ao20 y167.length co20] (fun _ => True) (fun k_ => ((fun _ => True)) k_ ∧ some k_ ≠ (u7 : Value).ownBlock) rfl rfl ?aP (fun _ hk => hk) ?aF ?aO (Below.refl _ _) ?aS ?aL ?_; (case aP => exact Kd.M_row (Kd.R_mono (Kd.R_apart' (HO169.out) (Kd.R_typed HO_7.out) (by decide)) (fun k_ hk => ⟨trivial, hk.2⟩))); (case aF => exact (fun _ _ => trivial)); (case aO => exact (by (with_reducible repeat apply Kd.R_alloc); exact Kd.R_mono HO_7.out (fun _ hk => trivial))); (case aS => exact (keep_size (w := w) (g := g) (row := none) pwl_)); (case aL => have := LMc14.out; omega); intro v171 w19 ho hb hg hat; rw [← Ny170.out] at ho; have n0_ := Aside0.mk (IsS103.grown pwm_ hg (IsS103.own_ne HI0.out HO_7.out (by decide))); have n1_ := Aside0.mk (below_weaken pwo_ HL.out hb); have n2_ := Aside0.mk (KeepBut.trans pwl_ (KeepBut.of_grown hg g) (Kd.R_base2 HO_7.out)); have n3_ := Aside0.mk (ho); clear HI0; clear HB; clear HK; clear HO_7; clear HO169; have HI0 := n0_; have HB := n1_; have HK := n2_; have HO172 := n3_; clear n0_ n1_ n2_ n3_; clear ho hb hg hat))
      go_roundg k1
      case measure => have := HK1.out; omega
      case rel => exact ⟨(y170), (wrap64 (x8_1 - 1)), (t166), pwa_, H', ⟨by have := HK1.out; omega⟩, ⟨by (with_reducible repeat apply Kd.R_alloc); exact HO172.out⟩, ⟨pwm_⟩, ⟨pwl_⟩, ⟨pwo_⟩⟩
     ·rw [if_neg c14] at H
      exact absurd H (by simp)
    ·rw [if_neg c12] at H
     have c12b0 : (t163 == 0) = false := beq_eq_false_iff_ne.mpr c12
     have c12b1 : (t163 != 0) = true := bne_iff_ne.mpr c12
     replace H := Option.bind_eq_some_iff.mp H
     obtain ⟨⟨t173, t174⟩, A210, H⟩ := H
     replace H : (if x7_1.length < 5864062014805 then (spec_l20Term.l0 k1 ji5 a2 (x7_1 ++ [(([(⟨0, t173⟩ : S62)] : List (S62)))]) (wrap64 (x8_1 - 1)) s0_0 t174) else (none)) = some (r1, r2) := H
     have A21 := Aside0.mk A210
     clear A210
     obtain ⟨y175, hy175⟩ : ∃ y_ : List (S62), y_ = (([(⟨0, t173⟩ : S62)] : List (S62))) := ⟨_, rfl⟩
     replace H : (if x7_1.length < 5864062014805 then (spec_l20Term.l0 k1 ji5 a2 (x7_1 ++ [y175]) (wrap64 (x8_1 - 1)) s0_0 t174) else (none)) = some (r1, r2) := by first | (rw [hy175]; with_reducible exact H) | (have H2_ := (Option.bind_some _ _).symm.trans H; rw [hy175]; with_reducible exact H2_) | (have H2_ := (Option.bind_some _ _).symm.trans H; with_reducible exact H2_) | with_reducible exact H | (rw [hy175]; exact H) | exact H
     have Ny175 := Aside0.mk hy175
     clear hy175
     by_cases c22 : x7_1.length < 5864062014805
     ·rw [if_pos c22] at H
      have LMc22 := Aside0.mk c22
      clear c22
      obtain ⟨y178, hy178⟩ : ∃ y_ : List (List (S62)), y_ = (x7_1 ++ [y175]) := ⟨_, rfl⟩
      replace H : (spec_l20Term.l0 k1 ji5 a2 y178 (wrap64 (x8_1 - 1)) s0_0 t174) = some (r1, r2) := by first | (rw [hy178]; with_reducible exact H) | (have H2_ := (Option.bind_some _ _).symm.trans H; rw [hy178]; with_reducible exact H2_) | (have H2_ := (Option.bind_some _ _).symm.trans H; with_reducible exact H2_) | with_reducible exact H | (rw [hy178]; exact H) | exact H
      have Ny178 := Aside0.mk hy178
      clear hy178
      have H' := Aside0.mk H
      clear H
      go_wp2_with (first | ((with_reducible refine gate_callee (f := 60) rfl ?_); refine goesL_ (some 26) rfl rfl Try.func60 (by kernel_rfl) rfl #[.pointer (some ⟨g, 0, none⟩), .int .i64 4] rfl pwk_ ?_; (with_reducible refine (spec_l20Rd_pick.calls k1 g s0_0 x1001_1 4 t163 t164 w0 _ ?side1 ?side2 A11.out).mono ?_); (case side1 => repeat (first | (with_reducible first | exact HI0.out | apply IsS103.alloc | apply IsS103.drewN | apply IsS103.drew | apply IsS103.set_1) | exact HI0.out)); (case side2 => repeat (first | (with_reducible first | exact HB.out | apply below_alloc | apply pw_below_drewN | apply below_drew1 | refine below_set ?_ (IsS103.ge HI0.out)) | exact HB.out)); rintro e w23 ⟨rfl, hi, hb, hk⟩; refine ⟨_, rfl, ?_⟩; have n0_ := Aside0.mk (Kd.R_mono (Kd.R_keep (IsS103.apart (show IsS103 w0 _ g s0_0 x1001_1 from by repeat (first | (with_reducible first | exact HI0.out | apply IsS103.alloc | apply IsS103.drewN | apply IsS103.drew | apply IsS103.set_1) | exact HI0.out)) pwd_ (by decide)) hk (fun _ h => h.2)) (fun _ h => h.1)); have n1_ := Aside0.mk (KeepBut.trans pwl_ hk (.inl rfl)); have n2_ := Aside0.mk (hb); have n3_ := Aside0.mk (hi); clear HO_7; clear HK; clear HB; clear HI0; have HO_7 := n0_; have HK := n1_; have HB := n2_; have HI0 := n3_; clear n0_ n1_ n2_ n3_; (try clear hb); (try clear hb2); (try clear hk); (try clear hi)) | ((with_reducible refine gate_callee (f := 60) rfl ?_); refine goesL_ (some 40) rfl rfl Try.func60 (by kernel_rfl) rfl #[.pointer (some ⟨g, 0, none⟩), .int .i64 ji5] rfl (by (try simp only [List.map_toArray, List.map_cons, List.map_nil]); first | done | (simp only [hji5]; rfl) | rfl | (simp only [List.length_drop, List.length_take]; rfl)) ?_; (with_reducible refine (spec_l20Rd_pick.calls k1 g s0_0 t164 ji5 t173 t174 w0 _ ?side1 ?side2 A21.out).mono ?_); (case side1 => repeat (first | (with_reducible first | exact HI0.out | apply IsS103.alloc | apply IsS103.drewN | apply IsS103.drew | apply IsS103.set_1) | exact HI0.out)); (case side2 => repeat (first | (with_reducible first | exact HB.out | apply below_alloc | apply pw_below_drewN | apply below_drew1 | refine below_set ?_ (IsS103.ge HI0.out)) | exact HB.out)); rintro e w24 ⟨rfl, hi, hb, hk⟩; refine ⟨_, rfl, ?_⟩; have n0_ := Aside0.mk (Kd.R_mono (Kd.R_keep (IsS103.apart (show IsS103 w0 _ g s0_0 t164 from by repeat (first | (with_reducible first | exact HI0.out | apply IsS103.alloc | apply IsS103.drewN | apply IsS103.drew | apply IsS103.set_1) | exact HI0.out)) pwd_ (by decide)) hk (fun _ h => h.2)) (fun _ h => h.1)); have n1_ := Aside0.mk (KeepBut.trans pwl_ hk (.inl rfl)); have n2_ := Aside0.mk (hb); have n3_ := Aside0.mk (hi); clear HO_7; clear HK; clear HB; clear HI0; have HO_7 := n0_; have HK := n1_; have HB := n2_; have HI0 := n3_; clear n0_ n1_ n2_ n3_; (try clear hb); (try clear hb2); (try clear hk); (try clear hi)) | ((with_reducible refine gate_dst (N := 42) rfl ?_); refine Kd.R_lit k62 _ 62 ?hg (N := 42) ?hd (xs := ([(⟨0, t173⟩ : S62)] : List (S62))) (inner := [.int .i64 0, .int .i64 t173]) (ok := fun _ => True) (okp := fun _ => True) ?hr ?hp (fun _ hk => hk) trivial (Below.refl _ _) (Nat.le_refl _) (by simp) ?_; (case hd => rfl); (case hg => rfl); (case hr => first | (go_simp; done) | (go_simp; rfl)); (case hp => exact (Reps.c2 (show Kd.M k62 _ _ _ (⟨0, t173⟩ : S62) [.int .i64 0, .int .i64 t173] from (k62_mkM _ _ _ (⟨0, t173⟩ : S62) )) (Reps.none _ _))); intro v176 w25 ho26 hb hg_ hnew_; clear hg_ hnew_; (first | rw [← Ny175.out] at ho26 | (simp only [Int.reduceToNat] at ho26; rw [← Ny175.out] at ho26)); have n0_ := Aside0.mk (Kd.R_elder' pwd_ (Kd.R_base ho26) hb); have n1_ := Aside0.mk (Kd.R_lower ho26 (keep_size (w := w) (g := g) (row := none) pwl_)); have n2_ := Aside0.mk (IsS103.below pwm_ hb); have n3_ := Aside0.mk (KeepBut.trans pwl_ (KeepBut.of_below hb g none) (.inl rfl)); have n4_ := Aside0.mk (below_step pwo_ hb); clear HO_7; clear HI0; clear HK; clear HB; have HO_7 := n0_; have HO177 := n1_; have HI0 := n2_; have HK := n3_; have HB := n4_; clear n0_ n1_ n2_ n3_ n4_; clear hb ho26; obtain ⟨Ao28, co28, eo28⟩ := Kd.R_slice HO177.out; subst eo28) | ((with_reducible refine gate_builtin (b := .append) (xs := #[.tmp 37, .tmp 43]) rfl ?_); at_builtin; refine Kd.R_append (Kd.slice 62 k62) w.heap.size rfl (.tmp 37) (.tmp 43) 104 25 (.slice none 0 0) 24 rfl Try.underlying104 info25 rfl (by decide) (by omega) u7 x7_1 y175 [.slice Ao28 y175.length co28] (fun _ => True) (fun k_ => ((fun _ => True)) k_ ∧ some k_ ≠ (u7 : Value).ownBlock) rfl rfl ?aP (fun _ hk => hk) ?aF ?aO (Below.refl _ _) ?aS ?aL ?_; (case aP => exact Kd.M_row (Kd.R_mono (Kd.R_apart' (HO177.out) (Kd.R_typed HO_7.out) (by decide)) (fun k_ hk => ⟨trivial, hk.2⟩))); (case aF => exact (fun _ _ => trivial)); (case aO => exact (by (with_reducible repeat apply Kd.R_alloc); exact Kd.R_mono HO_7.out (fun _ hk => trivial))); (case aS => exact (keep_size (w := w) (g := g) (row := none) pwl_)); (case aL => have := LMc22.out; omega); intro v179 w27 ho hb hg hat; rw [← Ny178.out] at ho; have n0_ := Aside0.mk (IsS103.grown pwm_ hg (IsS103.own_ne HI0.out HO_7.out (by decide))); have n1_ := Aside0.mk (below_weaken pwo_ HL.out hb); have n2_ := Aside0.mk (KeepBut.trans pwl_ (KeepBut.of_grown hg g) (Kd.R_base2 HO_7.out)); have n3_ := Aside0.mk (ho); clear HI0; clear HB; clear HK; clear HO_7; clear HO177; have HI0 := n0_; have HB := n1_; have HK := n2_; have HO180 := n3_; clear n0_ n1_ n2_ n3_; clear ho hb hg hat))
      go_roundg k1
      case measure => have := HK1.out; omega
      case rel => exact ⟨(y178), (wrap64 (x8_1 - 1)), (t174), pwa_, H', ⟨by have := HK1.out; omega⟩, ⟨by (with_reducible repeat apply Kd.R_alloc); exact HO180.out⟩, ⟨pwm_⟩, ⟨pwl_⟩, ⟨pwo_⟩⟩
     ·rw [if_neg c22] at H
      exact absurd H (by simp)
   ·rw [if_neg c10] at H
    have c10b0 : decide (0 < x8_1) = false := decide_eq_false c10
    clear c10
    have H' := Aside0.mk H
    clear H
    go_wp2
    go_loopg [7, 9] k1 (fun kq v7 v9 w' => ∃ (x7_2 : List (List (S62))) (x9_2 : Int) (x1001_2 : Int), v9 = .int .i64 x9_2 ∧ Aside0 (spec_l20Term.l1 kq a2 x7_2 x9_2 s0_0 x1001_2 = some (r1, r2)) ∧ Aside0 (kq ≤ k1) ∧ Aside0 (Kd.R (Kd.slice 62 k62) 25 w' w.heap.size (fun _ => True) v7 x7_2) ∧ Aside0 (IsS103 w0 w' g s0_0 x1001_2) ∧ Aside0 (KeepBut w w' g none) ∧ Aside0 (Below w0.heap.size w0 w'))
    case atStart => exact ⟨(x7_1), (3), (x1001_1), pwa_, H', ⟨Nat.le_refl _⟩, ⟨pwd_⟩, ⟨pwm_⟩, ⟨pwl_⟩, ⟨pwo_⟩⟩
    case round =>
     clear H'
     try clear c1
     try clear c2
     try clear p2
     try clear c6
     try clear p6
     try clear c10
     try clear c10b0
     try clear c12
     try clear c12b0
     try clear c12b1
     try clear c14
     try clear c22
     try clear p2
     try clear p6
     obtain ⟨x7_2, x9_2, x1001_2, rfl, HA, HK2, HO_7, HI0, HK, HB⟩ := hrel
     cases gk with
     | zero => exact absurd HA.out (by simp [spec_l20Term.l1])
     | succ k2 =>
      have H := HA.out
      clear HA
      simp only [spec_l20Term.l1] at H
      by_cases c29 : (x7_2.length : Int) > 1
      ·rw [if_pos c29] at H
       have c29b0 : decide (1 < (x7_2.length : Int)) = true := decide_eq_true c29
       have c29b1 : decide (1 < x7_2.length) = true := decide_eq_true (by omega)
       clear c29
       replace H := Option.bind_eq_some_iff.mp H
       obtain ⟨⟨t181, t182⟩, A300, H⟩ := H
       replace H : (if x9_2 > 0 then ((spec_l20Rd_pick.f k2 s0_0 t182 4).bind fun bt183 => (if bt183.1 = 0 then ((some (([] : List (S62)) : List (S62))).bind fun y185 => (if 0 ≤ t181 then (if t181 < (x7_2.length : Int) then (if y185.length + (rd_L3 x7_2 t181).length < 8796093022208 then ((some (y185 ++ (rd_L3 x7_2 t181) : List (S62))).bind fun y189 => (if y189.length < 8796093022208 then (spec_l20Term.l1 k2 a2 (x7_2.set (t181 : Int).toNat (y189 ++ [(⟨2, 0⟩ : S62)])) (wrap64 (x9_2 - 1)) s0_0 bt183.2) else (none))) else (none)) else (none)) else (none))) else ((some (([] : List (S62)) : List (S62))).bind fun y196 => (if 0 ≤ t181 then (if t181 < (x7_2.length : Int) then (if y196.length + (rd_L3 x7_2 t181).length < 8796093022208 then ((some (y196 ++ (rd_L3 x7_2 t181) : List (S62))).bind fun y200 => (if 0 ≤ (wrap64 (t181 + 1)) then (if (wrap64 (t181 + 1)) < (x7_2.length : Int) then (if y200.length + (rd_L3 x7_2 (wrap64 (t181 + 1))).length < 8796093022208 then ((some (y200 ++ (rd_L3 x7_2 (wrap64 (t181 + 1))) : List (S62))).bind fun y204 => ((spec_l20Rd_pick.f k2 s0_0 bt183.2 3).bind fun bt207 => (if y204.length < 8796093022208 then ((some (([] : List (List (S62))) : List (List (S62)))).bind fun y212 => (if t181 ≤ (x7_2.length : Int) then ((some (x7_2.take (t181 : Int).toNat : List (List (S62)))).bind fun y215 => (if y212.length + y215.length < 5864062014805 then ((some (y212 ++ y215 : List (List (S62)))).bind fun y219 => (if y219.length < 5864062014805 then ((some (y219 ++ [(y204 ++ [(⟨wrap64 (3 + bt207.1), 0⟩ : S62)])] : List (List (S62)))).bind fun y222 => (if 0 ≤ (wrap64 (t181 + 2)) then (if (wrap64 (t181 + 2)) ≤ (x7_2.length : Int) then ((some (x7_2.drop ((wrap64 (t181 + 2)) : Int).toNat : List (List (S62)))).bind fun y225 => (if y222.length + y225.length < 5864062014805 then (spec_l20Term.l1 k2 a2 (y222 ++ y225) x9_2 s0_0 bt207.2) else (none))) else (none)) else (none))) else (none))) else (none))) else (none))) else (none)))) else (none)) else (none)) else (none))) else (none)) else (none)) else (none))))) else ((some (([] : List (S62)) : List (S62))).bind fun y232 => (if 0 ≤ t181 then (if t181 < (x7_2.length : Int) then (if y232.length + (rd_L3 x7_2 t181).length < 8796093022208 then ((some (y232 ++ (rd_L3 x7_2 t181) : List (S62))).bind fun y236 => (if 0 ≤ (wrap64 (t181 + 1)) then (if (wrap64 (t181 + 1)) < (x7_2.length : Int) then (if y236.length + (rd_L3 x7_2 (wrap64 (t181 + 1))).length < 8796093022208 then ((some (y236 ++ (rd_L3 x7_2 (wrap64 (t181 + 1))) : List (S62))).bind fun y240 => ((spec_l20Rd_pick.f k2 s0_0 t182 3).bind fun bt243 => (if y240.length < 8796093022208 then ((some (([] : List (List (S62))) : List (List (S62)))).bind fun y248 => (if t181 ≤ (x7_2.length : Int) then ((some (x7_2.take (t181 : Int).toNat : List (List (S62)))).bind fun y251 => (if y248.length + y251.length < 5864062014805 then ((some (y248 ++ y251 : List (List (S62)))).bind fun y255 => (if y255.length < 5864062014805 then ((some (y255 ++ [(y240 ++ [(⟨wrap64 (3 + bt243.1), 0⟩ : S62)])] : List (List (S62)))).bind fun y258 => (if 0 ≤ (wrap64 (t181 + 2)) then (if (wrap64 (t181 + 2)) ≤ (x7_2.length : Int) then ((some (x7_2.drop ((wrap64 (t181 + 2)) : Int).toNat : List (List (S62)))).bind fun y261 => (if y258.length + y261.length < 5864062014805 then (spec_l20Term.l1 k2 a2 (y258 ++ y261) x9_2 s0_0 bt243.2) else (none))) else (none)) else (none))) else (none))) else (none))) else (none))) else (none)))) else (none)) else (none)) else (none))) else (none)) else (none)) else (none)))) = some (r1, r2) := H
       have A30 := Aside0.mk A300
       clear A300
       by_cases c31 : x9_2 > 0
       ·rw [if_pos c31] at H
        have c31b0 : decide (0 < x9_2) = true := decide_eq_true c31
        clear c31
        replace H := Option.bind_eq_some_iff.mp H
        obtain ⟨⟨t183, t184⟩, A320, H⟩ := H
        replace H : (if t183 = 0 then ((some (([] : List (S62)) : List (S62))).bind fun y185 => (if 0 ≤ t181 then (if t181 < (x7_2.length : Int) then (if y185.length + (rd_L3 x7_2 t181).length < 8796093022208 then ((some (y185 ++ (rd_L3 x7_2 t181) : List (S62))).bind fun y189 => (if y189.length < 8796093022208 then (spec_l20Term.l1 k2 a2 (x7_2.set (t181 : Int).toNat (y189 ++ [(⟨2, 0⟩ : S62)])) (wrap64 (x9_2 - 1)) s0_0 t184) else (none))) else (none)) else (none)) else (none))) else ((some (([] : List (S62)) : List (S62))).bind fun y196 => (if 0 ≤ t181 then (if t181 < (x7_2.length : Int) then (if y196.length + (rd_L3 x7_2 t181).length < 8796093022208 then ((some (y196 ++ (rd_L3 x7_2 t181) : List (S62))).bind fun y200 => (if 0 ≤ (wrap64 (t181 + 1)) then (if (wrap64 (t181 + 1)) < (x7_2.length : Int) then (if y200.length + (rd_L3 x7_2 (wrap64 (t181 + 1))).length < 8796093022208 then ((some (y200 ++ (rd_L3 x7_2 (wrap64 (t181 + 1))) : List (S62))).bind fun y204 => ((spec_l20Rd_pick.f k2 s0_0 t184 3).bind fun bt207 => (if y204.length < 8796093022208 then ((some (([] : List (List (S62))) : List (List (S62)))).bind fun y212 => (if t181 ≤ (x7_2.length : Int) then ((some (x7_2.take (t181 : Int).toNat : List (List (S62)))).bind fun y215 => (if y212.length + y215.length < 5864062014805 then ((some (y212 ++ y215 : List (List (S62)))).bind fun y219 => (if y219.length < 5864062014805 then ((some (y219 ++ [(y204 ++ [(⟨wrap64 (3 + bt207.1), 0⟩ : S62)])] : List (List (S62)))).bind fun y222 => (if 0 ≤ (wrap64 (t181 + 2)) then (if (wrap64 (t181 + 2)) ≤ (x7_2.length : Int) then ((some (x7_2.drop ((wrap64 (t181 + 2)) : Int).toNat : List (List (S62)))).bind fun y225 => (if y222.length + y225.length < 5864062014805 then (spec_l20Term.l1 k2 a2 (y222 ++ y225) x9_2 s0_0 bt207.2) else (none))) else (none)) else (none))) else (none))) else (none))) else (none))) else (none)))) else (none)) else (none)) else (none))) else (none)) else (none)) else (none)))) = some (r1, r2) := H
        have A32 := Aside0.mk A320
        clear A320
        by_cases c33 : t183 = 0
        ·rw [if_pos c33] at H
         have c33b0 : (t183 == 0) = true := beq_iff_eq.mpr c33
         have c33b1 : (t183 != 0) = false := bne_eq_false_iff_eq.mpr c33
         clear c33
         obtain ⟨y185, hy185⟩ : ∃ y_ : List (S62), y_ = (([] : List (S62))) := ⟨_, rfl⟩
         replace H : (if 0 ≤ t181 then (if t181 < (x7_2.length : Int) then (if y185.length + (rd_L3 x7_2 t181).length < 8796093022208 then ((some (y185 ++ (rd_L3 x7_2 t181) : List (S62))).bind fun y189 => (if y189.length < 8796093022208 then (spec_l20Term.l1 k2 a2 (x7_2.set (t181 : Int).toNat (y189 ++ [(⟨2, 0⟩ : S62)])) (wrap64 (x9_2 - 1)) s0_0 t184) else (none))) else (none)) else (none)) else (none)) = some (r1, r2) := by first | (rw [hy185]; with_reducible exact H) | (have H2_ := (Option.bind_some _ _).symm.trans H; rw [hy185]; with_reducible exact H2_) | (have H2_ := (Option.bind_some _ _).symm.trans H; with_reducible exact H2_) | with_reducible exact H | (rw [hy185]; exact H) | exact H
         have Ny185 := Aside0.mk hy185
         clear hy185
         by_cases c34 : 0 ≤ t181
         ·rw [if_pos c34] at H
          have c34b0 : decide (0 ≤ t181) = true := decide_eq_true c34
          clear c34
          by_cases c35 : t181 < (x7_2.length : Int)
          ·rw [if_pos c35] at H
           have c35b0 : decide (t181 < (x7_2.length : Int)) = true := decide_eq_true c35
           clear c35
           by_cases c36 : y185.length + (rd_L3 x7_2 t181).length < 8796093022208
           ·rw [if_pos c36] at H
            have LMc36 := Aside0.mk c36
            clear c36
            obtain ⟨y189, hy189⟩ : ∃ y_ : List (S62), y_ = (y185 ++ (rd_L3 x7_2 t181)) := ⟨_, rfl⟩
            replace H : (if y189.length < 8796093022208 then (spec_l20Term.l1 k2 a2 (x7_2.set (t181 : Int).toNat (y189 ++ [(⟨2, 0⟩ : S62)])) (wrap64 (x9_2 - 1)) s0_0 t184) else (none)) = some (r1, r2) := by first | (rw [hy189]; with_reducible exact H) | (have H2_ := (Option.bind_some _ _).symm.trans H; rw [hy189]; with_reducible exact H2_) | (have H2_ := (Option.bind_some _ _).symm.trans H; with_reducible exact H2_) | with_reducible exact H | (rw [hy189]; exact H) | exact H
            have Ny189 := Aside0.mk hy189
            clear hy189
            by_cases c37 : y189.length < 8796093022208
            ·rw [if_pos c37] at H
             have LMc37 := Aside0.mk c37
             clear c37
             obtain ⟨y192, hy192⟩ : ∃ y_ : List (S62), y_ = (y189 ++ [(⟨2, 0⟩ : S62)]) := ⟨_, rfl⟩
             replace H : (spec_l20Term.l1 k2 a2 (x7_2.set (t181 : Int).toNat y192) (wrap64 (x9_2 - 1)) s0_0 t184) = some (r1, r2) := by first | (rw [hy192]; with_reducible exact H) | (have H2_ := (Option.bind_some _ _).symm.trans H; rw [hy192]; with_reducible exact H2_) | (have H2_ := (Option.bind_some _ _).symm.trans H; with_reducible exact H2_) | with_reducible exact H | (rw [hy192]; exact H) | exact H
             have Ny192 := Aside0.mk hy192
             clear hy192
             obtain ⟨y195, hy195⟩ : ∃ y_ : List (List (S62)), y_ = (x7_2.set (t181 : Int).toNat y192) := ⟨_, rfl⟩
             replace H : (spec_l20Term.l1 k2 a2 y195 (wrap64 (x9_2 - 1)) s0_0 t184) = some (r1, r2) := by first | (rw [hy195]; with_reducible exact H) | (have H2_ := (Option.bind_some _ _).symm.trans H; rw [hy195]; with_reducible exact H2_) | (have H2_ := (Option.bind_some _ _).symm.trans H; with_reducible exact H2_) | with_reducible exact H | (rw [hy195]; exact H) | exact H
             have Ny195 := Aside0.mk hy195
             clear hy195
             have H' := Aside0.mk H
             clear H
             obtain ⟨Ao39, co39, eo39⟩ := Kd.R_slice HO_7.out
             subst eo39
             go_wp2_with (first | ((with_reducible refine gate_callee (f := 60) rfl ?_); refine goesL_ (some 52) rfl rfl Try.func60 (by kernel_rfl) rfl #[.pointer (some ⟨g, 0, none⟩), .int .i64 (wrap64 ((x7_2.length : Int) - 1))] rfl pwk_ ?_; (with_reducible refine (spec_l20Rd_pick.calls k2 g s0_0 x1001_2 (wrap64 ((x7_2.length : Int) - 1)) t181 t182 w0 _ ?side1 ?side2 A30.out).mono ?_); (case side1 => repeat (first | (with_reducible first | exact HI0.out | apply IsS103.alloc | apply IsS103.drewN | apply IsS103.drew | apply IsS103.set_1) | exact HI0.out)); (case side2 => repeat (first | (with_reducible first | exact HB.out | apply below_alloc | apply pw_below_drewN | apply below_drew1 | refine below_set ?_ (IsS103.ge HI0.out)) | exact HB.out)); rintro e w40 ⟨rfl, hi, hb, hk⟩; refine ⟨_, rfl, ?_⟩; have n0_ := Aside0.mk (Kd.R_mono (Kd.R_keep (IsS103.apart (show IsS103 w0 _ g s0_0 x1001_2 from by repeat (first | (with_reducible first | exact HI0.out | apply IsS103.alloc | apply IsS103.drewN | apply IsS103.drew | apply IsS103.set_1) | exact HI0.out)) pwd_ (by decide)) hk (fun _ h => h.2)) (fun _ h => h.1)); have n1_ := Aside0.mk (KeepBut.trans pwl_ hk (.inl rfl)); have n2_ := Aside0.mk (hb); have n3_ := Aside0.mk (hi); clear HO_7; clear HK; clear HB; clear HI0; have HO_7 := n0_; have HK := n1_; have HB := n2_; have HI0 := n3_; clear n0_ n1_ n2_ n3_; (try clear hb); (try clear hb2); (try clear hk); (try clear hi)) | (go_at_call 60; (with_reducible refine (spec_l20Rd_pick.calls k2 g s0_0 t182 4 t183 t184 w0 _ ?side1 ?side2 A32.out).mono ?_); (case side1 => repeat (first | (with_reducible first | exact HI0.out | apply IsS103.alloc | apply IsS103.drewN | apply IsS103.drew | apply IsS103.set_1) | exact HI0.out)); (case side2 => repeat (first | (with_reducible first | exact HB.out | apply below_alloc | apply pw_below_drewN | apply below_drew1 | refine below_set ?_ (IsS103.ge HI0.out)) | exact HB.out)); rintro e w41 ⟨rfl, hi, hb, hk⟩; have n0_ := Aside0.mk (Kd.R_mono (Kd.R_keep (IsS103.apart (show IsS103 w0 _ g s0_0 t182 from by repeat (first | (with_reducible first | exact HI0.out | apply IsS103.alloc | apply IsS103.drewN | apply IsS103.drew | apply IsS103.set_1) | exact HI0.out)) pwd_ (by decide)) hk (fun _ h => h.2)) (fun _ h => h.1)); have n1_ := Aside0.mk (KeepBut.trans pwl_ hk (.inl rfl)); have n2_ := Aside0.mk (hb); have n3_ := Aside0.mk (hi); clear HO_7; clear HK; clear HB; clear HI0; have HO_7 := n0_; have HK := n1_; have HB := n2_; have HI0 := n3_; clear n0_ n1_ n2_ n3_; (try clear hb); (try clear hb2); (try clear hk); (try clear hi)) | ((with_reducible refine gate_dst (N := 64) rfl ?_); refine Kd.R_lit k62 _ 62 ?hg (N := 64) ?hd (xs := ([] : List (S62))) (inner := []) (ok := fun _ => True) (okp := fun _ => True) ?hr ?hp (fun _ hk => hk) trivial (Below.refl _ _) (Nat.le_refl _) (by simp) ?_; (case hd => rfl); (case hg => rfl); (case hr => first | (go_simp; done) | (go_simp; rfl)); (case hp => exact (Reps.none _ _)); intro v186 w42 ho43 hb hg_ hnew_; clear hg_ hnew_; (first | rw [← Ny185.out] at ho43 | (simp only [Int.reduceToNat] at ho43; rw [← Ny185.out] at ho43)); have n0_ := Aside0.mk (Kd.R_elder' pwd_ (Kd.R_base ho43) hb); have n1_ := Aside0.mk (Kd.R_lower ho43 (keep_size (w := w) (g := g) (row := none) pwl_)); have n2_ := Aside0.mk (IsS103.below pwm_ hb); have n3_ := Aside0.mk (KeepBut.trans pwl_ (KeepBut.of_below hb g none) (.inl rfl)); have n4_ := Aside0.mk (below_step pwo_ hb); clear HO_7; clear HI0; clear HK; clear HB; have HO_7 := n0_; have HO187 := n1_; have HI0 := n2_; have HK := n3_; have HB := n4_; clear n0_ n1_ n2_ n3_ n4_; clear hb ho43; have p188 : 0 ≤ (t181 : Int) := of_decide_eq_true pwb_; have q188 : t181 < (x7_2.length : Int) := of_decide_eq_true pwb_; obtain ⟨ad188, A188_0, c188_0, e188, hx188_0, hl188_0, hi188_0⟩ := at_L3 (Kd.R_reads' HO_7.out).2.2 t181 p188 q188; cases e188; obtain ⟨ce188, hce188, hMe188, hcc188⟩ := Kd.R_get HO_7.out [] t181 p188 (by first | exact q188 | exact of_decide_eq_true pwb_ | (have e_ := (Kd.R_reads' HO_7.out).1; omega)); obtain ⟨ve188_0, rfl, ge188_0⟩ := hMe188; have hv188_0 := hcc188 0 _ rfl; rw [Nat.add_zero, show ((Kd.slice 62 k62)).sz = 1 from rfl, Nat.mul_one] at hv188_0; replace hv188_0 := Option.some.inj (hv188_0.symm.trans hx188_0); rw [hv188_0] at ge188_0; have HL188_0 := Aside0.mk (show Kd.R k62 62 _ _ _ _ (rd_L3 x7_2 t181) from ge188_0); clear hv188_0 ge188_0; clear hcc188 hce188; have HR188_0 := Aside0.mk hi188_0; have HC188_0 := Aside0.mk hl188_0; clear hi188_0 hl188_0; replace p188 := eq_true p188; replace q188 := eq_true q188) | ((with_reducible refine gate_builtin (b := .append) (xs := #[.tmp 64, .tmp 68]) rfl ?_); at_builtin; refine Kd.R_append_rows k62 w.heap.size rfl (.tmp 64) (.tmp 68) 25 62 (.agg #[(.int .i64 0), (.int .i64 0)]) 16 rfl Try.underlying25 info62 rfl (by decide) (by omega) v186 y185 (rd_L3 x7_2 t181) _ _ _ (fun _ => True) (fun _ => False) rfl rfl ?aO ?aR (fun _ _ h => h) (fun _ h => h.elim) ?aF (Below.refl _ _) ?aS ?aL ?_; (case aR => repeat (first | exact (by repeat (first | (with_reducible exact HR188_0.out) | (with_reducible refine Kd.C_alloc ?_ _) | (with_reducible refine Kd.C_drewN ?_ _) | (with_reducible refine Kd.C_drew ?_) | exact HR188_0.out)) | (with_reducible refine Kd.C_alloc ?_ _) | (with_reducible refine Kd.C_drewN ?_ _) | (with_reducible refine Kd.C_drew ?_))); (case aF => exact (fun _ _ => trivial)); (case aO => exact (by (with_reducible repeat apply Kd.R_alloc); exact HO187.out)); (case aS => exact (keep_size (w := w) (g := g) (row := none) pwl_)); (case aL => have := LMc36.out; omega); intro v190 w44 ho hb hg hat; rw [← Ny189.out] at ho; have n0_ := Aside0.mk (Kd.R_after (ok := (fun _ => True)) pwd_ hg hat); have n1_ := Aside0.mk (IsS103.grown pwm_ hg (IsS103.own_ne HI0.out HO187.out (by decide))); have n2_ := Aside0.mk (Kd.R_after (ok := (fun k_ => some k_ ≠ (.slice (some ad188) x7_2.length co39 : Value).ownBlock)) (by (with_reducible repeat apply Kd.R_alloc); exact Kd.R_mono HL188_0.out (fun _ hk => ⟨hk.2, hk.1.2⟩)) hg hat); have n3_ := Aside0.mk (below_weaken pwo_ HL.out hb); have n4_ := Aside0.mk (KeepBut.trans pwl_ (KeepBut.of_grown hg g) (Kd.R_base2 HO187.out)); have n5_ := Aside0.mk (ho); clear HO_7; clear HI0; clear HL188_0; clear HB; clear HK; clear HO187; have HO_7 := n0_; have HI0 := n1_; have HL188_0 := n2_; have HB := n3_; have HK := n4_; have HO191 := n5_; clear n0_ n1_ n2_ n3_ n4_ n5_; clear ho hb hg hat) | ((with_reducible refine gate_builtin (b := .append) (xs := #[.tmp 69, .tmp 71]) rfl ?_); at_builtin; refine Kd.R_append k62 w.heap.size rfl (.tmp 69) (.tmp 71) 25 62 (.agg #[(.int .i64 0), (.int .i64 0)]) 16 rfl Try.underlying25 info62 rfl (by decide) (by omega) v190 y189 (⟨2, 0⟩ : S62) [.int .i64 2, .int .i64 0] (fun _ => True) (fun _ => False) rfl rfl ?aP (fun _ hk => hk.elim) ?aF ?aO (Below.refl _ _) ?aS ?aL ?_; (case aP => exact k62_mkM _ _ _ (⟨2, 0⟩ : S62)); (case aF => exact (fun _ _ => trivial)); (case aO => exact (by (with_reducible repeat apply Kd.R_alloc); exact HO191.out)); (case aS => exact (keep_size (w := w) (g := g) (row := none) pwl_)); (case aL => have := LMc37.out; omega); intro v193 w45 ho hb hg hat; rw [← Ny192.out] at ho; have n0_ := Aside0.mk (Kd.R_after (ok := (fun _ => True)) pwd_ hg hat); have n1_ := Aside0.mk (IsS103.grown pwm_ hg (IsS103.own_ne HI0.out HO191.out (by decide))); have n2_ := Aside0.mk (Kd.R_after (ok := (fun k_ => some k_ ≠ (.slice (some ad188) x7_2.length co39 : Value).ownBlock)) (by (with_reducible repeat apply Kd.R_alloc); exact HL188_0.out) hg hat); have n3_ := Aside0.mk (below_weaken pwo_ HL.out hb); have n4_ := Aside0.mk (KeepBut.trans pwl_ (KeepBut.of_grown hg g) (Kd.R_base2 HO191.out)); have n5_ := Aside0.mk (ho); clear HO_7; clear HI0; clear HL188_0; clear HB; clear HK; clear HO191; have HO_7 := n0_; have HI0 := n1_; have HL188_0 := n2_; have HB := n3_; have HK := n4_; have HO194 := n5_; clear n0_ n1_ n2_ n3_ n4_ n5_; clear ho hb hg hat; have p38 : 0 ≤ (t181 : Int) := of_decide_eq_true pwb_; have q38 : (t181 : Int) < ((x7_2.length : Int) : Int) := of_decide_eq_true pwb_; obtain ⟨go38, co38, eo38, gb38, gl38, cl38, HG38⟩ := Kd.R_form HO_7.out (by omega); (first | cases eo38 | (injection eo38 with ea_ en_ ec_; (first | subst ea_ | (injection ea_ with ea_; subst ea_)); subst ec_; clear en_)); have GB38 := Aside0.mk gb38; have GG38 := Aside0.mk HG38; clear gb38 gl38 HG38; (first | simp only [add_plain] at hx188_0 | skip); obtain ⟨ce38, hcl38, hM38, hcc38, hfr38⟩ := Kd.R_elem HO_7.out [] (t181 : Int) p38 q38; obtain ⟨ve38_0, rfl, ge38_0⟩ := hM38; have hx38_0 := hcc38 0 _ rfl; have hf38_0 := hfr38 0; (try simp only [show ((Kd.slice 62 k62)).sz = 1 from rfl, Nat.mul_one, Nat.add_zero] at hx38_0); (try simp only [show ((Kd.slice 62 k62)).sz = 1 from rfl, Nat.mul_one, Nat.add_zero] at hf38_0); clear hcl38 hcc38 hfr38; (try clear hM38); skip; replace p38 := eq_true p38; replace q38 := eq_true q38; have n_ := Aside0.mk (Kd.R_mono (ok' := (fun k_ => some k_ ≠ (v193 : Value).ownBlock)) HO_7.out (fun k_ hk => hk.2)); clear HO_7; have HO_7 := n_; clear n_; have HX46 := Aside0.mk (show Kd.R (Kd.slice 62 k62) 25 w45 w.heap.size (fun _ => True) (.slice (some ⟨go38, 0, none⟩) x7_2.length co39) x7_2 from (by (with_reducible repeat apply Kd.R_alloc); exact Kd.R_mono HO_7.out (fun _ hk => trivial))); obtain ⟨ce46, hcl46, hM46, hcc46, hfr46⟩ := Kd.R_elem HX46.out [] (t181 : Int) (of_decide_eq_true pwb_) (by have h_ : (t181 : Int) < ((x7_2.length : Int) : Int) := of_decide_eq_true pwb_; first | exact h_ | (have e_ := (Kd.R_reads' HO_7.out).1; omega) | simpa using h_); obtain ⟨ve46_0, rfl, ge46_0⟩ := hM46; have HP46 := Kd.R_seg HX46.out (t181 : Int) (of_decide_eq_true pwb_) (by have h_ : (t181 : Int) < ((x7_2.length : Int) : Int) := of_decide_eq_true pwb_; first | exact h_ | (have e_ := (Kd.R_reads' HO_7.out).1; omega) | simpa using h_) (seg := [v193]) (j := 0) hcl46 hcc46 (show 1 ≤ 1 from by decide) (x' := y192) (Kd.M_row (Kd.R_mono (Kd.R_apart' (HO194.out) (Kd.R_typed HO_7.out) (by decide)) (fun k_ hk => ⟨trivial, fun e_ => (hk.2) (by rw [e_]; rfl)⟩))) (fun _ hk => hk); have hx46_0 := hcc46 0 _ rfl; (try simp only [show ((Kd.slice 62 k62)).sz = 1 from rfl, Nat.mul_one, Nat.add_zero] at hx46_0); have hf46_0 := hfr46 0; (try simp only [show ((Kd.slice 62 k62)).sz = 1 from rfl, Nat.mul_one, Nat.add_zero] at hf46_0); clear hcl46 hcc46 hfr46; (try clear hM46); skip; (try simp only [show ((Kd.slice 62 k62)).sz = 1 from rfl, Nat.mul_one, Nat.add_zero] at HP46)) | ((with_reducible refine gate_store (t := 25) (p := 73) rfl ?_); refine store_event (t := 25) (p := 73) (v := ?vo_w47) (w1 := (w45.setCell ⟨go38, (t181 : Int).toNat, none⟩ (v193))) ?hg ?ho ?hn ?hr ?_; (case ho => rfl); (case hg => rfl); (case hn => rfl); (case hr => first | (go_simp; done) | (go_simp; rfl) | ((obtain ⟨A_, c_, e_⟩ := Kd.R_slice HO194.out; rw [e_]); first | (go_simp; done) | (go_simp; rfl))); intro w47 hw; have hg : w45.grownBy w47 (some go38) := (by rw [hw]; exact HP46.2); have hp_ : Kd.R (Kd.slice 62 k62) 25 w47 w.heap.size (fun _ => True) (.slice (some ⟨go38, 0, none⟩) x7_2.length co39) y195 := (by rw [hw, Ny195.out]; exact HP46.1); clear HP46; have n0_ := Aside0.mk (hp_); have n1_ := Aside0.mk (IsS103.grown pwm_ hg (IsS103.own_ne HI0.out HO_7.out (by decide))); have n2_ := Aside0.mk (Kd.R_after (v := (.slice (some ⟨go38, 0, none⟩) x7_2.length co39)) (v1 := (.slice (some ⟨go38, 0, none⟩) x7_2.length co39)) (ok := (fun k_ => some k_ ≠ (v193 : Value).ownBlock)) (by (with_reducible repeat apply Kd.R_alloc); exact Kd.R_mono HL188_0.out (fun _ hk => ⟨hk.2, hk.1⟩)) hg (.inl rfl)); have n3_ := Aside0.mk ((by rw [hw]; exact below_set (HB.out) (Nat.le_trans HL.out GB38.out) : Below w0.heap.size w0 w47)); have n4_ := Aside0.mk (KeepBut.trans pwl_ (KeepBut.of_grown hg g) (Kd.R_base2 HO_7.out)); clear HO_7; clear HI0; clear HL188_0; clear HB; clear HK; clear HO194; have HO_7 := n0_; have HI0 := n1_; have HL188_0 := n2_; have HB := n3_; have HK := n4_; clear n0_ n1_ n2_ n3_ n4_; clear hg hw hp_))
             go_roundg k2
             case measure => have := HK1.out; have := HK2.out; omega
             case rel => exact ⟨(y195), (wrap64 (x9_2 - 1)), (t184), pwa_, H', ⟨by have := HK1.out; have := HK2.out; omega⟩, ⟨pwd_⟩, ⟨pwm_⟩, ⟨pwl_⟩, ⟨pwo_⟩⟩
            ·rw [if_neg c37] at H
             exact absurd H (by simp)
           ·rw [if_neg c36] at H
            exact absurd H (by simp)
          ·rw [if_neg c35] at H
           exact absurd H (by simp)
         ·rw [if_neg c34] at H
          exact absurd H (by simp)
        ·rw [if_neg c33] at H
         have c33b0 : (t183 == 0) = false := beq_eq_false_iff_ne.mpr c33
         have c33b1 : (t183 != 0) = true := bne_iff_ne.mpr c33
         obtain ⟨y196, hy196⟩ : ∃ y_ : List (S62), y_ = (([] : List (S62))) := ⟨_, rfl⟩
         replace H : (if 0 ≤ t181 then (if t181 < (x7_2.length : Int) then (if y196.length + (rd_L3 x7_2 t181).length < 8796093022208 then ((some (y196 ++ (rd_L3 x7_2 t181) : List (S62))).bind fun y200 => (if 0 ≤ (wrap64 (t181 + 1)) then (if (wrap64 (t181 + 1)) < (x7_2.length : Int) then (if y200.length + (rd_L3 x7_2 (wrap64 (t181 + 1))).length < 8796093022208 then ((some (y200 ++ (rd_L3 x7_2 (wrap64 (t181 + 1))) : List (S62))).bind fun y204 => ((spec_l20Rd_pick.f k2 s0_0 t184 3).bind fun bt207 => (if y204.length < 8796093022208 then ((some (([] : List (List (S62))) : List (List (S62)))).bind fun y212 => (if t181 ≤ (x7_2.length : Int) then ((some (x7_2.take (t181 : Int).toNat : List (List (S62)))).bind fun y215 => (if y212.length + y215.length < 5864062014805 then ((some (y212 ++ y215 : List (List (S62)))).bind fun y219 => (if y219.length < 5864062014805 then ((some (y219 ++ [(y204 ++ [(⟨wrap64 (3 + bt207.1), 0⟩ : S62)])] : List (List (S62)))).bind fun y222 => (if 0 ≤ (wrap64 (t181 + 2)) then (if (wrap64 (t181 + 2)) ≤ (x7_2.length : Int) then ((some (x7_2.drop ((wrap64 (t181 + 2)) : Int).toNat : List (List (S62)))).bind fun y225 => (if y222.length + y225.length < 5864062014805 then (spec_l20Term.l1 k2 a2 (y222 ++ y225) x9_2 s0_0 bt207.2) else (none))) else (none)) else (none))) else (none))) else (none))) else (none))) else (none)))) else (none)) else (none)) else (none))) else (none)) else (none)) else (none)) = some (r1, r2) := by first | (rw [hy196]; with_reducible exact H) | (have H2_ := (Option.bind_some _ _).symm.trans H; rw [hy196]; with_reducible exact H2_) | (have H2_ := (Option.bind_some _ _).symm.trans H; with_reducible exact H2_) | with_reducible exact H | (rw [hy196]; exact H) | exact H
         have Ny196 := Aside0.mk hy196
         clear hy196
         by_cases c48 : 0 ≤ t181
         ·rw [if_pos c48] at H
          have c48b0 : decide (0 ≤ t181) = true := decide_eq_true c48
          clear c48
          by_cases c49 : t181 < (x7_2.length : Int)
          ·rw [if_pos c49] at H
           have c49b0 : decide (t181 < (x7_2.length : Int)) = true := decide_eq_true c49
           clear c49
           by_cases c50 : y196.length + (rd_L3 x7_2 t181).length < 8796093022208
           ·rw [if_pos c50] at H
            have LMc50 := Aside0.mk c50
            clear c50
            obtain ⟨y200, hy200⟩ : ∃ y_ : List (S62), y_ = (y196 ++ (rd_L3 x7_2 t181)) := ⟨_, rfl⟩
            replace H : (if 0 ≤ (wrap64 (t181 + 1)) then (if (wrap64 (t181 + 1)) < (x7_2.length : Int) then (if y200.length + (rd_L3 x7_2 (wrap64 (t181 + 1))).length < 8796093022208 then ((some (y200 ++ (rd_L3 x7_2 (wrap64 (t181 + 1))) : List (S62))).bind fun y204 => ((spec_l20Rd_pick.f k2 s0_0 t184 3).bind fun bt207 => (if y204.length < 8796093022208 then ((some (([] : List (List (S62))) : List (List (S62)))).bind fun y212 => (if t181 ≤ (x7_2.length : Int) then ((some (x7_2.take (t181 : Int).toNat : List (List (S62)))).bind fun y215 => (if y212.length + y215.length < 5864062014805 then ((some (y212 ++ y215 : List (List (S62)))).bind fun y219 => (if y219.length < 5864062014805 then ((some (y219 ++ [(y204 ++ [(⟨wrap64 (3 + bt207.1), 0⟩ : S62)])] : List (List (S62)))).bind fun y222 => (if 0 ≤ (wrap64 (t181 + 2)) then (if (wrap64 (t181 + 2)) ≤ (x7_2.length : Int) then ((some (x7_2.drop ((wrap64 (t181 + 2)) : Int).toNat : List (List (S62)))).bind fun y225 => (if y222.length + y225.length < 5864062014805 then (spec_l20Term.l1 k2 a2 (y222 ++ y225) x9_2 s0_0 bt207.2) else (none))) else (none)) else (none))) else (none))) else (none))) else (none))) else (none)))) else (none)) else (none)) else (none)) = some (r1, r2) := by first | (rw [hy200]; with_reducible exact H) | (have H2_ := (Option.bind_some _ _).symm.trans H; rw [hy200]; with_reducible exact H2_) | (have H2_ := (Option.bind_some _ _).symm.trans H; with_reducible exact H2_) | with_reducible exact H | (rw [hy200]; exact H) | exact H
            have Ny200 := Aside0.mk hy200
            clear hy200
            obtain ⟨ji51, hji51⟩ : ∃ j_ : Int, (wrap64 (t181 + 1)) = j_ := ⟨_, rfl⟩
            replace H : (if 0 ≤ (ji51) then (if (ji51) < (x7_2.length : Int) then (if y200.length + (rd_L3 x7_2 (ji51)).length < 8796093022208 then ((some (y200 ++ (rd_L3 x7_2 (ji51)) : List (S62))).bind fun y204 => ((spec_l20Rd_pick.f k2 s0_0 t184 3).bind fun bt207 => (if y204.length < 8796093022208 then ((some (([] : List (List (S62))) : List (List (S62)))).bind fun y212 => (if t181 ≤ (x7_2.length : Int) then ((some (x7_2.take (t181 : Int).toNat : List (List (S62)))).bind fun y215 => (if y212.length + y215.length < 5864062014805 then ((some (y212 ++ y215 : List (List (S62)))).bind fun y219 => (if y219.length < 5864062014805 then ((some (y219 ++ [(y204 ++ [(⟨wrap64 (3 + bt207.1), 0⟩ : S62)])] : List (List (S62)))).bind fun y222 => (if 0 ≤ (wrap64 (t181 + 2)) then (if (wrap64 (t181 + 2)) ≤ (x7_2.length : Int) then ((some (x7_2.drop ((wrap64 (t181 + 2)) : Int).toNat : List (List (S62)))).bind fun y225 => (if y222.length + y225.length < 5864062014805 then (spec_l20Term.l1 k2 a2 (y222 ++ y225) x9_2 s0_0 bt207.2) else (none))) else (none)) else (none))) else (none))) else (none))) else (none))) else (none)))) else (none)) else (none)) else (none)) = some (r1, r2) := by first | (rw [hji51] at H; exact H) | (simp only [hji51] at H ⊢; exact H)
            (try rw [hji51] at A30)
            (try rw [hji51] at A32)
            have hji51w : (IntKind.i64.wrap (t181 + 1)) = ji51 := (i64_w _).trans hji51
            by_cases c52 : 0 ≤ (ji51)
            ·rw [if_pos c52] at H
             have c52b0 : decide (0 ≤ (ji51)) = true := decide_eq_true c52
             clear c52
             by_cases c53 : (ji51) < (x7_2.length : Int)
             ·rw [if_pos c53] at H
              have c53b0 : decide ((ji51) < (x7_2.length : Int)) = true := decide_eq_true c53
              clear c53
              by_cases c54 : y200.length + (rd_L3 x7_2 (ji51)).length < 8796093022208
              ·rw [if_pos c54] at H
               have LMc54 := Aside0.mk c54
               clear c54
               obtain ⟨y204, hy204⟩ : ∃ y_ : List (S62), y_ = (y200 ++ (rd_L3 x7_2 (ji51))) := ⟨_, rfl⟩
               replace H : ((spec_l20Rd_pick.f k2 s0_0 t184 3).bind fun bt207 => (if y204.length < 8796093022208 then ((some (([] : List (List (S62))) : List (List (S62)))).bind fun y212 => (if t181 ≤ (x7_2.length : Int) then ((some (x7_2.take (t181 : Int).toNat : List (List (S62)))).bind fun y215 => (if y212.length + y215.length < 5864062014805 then ((some (y212 ++ y215 : List (List (S62)))).bind fun y219 => (if y219.length < 5864062014805 then ((some (y219 ++ [(y204 ++ [(⟨wrap64 (3 + bt207.1), 0⟩ : S62)])] : List (List (S62)))).bind fun y222 => (if 0 ≤ (wrap64 (t181 + 2)) then (if (wrap64 (t181 + 2)) ≤ (x7_2.length : Int) then ((some (x7_2.drop ((wrap64 (t181 + 2)) : Int).toNat : List (List (S62)))).bind fun y225 => (if y222.length + y225.length < 5864062014805 then (spec_l20Term.l1 k2 a2 (y222 ++ y225) x9_2 s0_0 bt207.2) else (none))) else (none)) else (none))) else (none))) else (none))) else (none))) else (none))) = some (r1, r2) := by first | (rw [hy204]; with_reducible exact H) | (have H2_ := (Option.bind_some _ _).symm.trans H; rw [hy204]; with_reducible exact H2_) | (have H2_ := (Option.bind_some _ _).symm.trans H; with_reducible exact H2_) | with_reducible exact H | (rw [hy204]; exact H) | exact H
               have Ny204 := Aside0.mk hy204
               clear hy204
               replace H := Option.bind_eq_some_iff.mp H
               obtain ⟨⟨t207, t208⟩, A550, H⟩ := H
               replace H : (if y204.length < 8796093022208 then ((some (([] : List (List (S62))) : List (List (S62)))).bind fun y212 => (if t181 ≤ (x7_2.length : Int) then ((some (x7_2.take (t181 : Int).toNat : List (List (S62)))).bind fun y215 => (if y212.length + y215.length < 5864062014805 then ((some (y212 ++ y215 : List (List (S62)))).bind fun y219 => (if y219.length < 5864062014805 then ((some (y219 ++ [(y204 ++ [(⟨wrap64 (3 + t207), 0⟩ : S62)])] : List (List (S62)))).bind fun y222 => (if 0 ≤ (wrap64 (t181 + 2)) then (if (wrap64 (t181 + 2)) ≤ (x7_2.length : Int) then ((some (x7_2.drop ((wrap64 (t181 + 2)) : Int).toNat : List (List (S62)))).bind fun y225 => (if y222.length + y225.length < 5864062014805 then (spec_l20Term.l1 k2 a2 (y222 ++ y225) x9_2 s0_0 t208) else (none))) else (none)) else (none))) else (none))) else (none))) else (none))) else (none)) = some (r1, r2) := H
               have A55 := Aside0.mk A550
               clear A550
               by_cases c56 : y204.length < 8796093022208
               ·rw [if_pos c56] at H
                have LMc56 := Aside0.mk c56
                clear c56
                obtain ⟨y209, hy209⟩ : ∃ y_ : List (S62), y_ = (y204 ++ [(⟨wrap64 (3 + t207), 0⟩ : S62)]) := ⟨_, rfl⟩
                replace H : ((some (([] : List (List (S62))) : List (List (S62)))).bind fun y212 => (if t181 ≤ (x7_2.length : Int) then ((some (x7_2.take (t181 : Int).toNat : List (List (S62)))).bind fun y215 => (if y212.length + y215.length < 5864062014805 then ((some (y212 ++ y215 : List (List (S62)))).bind fun y219 => (if y219.length < 5864062014805 then ((some (y219 ++ [y209] : List (List (S62)))).bind fun y222 => (if 0 ≤ (wrap64 (t181 + 2)) then (if (wrap64 (t181 + 2)) ≤ (x7_2.length : Int) then ((some (x7_2.drop ((wrap64 (t181 + 2)) : Int).toNat : List (List (S62)))).bind fun y225 => (if y222.length + y225.length < 5864062014805 then (spec_l20Term.l1 k2 a2 (y222 ++ y225) x9_2 s0_0 t208) else (none))) else (none)) else (none))) else (none))) else (none))) else (none))) = some (r1, r2) := by first | (rw [hy209]; with_reducible exact H) | (have H2_ := (Option.bind_some _ _).symm.trans H; rw [hy209]; with_reducible exact H2_) | (have H2_ := (Option.bind_some _ _).symm.trans H; with_reducible exact H2_) | with_reducible exact H | (rw [hy209]; exact H) | exact H
                have Ny209 := Aside0.mk hy209
                clear hy209
                obtain ⟨y212, hy212⟩ : ∃ y_ : List (List (S62)), y_ = (([] : List (List (S62)))) := ⟨_, rfl⟩
                replace H : (if t181 ≤ (x7_2.length : Int) then ((some (x7_2.take (t181 : Int).toNat : List (List (S62)))).bind fun y215 => (if y212.length + y215.length < 5864062014805 then ((some (y212 ++ y215 : List (List (S62)))).bind fun y219 => (if y219.length < 5864062014805 then ((some (y219 ++ [y209] : List (List (S62)))).bind fun y222 => (if 0 ≤ (wrap64 (t181 + 2)) then (if (wrap64 (t181 + 2)) ≤ (x7_2.length : Int) then ((some (x7_2.drop ((wrap64 (t181 + 2)) : Int).toNat : List (List (S62)))).bind fun y225 => (if y222.length + y225.length < 5864062014805 then (spec_l20Term.l1 k2 a2 (y222 ++ y225) x9_2 s0_0 t208) else (none))) else (none)) else (none))) else (none))) else (none))) else (none)) = some (r1, r2) := by first | (rw [hy212]; with_reducible exact H) | (have H2_ := (Option.bind_some _ _).symm.trans H; rw [hy212]; with_reducible exact H2_) | (have H2_ := (Option.bind_some _ _).symm.trans H; with_reducible exact H2_) | with_reducible exact H | (rw [hy212]; exact H) | exact H
                have Ny212 := Aside0.mk hy212
                clear hy212
                have c57b0 := eq_true (of_decide_eq_true pwb_ : 0 ≤ t181)
                by_cases c58 : t181 ≤ (x7_2.length : Int)
                ·rw [if_pos c58] at H
                 have c58b0 := eq_true c58
                 have c58b1 : decide (t181 ≤ (x7_2.length : Int)) = true := decide_eq_true c58
                 clear c58
                 obtain ⟨y215, hy215⟩ : ∃ y_ : List (List (S62)), y_ = (x7_2.take (t181 : Int).toNat) := ⟨_, rfl⟩
                 replace H : (if y212.length + y215.length < 5864062014805 then ((some (y212 ++ y215 : List (List (S62)))).bind fun y219 => (if y219.length < 5864062014805 then ((some (y219 ++ [y209] : List (List (S62)))).bind fun y222 => (if 0 ≤ (wrap64 (t181 + 2)) then (if (wrap64 (t181 + 2)) ≤ (x7_2.length : Int) then ((some (x7_2.drop ((wrap64 (t181 + 2)) : Int).toNat : List (List (S62)))).bind fun y225 => (if y222.length + y225.length < 5864062014805 then (spec_l20Term.l1 k2 a2 (y222 ++ y225) x9_2 s0_0 t208) else (none))) else (none)) else (none))) else (none))) else (none)) = some (r1, r2) := by first | (rw [hy215]; with_reducible exact H) | (have H2_ := (Option.bind_some _ _).symm.trans H; rw [hy215]; with_reducible exact H2_) | (have H2_ := (Option.bind_some _ _).symm.trans H; with_reducible exact H2_) | with_reducible exact H | (rw [hy215]; exact H) | exact H
                 have Ny215 := Aside0.mk hy215
                 clear hy215
                 by_cases c59 : y212.length + y215.length < 5864062014805
                 ·rw [if_pos c59] at H
                  have LMc59 := Aside0.mk c59
                  clear c59
                  obtain ⟨y219, hy219⟩ : ∃ y_ : List (List (S62)), y_ = (y212 ++ y215) := ⟨_, rfl⟩
                  replace H : (if y219.length < 5864062014805 then ((some (y219 ++ [y209] : List (List (S62)))).bind fun y222 => (if 0 ≤ (wrap64 (t181 + 2)) then (if (wrap64 (t181 + 2)) ≤ (x7_2.length : Int) then ((some (x7_2.drop ((wrap64 (t181 + 2)) : Int).toNat : List (List (S62)))).bind fun y225 => (if y222.length + y225.length < 5864062014805 then (spec_l20Term.l1 k2 a2 (y222 ++ y225) x9_2 s0_0 t208) else (none))) else (none)) else (none))) else (none)) = some (r1, r2) := by first | (rw [hy219]; with_reducible exact H) | (have H2_ := (Option.bind_some _ _).symm.trans H; rw [hy219]; with_reducible exact H2_) | (have H2_ := (Option.bind_some _ _).symm.trans H; with_reducible exact H2_) | with_reducible exact H | (rw [hy219]; exact H) | exact H
                  have Ny219 := Aside0.mk hy219
                  clear hy219
                  by_cases c60 : y219.length < 5864062014805
                  ·rw [if_pos c60] at H
                   have LMc60 := Aside0.mk c60
                   clear c60
                   obtain ⟨y222, hy222⟩ : ∃ y_ : List (List (S62)), y_ = (y219 ++ [y209]) := ⟨_, rfl⟩
                   replace H : (if 0 ≤ (wrap64 (t181 + 2)) then (if (wrap64 (t181 + 2)) ≤ (x7_2.length : Int) then ((some (x7_2.drop ((wrap64 (t181 + 2)) : Int).toNat : List (List (S62)))).bind fun y225 => (if y222.length + y225.length < 5864062014805 then (spec_l20Term.l1 k2 a2 (y222 ++ y225) x9_2 s0_0 t208) else (none))) else (none)) else (none)) = some (r1, r2) := by first | (rw [hy222]; with_reducible exact H) | (have H2_ := (Option.bind_some _ _).symm.trans H; rw [hy222]; with_reducible exact H2_) | (have H2_ := (Option.bind_some _ _).symm.trans H; with_reducible exact H2_) | with_reducible exact H | (rw [hy222]; exact H) | exact H
                   have Ny222 := Aside0.mk hy222
                   clear hy222
                   by_cases c61 : 0 ≤ (wrap64 (t181 + 2))
                   ·rw [if_pos c61] at H
                    have c61b0 := eq_true c61
                    have c61b1 : decide (0 ≤ (wrap64 (t181 + 2))) = true := decide_eq_true c61
                    by_cases c62 : (wrap64 (t181 + 2)) ≤ (x7_2.length : Int)
                    ·rw [if_pos c62] at H
                     have c62b0 := eq_true c62
                     have c62b1 : decide ((wrap64 (t181 + 2)) ≤ (x7_2.length : Int)) = true := decide_eq_true c62
                     obtain ⟨y225, hy225⟩ : ∃ y_ : List (List (S62)), y_ = (x7_2.drop ((wrap64 (t181 + 2)) : Int).toNat) := ⟨_, rfl⟩
                     replace H : (if y222.length + y225.length < 5864062014805 then (spec_l20Term.l1 k2 a2 (y222 ++ y225) x9_2 s0_0 t208) else (none)) = some (r1, r2) := by first | (rw [hy225]; with_reducible exact H) | (have H2_ := (Option.bind_some _ _).symm.trans H; rw [hy225]; with_reducible exact H2_) | (have H2_ := (Option.bind_some _ _).symm.trans H; with_reducible exact H2_) | with_reducible exact H | (rw [hy225]; exact H) | exact H
                     have Ny225 := Aside0.mk hy225
                     clear hy225
                     by_cases c63 : y222.length + y225.length < 5864062014805
                     ·rw [if_pos c63] at H
                      have LMc63 := Aside0.mk c63
                      clear c63
                      obtain ⟨y229, hy229⟩ : ∃ y_ : List (List (S62)), y_ = (y222 ++ y225) := ⟨_, rfl⟩
                      replace H : (spec_l20Term.l1 k2 a2 y229 x9_2 s0_0 t208) = some (r1, r2) := by first | (rw [hy229]; with_reducible exact H) | (have H2_ := (Option.bind_some _ _).symm.trans H; rw [hy229]; with_reducible exact H2_) | (have H2_ := (Option.bind_some _ _).symm.trans H; with_reducible exact H2_) | with_reducible exact H | (rw [hy229]; exact H) | exact H
                      have Ny229 := Aside0.mk hy229
                      clear hy229
                      have H' := Aside0.mk H
                      clear H
                      obtain ⟨Ao64, co64, eo64⟩ := Kd.R_slice HO_7.out
                      subst eo64
                      try go_wp2_with (first | ((with_reducible refine gate_callee (f := 60) rfl ?_); refine goesL_ (some 52) rfl rfl Try.func60 (by kernel_rfl) rfl #[.pointer (some ⟨g, 0, none⟩), .int .i64 (wrap64 ((x7_2.length : Int) - 1))] rfl pwk_ ?_; (with_reducible refine (spec_l20Rd_pick.calls k2 g s0_0 x1001_2 (wrap64 ((x7_2.length : Int) - 1)) t181 t182 w0 _ ?side1 ?side2 A30.out).mono ?_); (case side1 => repeat (first | (with_reducible first | exact HI0.out | apply IsS103.alloc | apply IsS103.drewN | apply IsS103.drew | apply IsS103.set_1) | exact HI0.out)); (case side2 => repeat (first | (with_reducible first | exact HB.out | apply below_alloc | apply pw_below_drewN | apply below_drew1 | refine below_set ?_ (IsS103.ge HI0.out)) | exact HB.out)); rintro e w65 ⟨rfl, hi, hb, hk⟩; refine ⟨_, rfl, ?_⟩; have n0_ := Aside0.mk (Kd.R_mono (Kd.R_keep (IsS103.apart (show IsS103 w0 _ g s0_0 x1001_2 from by repeat (first | (with_reducible first | exact HI0.out | apply IsS103.alloc | apply IsS103.drewN | apply IsS103.drew | apply IsS103.set_1) | exact HI0.out)) pwd_ (by decide)) hk (fun _ h => h.2)) (fun _ h => h.1)); have n1_ := Aside0.mk (KeepBut.trans pwl_ hk (.inl rfl)); have n2_ := Aside0.mk (hb); have n3_ := Aside0.mk (hi); clear HO_7; clear HK; clear HB; clear HI0; have HO_7 := n0_; have HK := n1_; have HB := n2_; have HI0 := n3_; clear n0_ n1_ n2_ n3_; (try clear hb); (try clear hb2); (try clear hk); (try clear hi)) | (go_at_call 60; (with_reducible refine (spec_l20Rd_pick.calls k2 g s0_0 t182 4 t183 t184 w0 _ ?side1 ?side2 A32.out).mono ?_); (case side1 => repeat (first | (with_reducible first | exact HI0.out | apply IsS103.alloc | apply IsS103.drewN | apply IsS103.drew | apply IsS103.set_1) | exact HI0.out)); (case side2 => repeat (first | (with_reducible first | exact HB.out | apply below_alloc | apply pw_below_drewN | apply below_drew1 | refine below_set ?_ (IsS103.ge HI0.out)) | exact HB.out)); rintro e w66 ⟨rfl, hi, hb, hk⟩; have n0_ := Aside0.mk (Kd.R_mono (Kd.R_keep (IsS103.apart (show IsS103 w0 _ g s0_0 t182 from by repeat (first | (with_reducible first | exact HI0.out | apply IsS103.alloc | apply IsS103.drewN | apply IsS103.drew | apply IsS103.set_1) | exact HI0.out)) pwd_ (by decide)) hk (fun _ h => h.2)) (fun _ h => h.1)); have n1_ := Aside0.mk (KeepBut.trans pwl_ hk (.inl rfl)); have n2_ := Aside0.mk (hb); have n3_ := Aside0.mk (hi); clear HO_7; clear HK; clear HB; clear HI0; have HO_7 := n0_; have HK := n1_; have HB := n2_; have HI0 := n3_; clear n0_ n1_ n2_ n3_; (try clear hb); (try clear hb2); (try clear hk); (try clear hi)))
                      have n0_ := Aside0.mk (Kd.R_drew HO_7.out)
                      have n1_ := Aside0.mk (IsS103.drew HI0.out)
                      have n2_ := Aside0.mk (keep_drew HK.out)
                      have n3_ := Aside0.mk (below_drew1 HB.out)
                      clear HO_7
                      clear HI0
                      clear HK
                      clear HB
                      have HO_7 := n0_
                      have HI0 := n1_
                      have HK := n2_
                      have HB := n3_
                      clear n0_ n1_ n2_ n3_
                      have p199 : 0 ≤ (t181 : Int) := of_decide_eq_true pwb_
                      have q199 : t181 < (x7_2.length : Int) := of_decide_eq_true pwb_
                      obtain ⟨ad199, A199_0, c199_0, e199, hx199_0, hl199_0, hi199_0⟩ := at_L3 (Kd.R_reads' HO_7.out).2.2 t181 p199 q199
                      cases e199
                      obtain ⟨ce199, hce199, hMe199, hcc199⟩ := Kd.R_get HO_7.out [] t181 p199 (by first | exact q199 | exact of_decide_eq_true pwb_ | (have e_ := (Kd.R_reads' HO_7.out).1; omega))
                      obtain ⟨ve199_0, rfl, ge199_0⟩ := hMe199
                      have hv199_0 := hcc199 0 _ rfl
                      rw [Nat.add_zero, show ((Kd.slice 62 k62)).sz = 1 from rfl, Nat.mul_one] at hv199_0
                      replace hv199_0 := Option.some.inj (hv199_0.symm.trans hx199_0)
                      rw [hv199_0] at ge199_0
                      have HL199_0 := Aside0.mk (show Kd.R k62 62 _ _ _ _ (rd_L3 x7_2 t181) from ge199_0)
                      clear hv199_0 ge199_0
                      clear hcc199 hce199
                      have HR199_0 := Aside0.mk hi199_0
                      have HC199_0 := Aside0.mk hl199_0
                      clear hi199_0 hl199_0
                      replace p199 := eq_true p199
                      replace q199 := eq_true q199
                      have p203 : 0 ≤ ((ji51) : Int) := of_decide_eq_true pwb_
                      have q203 : (ji51) < (x7_2.length : Int) := of_decide_eq_true pwb_
                      obtain ⟨ad203, A203_0, c203_0, e203, hx203_0, hl203_0, hi203_0⟩ := at_L3 (Kd.R_reads' HO_7.out).2.2 (ji51) p203 q203
                      obtain rfl : ad199 = ad203 := (by injection e203)
                      obtain ⟨ce203, hce203, hMe203, hcc203⟩ := Kd.R_get HO_7.out [] (ji51) p203 (by first | exact q203 | exact of_decide_eq_true pwb_ | (have e_ := (Kd.R_reads' HO_7.out).1; omega))
                      obtain ⟨ve203_0, rfl, ge203_0⟩ := hMe203
                      have hv203_0 := hcc203 0 _ rfl
                      rw [Nat.add_zero, show ((Kd.slice 62 k62)).sz = 1 from rfl, Nat.mul_one] at hv203_0
                      replace hv203_0 := Option.some.inj (hv203_0.symm.trans hx203_0)
                      rw [hv203_0] at ge203_0
                      have HL203_0 := Aside0.mk (show Kd.R k62 62 _ _ _ _ (rd_L3 x7_2 (ji51)) from ge203_0)
                      clear hv203_0 ge203_0
                      clear hcc203 hce203
                      have HR203_0 := Aside0.mk hi203_0
                      have HC203_0 := Aside0.mk hl203_0
                      clear hi203_0 hl203_0
                      replace p203 := eq_true p203
                      replace q203 := eq_true q203
                      refine start_ (n := 19) (S := fun w' => w'.cell? (ad199.add (t181).toNat) = some (.slice A199_0 (rd_L3 x7_2 t181).length c199_0) ∧ w'.cell? (ad199.add ((ji51)).toNat) = some (.slice A203_0 (rd_L3 x7_2 (ji51)).length c203_0)) (ds := [16]) #[false, false, false, false, false, false, false, false, false, false, false, false, false, false, false, false, false, false, false] (by kernel_rfl) rfl rfl ⟨hx199_0, hx203_0⟩ (fun hHeld => ?_); refine with_tabW spec_l20Term.tab15 spec_l20Term.bits15 (fun HT_ HW_ => ?_)
                      generalize w66.drew = w67 at HO_7 HI0 HK HB HL199_0 HL203_0 HR199_0 HR203_0 hx199_0 hx203_0 hHeld ⊢
                      refine pure_ (i := 1) (N := some 75) (v := ?_) (a' := ?_) #[false, true, false, false, false, false, false, false, false, false, false, false, false, false, false, false, false, false, false] rfl rfl (any_of HT_.out (by kernel_rfl)) (fun _ _ _ h => h) (Or.inl ⟨by rfl, ?_⟩) ?_ ?_
                      rotate_left
                      ·intro w'
                       go_simp
                       with_reducible rfl
                      rotate_left
                      ·simp only [Act.put, List.setIfInBounds_toArray, List.set_cons_zero, List.set_cons_succ, i64_w, i32_w]
                       rfl
                      refine pure_ (i := 2) (N := some 76) (v := ?_) (a' := ?_) #[false, true, true, false, false, false, false, false, false, false, false, false, false, false, false, false, false, false, false] rfl rfl (any_of HT_.out (by kernel_rfl)) (fun _ _ _ h => h) (Or.inl ⟨by rfl, ?_⟩) ?_ ?_
                      rotate_left
                      ·intro w'
                       go_simp
                       with_reducible rfl
                      rotate_left
                      ·simp only [Act.put, List.setIfInBounds_toArray, List.set_cons_zero, List.set_cons_succ, i64_w, i32_w]
                       rfl
                      refine pure_ (i := 3) (N := some 77) (v := ?_) (a' := ?_) #[false, true, true, true, false, false, false, false, false, false, false, false, false, false, false, false, false, false, false] rfl rfl (any_of HT_.out (by kernel_rfl)) (fun _ _ _ h => h) (Or.inl ⟨by rfl, ?_⟩) ?_ ?_
                      rotate_left
                      ·intro w'
                       go_simp
                       with_reducible rfl
                      rotate_left
                      ·simp only [Act.put, List.setIfInBounds_toArray, List.set_cons_zero, List.set_cons_succ, i64_w, i32_w]
                       rfl
                      refine pure_ (i := 6) (N := some 80) (v := ?_) (a' := ?_) #[false, true, true, true, false, false, true, false, false, false, false, false, false, false, false, false, false, false, false] rfl rfl (any_of HT_.out (by kernel_rfl)) (fun _ _ _ h => h) (Or.inl ⟨by rfl, ?_⟩) ?_ ?_
                      rotate_left
                      ·intro w'
                       go_simp
                       with_reducible rfl
                      rotate_left
                      ·simp only [Act.put, List.setIfInBounds_toArray, List.set_cons_zero, List.set_cons_succ, i64_w, i32_w]
                       rfl
                      refine pure_ (i := 7) (N := some 81) (v := ?_) (a' := ?_) #[false, true, true, true, false, false, true, true, false, false, false, false, false, false, false, false, false, false, false] rfl rfl (any_of HT_.out (by kernel_rfl)) (fun _ _ _ h => h) (Or.inl ⟨by rfl, ?_⟩) ?_ ?_
                      rotate_left
                      ·intro w'
                       go_simp
                       with_reducible rfl
                      rotate_left
                      ·simp only [Act.put, List.setIfInBounds_toArray, List.set_cons_zero, List.set_cons_succ, i64_w, i32_w]
                       rfl
                      refine pure_ (i := 8) (N := some 82) (v := ?_) (a' := ?_) #[false, true, true, true, false, false, true, true, true, false, false, false, false, false, false, false, false, false, false] rfl rfl (any_of HT_.out (by kernel_rfl)) (fun _ _ _ h => h) (Or.inl ⟨by rfl, ?_⟩) ?_ ?_
                      rotate_left
                      ·intro w'
                       go_simp
                       with_reducible rfl
                      rotate_left
                      ·simp only [Act.put, List.setIfInBounds_toArray, List.set_cons_zero, List.set_cons_succ, i64_w, i32_w]
                       rfl
                      refine pure_ (i := 9) (N := some 83) (v := ?_) (a' := ?_) #[false, true, true, true, false, false, true, true, true, true, false, false, false, false, false, false, false, false, false] rfl rfl (any_of HT_.out (by kernel_rfl)) (fun _ _ _ h => h) (Or.inl ⟨by rfl, ?_⟩) ?_ ?_
                      rotate_left
                      ·intro w'
                       go_simp
                       with_reducible rfl
                      rotate_left
                      ·simp only [Act.put, List.setIfInBounds_toArray, List.set_cons_zero, List.set_cons_succ, i64_w, i32_w]
                       rfl
                      refine pure_ (i := 12) (N := some 86) (v := ?_) (a' := ?_) #[false, true, true, true, false, false, true, true, true, true, false, false, true, false, false, false, false, false, false] rfl rfl (any_of HT_.out (by kernel_rfl)) (fun _ _ _ h => h) (Or.inl ⟨by rfl, ?_⟩) ?_ ?_
                      rotate_left
                      ·intro w'
                       go_simp
                       with_reducible rfl
                      rotate_left
                      ·simp only [Act.put, List.setIfInBounds_toArray, List.set_cons_zero, List.set_cons_succ, i64_w, i32_w]
                       rfl
                      refine take_ (i := 4) (N := some 78) (v := ?_) (a' := ?_) #[false, true, true, true, true, false, true, true, true, true, false, false, true, false, false, false, false, false, false] rfl rfl (take_ofW HT_.out HW_.out (by kernel_rfl)) (fun _ _ _ h => h) (Or.inl ⟨by rfl, ?_⟩) hHeld ?_ ?_
                      rotate_left
                      ·rintro w' ⟨s0, s1⟩
                       go_simp
                       with_reducible rfl
                      rotate_left
                      ·simp only [Act.put, List.setIfInBounds_toArray, List.set_cons_zero, List.set_cons_succ, i64_w, i32_w]
                       rfl
                      refine take_ (i := 10) (N := some 84) (v := ?_) (a' := ?_) #[false, true, true, true, true, false, true, true, true, true, true, false, true, false, false, false, false, false, false] rfl rfl (take_ofW HT_.out HW_.out (by kernel_rfl)) (fun _ _ _ h => h) (Or.inl ⟨by rfl, ?_⟩) hHeld ?_ ?_
                      rotate_left
                      ·rintro w' ⟨s0, s1⟩
                       go_simp
                       with_reducible rfl
                      rotate_left
                      ·simp only [Act.put, List.setIfInBounds_toArray, List.set_cons_zero, List.set_cons_succ, i64_w, i32_w]
                       rfl
                      refine one_ (i := 0) (N := some 74) #[true, true, true, true, true, false, true, true, true, true, true, false, true, false, false, false, false, false, false] rfl rfl (one_of HT_.out (by kernel_rfl)) (by decide) (fun K hK => ?_)
                      refine Kd.R_lit_step k62 _ 62 ?hg (N := 74) ?hd (xs := ([] : List (S62))) (inner := []) (ok := fun _ => True) (okp := fun _ => True) ?hr ?hp (fun _ hk => hk) trivial (Below.refl _ _) (Nat.le_refl _) (by simp) ?_; (case hd => rfl); (case hg => rfl); (case hr => first | (go_simp; done) | (go_simp; rfl)); (case hp => exact (Reps.none _ _))
                      intro v197 w68 ho69 hb hg_ hnew_
                      have HS0_ := (hb.cell (World.block_lt_of_cell? _ _ (hHeld.1))).trans (hHeld.1)
                      have HS1_ := (hb.cell (World.block_lt_of_cell? _ _ (hHeld.2))).trans (hHeld.2)
                      clear hg_ hnew_
                      (first | rw [← Ny196.out] at ho69 | (simp only [Int.reduceToNat] at ho69; rw [← Ny196.out] at ho69))
                      have n0_ := Aside0.mk (Kd.R_elder' pwd_ (Kd.R_base ho69) hb)
                      have n1_ := Aside0.mk (Kd.R_elder' (by (with_reducible repeat apply Kd.R_alloc); exact HL199_0.out) (Kd.R_base ho69) hb)
                      have n2_ := Aside0.mk (Kd.R_elder' (by (with_reducible repeat apply Kd.R_alloc); exact HL203_0.out) (Kd.R_base ho69) hb)
                      have n3_ := Aside0.mk (Kd.R_lower (Kd.R_new' (Kd.R_new' ho69 (Kd.R_lt (by (with_reducible repeat apply Kd.R_alloc); exact HL199_0.out))) (Kd.R_lt (by (with_reducible repeat apply Kd.R_alloc); exact HL203_0.out))) (keep_size (w := w) (g := g) (row := none) pwl_))
                      have n4_ := Aside0.mk (IsS103.below pwm_ hb)
                      have n5_ := Aside0.mk (Kd.C_below (by repeat (first | (with_reducible exact HR199_0.out) | (with_reducible refine Kd.C_alloc ?_ _) | (with_reducible refine Kd.C_drewN ?_ _) | (with_reducible refine Kd.C_drew ?_) | exact HR199_0.out)) hb)
                      have n6_ := Aside0.mk (Kd.C_below (by repeat (first | (with_reducible exact HR203_0.out) | (with_reducible refine Kd.C_alloc ?_ _) | (with_reducible refine Kd.C_drewN ?_ _) | (with_reducible refine Kd.C_drew ?_) | exact HR203_0.out)) hb)
                      have n7_ := Aside0.mk (KeepBut.trans pwl_ (KeepBut.of_below hb g none) (.inl rfl))
                      have n8_ := Aside0.mk (below_step pwo_ hb)
                      clear HO_7
                      clear HL199_0
                      clear HL203_0
                      clear HI0
                      clear HR199_0
                      clear HR203_0
                      clear HK
                      clear HB
                      have HO_7 := n0_
                      have HL199_0 := n1_
                      have HL203_0 := n2_
                      have HO198 := n3_
                      have HI0 := n4_
                      have HR199_0 := n5_
                      have HR203_0 := n6_
                      have HK := n7_
                      have HB := n8_
                      clear n0_ n1_ n2_ n3_ n4_ n5_ n6_ n7_ n8_
                      clear hb ho69
                      refine hK.out _ _ ⟨HS0_, HS1_⟩ (fun hHeld => ?_)
                      clear hK K
                      refine norm_ (a' := ?_) ?_ ?_
                      rotate_left
                      ·show Act.put _ (some 74) _ = _
                       simp only [Act.put, List.setIfInBounds_toArray, List.set_cons_zero, List.set_cons_succ, i64_w, i32_w]
                       rfl
                      refine one_ (i := 5) (N := some 79) #[true, true, true, true, true, true, true, true, true, true, true, false, true, false, false, false, false, false, false] rfl rfl (one_of HT_.out (by kernel_rfl)) (by decide) (fun K hK => ?_)
                      refine Kd.R_append_rows_step k62 w.heap.size (by rfl) (.tmp 74) (.tmp 78) 25 62 (.agg #[(.int .i64 0), (.int .i64 0)]) 16 rfl Try.underlying25 info62 rfl (by decide) (by omega) v197 y196 (rd_L3 x7_2 t181) _ _ _ (fun k_ => some k_ ≠ (.slice A199_0 (rd_L3 x7_2 t181).length c199_0 : Value).ownBlock ∧ some k_ ≠ (.slice A203_0 (rd_L3 x7_2 (ji51)).length c203_0 : Value).ownBlock) (fun _ => False) rfl rfl ?aO ?aR (fun _ _ h => h) (fun _ h => h.elim) ?aF (Below.refl _ _) ?aS ?aL ?_
                      (case aR => repeat (first | exact (by repeat (first | (with_reducible exact HR199_0.out) | (with_reducible refine Kd.C_alloc ?_ _) | (with_reducible refine Kd.C_drewN ?_ _) | (with_reducible refine Kd.C_drew ?_) | exact HR199_0.out)) | (with_reducible refine Kd.C_alloc ?_ _) | (with_reducible refine Kd.C_drewN ?_ _) | (with_reducible refine Kd.C_drew ?_)))
                      (case aF => exact (fun k_ hk => ⟨Kd.fresh' (Kd.R_lt (by (with_reducible repeat apply Kd.R_alloc); exact HL199_0.out)) k_ hk, Kd.fresh' (Kd.R_lt (by (with_reducible repeat apply Kd.R_alloc); exact HL203_0.out)) k_ hk⟩))
                      (case aO => exact (by (with_reducible repeat apply Kd.R_alloc); exact Kd.R_mono HO198.out (fun _ hk => ⟨hk.1.2, hk.2⟩)))
                      (case aS => exact (keep_size (w := w) (g := g) (row := none) pwl_))
                      (case aL => have := LMc50.out; omega)
                      intro v201 w70 ho hb hg hat
                      have HS0_ := cell_grown hg (hHeld.1) (by first | (rw [add_block]; exact ((HO_7.out.1 _ rfl).2)) | (show some (Addr.add _ _).block ≠ _; rw [add_block]; exact ((HO_7.out.1 _ rfl).2)) | exact ((HO_7.out.1 _ rfl).2))
                      have HS1_ := cell_grown hg (hHeld.2) (by first | (rw [add_block]; exact ((HO_7.out.1 _ rfl).2)) | (show some (Addr.add _ _).block ≠ _; rw [add_block]; exact ((HO_7.out.1 _ rfl).2)) | exact ((HO_7.out.1 _ rfl).2))
                      rw [← Ny200.out] at ho
                      have n0_ := Aside0.mk (Kd.R_after (ok := (fun _ => True)) pwd_ hg hat)
                      have n1_ := Aside0.mk (IsS103.grown pwm_ hg (IsS103.own_ne HI0.out HO198.out (by decide)))
                      have n2_ := Aside0.mk (Kd.R_after (ok := (fun k_ => some k_ ≠ (.slice (some ad199) x7_2.length co64 : Value).ownBlock)) (by (with_reducible repeat apply Kd.R_alloc); exact Kd.R_mono HL199_0.out (fun _ hk => ⟨hk.1.2, hk.2⟩)) hg hat)
                      have n3_ := Aside0.mk (Kd.R_after (ok := (fun k_ => some k_ ≠ (.slice (some ad199) x7_2.length co64 : Value).ownBlock)) (by (with_reducible repeat apply Kd.R_alloc); exact Kd.R_mono HL203_0.out (fun _ hk => ⟨hk.1.2, hk.2⟩)) hg hat)
                      have n4_ := Aside0.mk (below_weaken pwo_ HL.out hb)
                      have n5_ := Aside0.mk (KeepBut.trans pwl_ (KeepBut.of_grown hg g) (Kd.R_base2 HO198.out))
                      have n6_ := Aside0.mk (ho)
                      clear HO_7
                      clear HI0
                      clear HL199_0
                      clear HL203_0
                      clear HB
                      clear HK
                      clear HO198
                      have HO_7 := n0_
                      have HI0 := n1_
                      have HL199_0 := n2_
                      have HL203_0 := n3_
                      have HB := n4_
                      have HK := n5_
                      have HO202 := n6_
                      clear n0_ n1_ n2_ n3_ n4_ n5_ n6_
                      clear ho hb hg hat
                      refine hK.out _ _ ⟨HS0_, HS1_⟩ (fun hHeld => ?_)
                      clear hK K
                      refine norm_ (a' := ?_) ?_ ?_
                      rotate_left
                      ·show Act.put _ (some 79) _ = _
                       simp only [Act.put, List.setIfInBounds_toArray, List.set_cons_zero, List.set_cons_succ, i64_w, i32_w]
                       rfl
                      refine one_ (i := 11) (N := some 85) #[true, true, true, true, true, true, true, true, true, true, true, true, true, false, false, false, false, false, false] rfl rfl (one_of HT_.out (by kernel_rfl)) (by decide) (fun K hK => ?_)
                      refine Kd.R_append_rows_step k62 w.heap.size (by rfl) (.tmp 79) (.tmp 84) 25 62 (.agg #[(.int .i64 0), (.int .i64 0)]) 16 rfl Try.underlying25 info62 rfl (by decide) (by omega) v201 y200 (rd_L3 x7_2 (ji51)) _ _ _ (fun k_ => some k_ ≠ (.slice A199_0 (rd_L3 x7_2 t181).length c199_0 : Value).ownBlock ∧ some k_ ≠ (.slice A203_0 (rd_L3 x7_2 (ji51)).length c203_0 : Value).ownBlock) (fun _ => False) rfl rfl ?aO ?aR (fun _ _ h => h) (fun _ h => h.elim) ?aF (Below.refl _ _) ?aS ?aL ?_
                      (case aR => repeat (first | exact ((Kd.R_reads' (by (with_reducible repeat apply Kd.R_alloc); exact HL203_0.out)).2.2) | (with_reducible refine Kd.C_alloc ?_ _) | (with_reducible refine Kd.C_drewN ?_ _) | (with_reducible refine Kd.C_drew ?_)))
                      (case aF => exact (fun k_ hk => ⟨Kd.fresh' (Kd.R_lt (by (with_reducible repeat apply Kd.R_alloc); exact HL199_0.out)) k_ hk, Kd.fresh' (Kd.R_lt (by (with_reducible repeat apply Kd.R_alloc); exact HL203_0.out)) k_ hk⟩))
                      (case aO => exact (by (with_reducible repeat apply Kd.R_alloc); exact HO202.out))
                      (case aS => exact (keep_size (w := w) (g := g) (row := none) pwl_))
                      (case aL => have := LMc54.out; omega)
                      intro v205 w71 ho hb hg hat
                      have HS0_ := cell_grown hg (hHeld.1) (by first | (rw [add_block]; exact ((HO_7.out.1 _ rfl).2)) | (show some (Addr.add _ _).block ≠ _; rw [add_block]; exact ((HO_7.out.1 _ rfl).2)) | exact ((HO_7.out.1 _ rfl).2))
                      have HS1_ := cell_grown hg (hHeld.2) (by first | (rw [add_block]; exact ((HO_7.out.1 _ rfl).2)) | (show some (Addr.add _ _).block ≠ _; rw [add_block]; exact ((HO_7.out.1 _ rfl).2)) | exact ((HO_7.out.1 _ rfl).2))
                      rw [← Ny204.out] at ho
                      have n0_ := Aside0.mk (Kd.R_after (ok := (fun _ => True)) pwd_ hg hat)
                      have n1_ := Aside0.mk (IsS103.grown pwm_ hg (IsS103.own_ne HI0.out HO202.out (by decide)))
                      have n2_ := Aside0.mk (Kd.R_after (ok := (fun k_ => some k_ ≠ (.slice (some ad199) x7_2.length co64 : Value).ownBlock)) (by (with_reducible repeat apply Kd.R_alloc); exact HL199_0.out) hg hat)
                      have n3_ := Aside0.mk (Kd.R_after (ok := (fun k_ => some k_ ≠ (.slice (some ad199) x7_2.length co64 : Value).ownBlock)) (by (with_reducible repeat apply Kd.R_alloc); exact HL203_0.out) hg hat)
                      have n4_ := Aside0.mk (below_weaken pwo_ HL.out hb)
                      have n5_ := Aside0.mk (KeepBut.trans pwl_ (KeepBut.of_grown hg g) (Kd.R_base2 HO202.out))
                      have n6_ := Aside0.mk (ho)
                      clear HO_7
                      clear HI0
                      clear HL199_0
                      clear HL203_0
                      clear HB
                      clear HK
                      clear HO202
                      have HO_7 := n0_
                      have HI0 := n1_
                      have HL199_0 := n2_
                      have HL203_0 := n3_
                      have HB := n4_
                      have HK := n5_
                      have HO206 := n6_
                      clear n0_ n1_ n2_ n3_ n4_ n5_ n6_
                      clear ho hb hg hat
                      refine hK.out _ _ ⟨HS0_, HS1_⟩ (fun hHeld => ?_)
                      clear hK K
                      refine norm_ (a' := ?_) ?_ ?_
                      rotate_left
                      ·show Act.put _ (some 85) _ = _
                       simp only [Act.put, List.setIfInBounds_toArray, List.set_cons_zero, List.set_cons_succ, i64_w, i32_w]
                       rfl
                      refine one_ (i := 13) (N := some 87) #[true, true, true, true, true, true, true, true, true, true, true, true, true, true, false, false, false, false, false] rfl rfl (one_of HT_.out (by kernel_rfl)) (by decide) (fun K hK => ?_)
                      refine goes_ Try.func60 (by kernel_rfl) rfl #[.pointer (some ⟨g, 0, none⟩), .int .i64 3] (by rfl) rfl rfl pwk_ ?_
                      with_reducible refine (spec_l20Rd_pick.calls k2 g s0_0 t184 3 t207 t208 w0 _ ?side1 ?side2 A55.out).mono ?_
                      (case side1 => repeat (first | (with_reducible first | exact HI0.out | apply IsS103.alloc | apply IsS103.drewN | apply IsS103.drew | apply IsS103.set_1) | exact HI0.out))
                      (case side2 => repeat (first | (with_reducible first | exact HB.out | apply below_alloc | apply pw_below_drewN | apply below_drew1 | refine below_set ?_ (IsS103.ge HI0.out)) | exact HB.out))
                      rintro e w72 ⟨rfl, hi, hb, hk⟩
                      have HS0_ := keep_cell hk (hHeld.1) (by first | (rw [add_block]; exact Kd.own_blk (IsS103.own_ne HI0.out HO_7.out (by decide))) | (show (Addr.add _ _).block ≠ _; rw [add_block]; exact Kd.own_blk (IsS103.own_ne HI0.out HO_7.out (by decide))) | exact Kd.own_blk (IsS103.own_ne HI0.out HO_7.out (by decide)))
                      have HS1_ := keep_cell hk (hHeld.2) (by first | (rw [add_block]; exact Kd.own_blk (IsS103.own_ne HI0.out HO_7.out (by decide))) | (show (Addr.add _ _).block ≠ _; rw [add_block]; exact Kd.own_blk (IsS103.own_ne HI0.out HO_7.out (by decide))) | exact Kd.own_blk (IsS103.own_ne HI0.out HO_7.out (by decide)))
                      refine ⟨_, rfl, ?_⟩
                      have n0_ := Aside0.mk (Kd.R_mono (Kd.R_keep (IsS103.apart (show IsS103 w0 _ g s0_0 t184 from by repeat (first | (with_reducible first | exact HI0.out | apply IsS103.alloc | apply IsS103.drewN | apply IsS103.drew | apply IsS103.set_1) | exact HI0.out)) pwd_ (by decide)) hk (fun _ h => h.2)) (fun _ h => h.1))
                      have n1_ := Aside0.mk (Kd.R_mono (Kd.R_keep (IsS103.apart (show IsS103 w0 _ g s0_0 t184 from by repeat (first | (with_reducible first | exact HI0.out | apply IsS103.alloc | apply IsS103.drewN | apply IsS103.drew | apply IsS103.set_1) | exact HI0.out)) (by (with_reducible repeat apply Kd.R_alloc); exact HL199_0.out) (by decide)) hk (fun _ h => h.2)) (fun _ h => h.1))
                      have n2_ := Aside0.mk (Kd.R_mono (Kd.R_keep (IsS103.apart (show IsS103 w0 _ g s0_0 t184 from by repeat (first | (with_reducible first | exact HI0.out | apply IsS103.alloc | apply IsS103.drewN | apply IsS103.drew | apply IsS103.set_1) | exact HI0.out)) (by (with_reducible repeat apply Kd.R_alloc); exact HL203_0.out) (by decide)) hk (fun _ h => h.2)) (fun _ h => h.1))
                      have n3_ := Aside0.mk (Kd.R_mono (Kd.R_keep (IsS103.apart (show IsS103 w0 _ g s0_0 t184 from by repeat (first | (with_reducible first | exact HI0.out | apply IsS103.alloc | apply IsS103.drewN | apply IsS103.drew | apply IsS103.set_1) | exact HI0.out)) (by (with_reducible repeat apply Kd.R_alloc); exact HO206.out) (by decide)) hk (fun _ h => h.2)) (fun _ h => h.1))
                      have n4_ := Aside0.mk (KeepBut.trans pwl_ hk (.inl rfl))
                      have n5_ := Aside0.mk (hb)
                      have n6_ := Aside0.mk (hi)
                      clear HO_7
                      clear HL199_0
                      clear HL203_0
                      clear HO206
                      clear HK
                      clear HB
                      clear HI0
                      have HO_7 := n0_
                      have HL199_0 := n1_
                      have HL203_0 := n2_
                      have HO206 := n3_
                      have HK := n4_
                      have HB := n5_
                      have HI0 := n6_
                      clear n0_ n1_ n2_ n3_ n4_ n5_ n6_
                      (try clear hb)
                      (try clear hb2)
                      (try clear hk)
                      (try clear hi)
                      refine hK.out _ _ ⟨HS0_, HS1_⟩ (fun hHeld => ?_)
                      clear hK K
                      refine norm_ (a' := ?_) ?_ ?_
                      rotate_left
                      ·show Act.put _ (some 87) _ = _
                       simp only [Act.put, List.setIfInBounds_toArray, List.set_cons_zero, List.set_cons_succ, i64_w, i32_w]
                       rfl
                      refine pure_ (i := 14) (N := some 88) (v := ?_) (a' := ?_) #[true, true, true, true, true, true, true, true, true, true, true, true, true, true, true, false, false, false, false] rfl rfl (any_of HT_.out (by kernel_rfl)) (fun _ _ _ h => h) (Or.inl ⟨by rfl, ?_⟩) ?_ ?_
                      rotate_left
                      ·intro w'
                       go_simp
                       with_reducible rfl
                      rotate_left
                      ·simp only [Act.put, List.setIfInBounds_toArray, List.set_cons_zero, List.set_cons_succ, i64_w, i32_w]
                       rfl
                      refine pure_ (i := 15) (N := some 89) (v := ?_) (a' := ?_) #[true, true, true, true, true, true, true, true, true, true, true, true, true, true, true, true, false, false, false] rfl rfl (any_of HT_.out (by kernel_rfl)) (fun _ _ _ h => h) (Or.inl ⟨by rfl, ?_⟩) ?_ ?_
                      rotate_left
                      ·intro w'
                       go_simp
                       with_reducible rfl
                      rotate_left
                      ·simp only [Act.put, List.setIfInBounds_toArray, List.set_cons_zero, List.set_cons_succ, i64_w, i32_w]
                       rfl
                      refine last_ (i := 16) (N := some 90) #[true, true, true, true, true, true, true, true, true, true, true, true, true, true, true, true, true, false, false] rfl rfl (one_of HT_.out (by kernel_rfl)) (by decide) (fun K hK => ?_)
                      refine value_ (w1 := ?_) (v := ?_) (by rfl) rfl ?_ ?_
                      rotate_left 2
                      ·go_simp
                       constructor
                       ·rfl
                       ·rfl
                      refine hK.out _ _ ?_
                      clear hK K
                      refine norm_ (a' := ?_) ?_ ?_
                      rotate_left
                      ·show Act.put _ (some 90) _ = _
                       simp only [Act.put, List.setIfInBounds_toArray, List.set_cons_zero, List.set_cons_succ, i64_w, i32_w]
                       rfl
                      refine one_ (i := 17) (N := some 91) #[true, true, true, true, true, true, true, true, true, true, true, true, true, true, true, true, true, true, false] rfl rfl (one_of HT_.out (by kernel_rfl)) (by decide) (fun K hK => ?_)
                      refine Kd.R_append_step k62 w.heap.size (by rfl) (.tmp 85) (.tmp 90) 25 62 (.agg #[(.int .i64 0), (.int .i64 0)]) 16 rfl Try.underlying25 info62 rfl (by decide) (by omega) v205 y204 (⟨wrap64 (3 + t207), 0⟩ : S62) [.int .i64 (wrap64 (3 + t207)), .int .i64 0] (fun k_ => some k_ ≠ (.slice A199_0 (rd_L3 x7_2 t181).length c199_0 : Value).ownBlock ∧ some k_ ≠ (.slice A203_0 (rd_L3 x7_2 (ji51)).length c203_0 : Value).ownBlock) (fun _ => False) rfl rfl ?aP (fun _ hk => hk.elim) ?aF ?aO (Below.refl _ _) ?aS ?aL ?_
                      (case aP => exact k62_mkM _ _ _ (⟨wrap64 (3 + t207), 0⟩ : S62))
                      (case aF => exact (fun k_ hk => ⟨Kd.fresh' (Kd.R_lt (by (with_reducible repeat apply Kd.R_alloc); exact HL199_0.out)) k_ hk, Kd.fresh' (Kd.R_lt (by (with_reducible repeat apply Kd.R_alloc); exact HL203_0.out)) k_ hk⟩))
                      (case aO => exact (by (with_reducible repeat apply Kd.R_alloc); exact HO206.out))
                      (case aS => exact (keep_size (w := w) (g := g) (row := none) pwl_))
                      (case aL => have := LMc56.out; omega)
                      intro v210 w73 ho hb hg hat
                      have HS0_ := cell_grown hg (hHeld.1) (by first | (rw [add_block]; exact ((HO_7.out.1 _ rfl).2)) | (show some (Addr.add _ _).block ≠ _; rw [add_block]; exact ((HO_7.out.1 _ rfl).2)) | exact ((HO_7.out.1 _ rfl).2))
                      have HS1_ := cell_grown hg (hHeld.2) (by first | (rw [add_block]; exact ((HO_7.out.1 _ rfl).2)) | (show some (Addr.add _ _).block ≠ _; rw [add_block]; exact ((HO_7.out.1 _ rfl).2)) | exact ((HO_7.out.1 _ rfl).2))
                      rw [← Ny209.out] at ho
                      have n0_ := Aside0.mk (Kd.R_after (ok := (fun _ => True)) pwd_ hg hat)
                      have n1_ := Aside0.mk (IsS103.grown pwm_ hg (IsS103.own_ne HI0.out HO206.out (by decide)))
                      have n2_ := Aside0.mk (Kd.R_after (ok := (fun k_ => some k_ ≠ (.slice (some ad199) x7_2.length co64 : Value).ownBlock)) (by (with_reducible repeat apply Kd.R_alloc); exact HL199_0.out) hg hat)
                      have n3_ := Aside0.mk (Kd.R_after (ok := (fun k_ => some k_ ≠ (.slice (some ad199) x7_2.length co64 : Value).ownBlock)) (by (with_reducible repeat apply Kd.R_alloc); exact HL203_0.out) hg hat)
                      have n4_ := Aside0.mk (below_weaken pwo_ HL.out hb)
                      have n5_ := Aside0.mk (KeepBut.trans pwl_ (KeepBut.of_grown hg g) (Kd.R_base2 HO206.out))
                      have n6_ := Aside0.mk (ho)
                      clear HO_7
                      clear HI0
                      clear HL199_0
                      clear HL203_0
                      clear HB
                      clear HK
                      clear HO206
                      have HO_7 := n0_
                      have HI0 := n1_
                      have HL199_0 := n2_
                      have HL203_0 := n3_
                      have HB := n4_
                      have HK := n5_
                      have HO211 := n6_
                      clear n0_ n1_ n2_ n3_ n4_ n5_ n6_
                      clear ho hb hg hat
                      refine hK.out _ _ ⟨HS0_, HS1_⟩ (fun hHeld => ?_)
                      clear hK K
                      refine norm_ (a' := ?_) ?_ ?_
                      rotate_left
                      ·show Act.put _ (some 91) _ = _
                       simp only [Act.put, List.setIfInBounds_toArray, List.set_cons_zero, List.set_cons_succ, i64_w, i32_w]
                       rfl
                      refine pure_ (i := 18) (N := some 11) (v := ?_) (a' := ?_) #[true, true, true, true, true, true, true, true, true, true, true, true, true, true, true, true, true, true, true] rfl rfl (any_of HT_.out (by kernel_rfl)) (fun _ _ _ h => h) (Or.inl ⟨by rfl, ?_⟩) ?_ ?_
                      rotate_left
                      ·intro w'
                       go_simp
                       with_reducible rfl
                      rotate_left
                      ·simp only [Act.put, List.setIfInBounds_toArray, List.set_cons_zero, List.set_cons_succ, i64_w, i32_w]
                       rfl
                      refine done_ (done_of HT_.out (by kernel_rfl)) ?_
                      try go_wp2_with (first | ((with_reducible refine gate_dst (N := 92) rfl ?_); refine Kd.R_lit (Kd.slice 62 k62) _ 25 ?hg (N := 92) ?hd (xs := ([] : List (List (S62)))) (inner := []) (ok := fun _ => True) (okp := fun _ => True) ?hr ?hp (fun _ hk => hk) trivial (Below.refl _ _) (Nat.le_refl _) (by simp) ?_; (case hd => rfl); (case hg => rfl); (case hr => first | (go_simp; done) | (go_simp; rfl)); (case hp => exact (Reps.none _ _)); intro v213 w74 ho75 hb hg_ hnew_; clear hg_ hnew_; (first | rw [← Ny212.out] at ho75 | (simp only [Int.reduceToNat] at ho75; rw [← Ny212.out] at ho75)); have n0_ := Aside0.mk (Kd.R_elder' pwd_ (Kd.R_base ho75) hb); have n1_ := Aside0.mk (Kd.R_below (by (with_reducible repeat apply Kd.R_alloc); exact HL199_0.out) hb); have n2_ := Aside0.mk (Kd.R_below (by (with_reducible repeat apply Kd.R_alloc); exact HL203_0.out) hb); have n3_ := Aside0.mk (Kd.R_below (by (with_reducible repeat apply Kd.R_alloc); exact HO211.out) hb); have n4_ := Aside0.mk (Kd.R_lower (Kd.R_new' (Kd.R_new' (Kd.R_new' (Kd.R_new' ho75 (Kd.R_lt pwd_)) (Kd.R_lt (by (with_reducible repeat apply Kd.R_alloc); exact HL199_0.out))) (Kd.R_lt (by (with_reducible repeat apply Kd.R_alloc); exact HL203_0.out))) (Kd.R_lt (by (with_reducible repeat apply Kd.R_alloc); exact HO211.out))) (keep_size (w := w) (g := g) (row := none) pwl_)); have n5_ := Aside0.mk (IsS103.below pwm_ hb); have n6_ := Aside0.mk (KeepBut.trans pwl_ (KeepBut.of_below hb g none) (.inl rfl)); have n7_ := Aside0.mk (below_step pwo_ hb); clear HO_7; clear HL199_0; clear HL203_0; clear HO211; clear HI0; clear HK; clear HB; have HO_7 := n0_; have HL199_0 := n1_; have HL203_0 := n2_; have HO211 := n3_; have HO214 := n4_; have HI0 := n5_; have HK := n6_; have HB := n7_; clear n0_ n1_ n2_ n3_ n4_ n5_ n6_ n7_; clear hb ho75; have q76 : (t181 : Int) ≤ ((x7_2.length : Int) : Int) := of_decide_eq_true pwb_; obtain ⟨i076, hi076, _, hsz76, _⟩ := info_parts info25; have hroom76 : x7_2.length ≤ co64 := (Kd.R_reads' HO_7.out).2.1; have hC76 : Kd.C (Kd.slice 62 k62) _ (some ad199) x7_2.length x7_2 := (Kd.R_reads' HO_7.out).2.2; have hcut76 := cut_to (P := Try.prog) 104 25 .i64 Try.underlying104 hi076 (some ad199) x7_2.length co64 t181 (of_decide_eq_true pwb_) q76 hroom76; have hr76 := Kd.C_take (m := (t181 : Int).toNat) hC76 (by omega); have hy76 : y215.length = (t181 : Int).toNat := (by rw [Ny215.out, List.length_take]; omega); rw [← Ny215.out] at hr76; rw [← hy76] at hcut76; have HR218 := Aside0.mk hr76; have HC218 := Aside0.mk (show y215.length ≤ co64 from by omega); clear hr76 hC76 hroom76 hi076 hsz76; have KY76 := Aside0.mk hy76; clear hy76; have KL76 := Aside0.mk (show (t181 : Int).toNat ≤ x7_2.length from by omega); replace q76 := eq_true q76) | ((with_reducible refine gate_builtin (b := .append) (xs := #[.tmp 92, .tmp 95]) rfl ?_); at_builtin; refine Kd.R_append_rows (Kd.slice 62 k62) w.heap.size rfl (.tmp 92) (.tmp 95) 104 25 (.slice none 0 0) 24 rfl Try.underlying104 info25 rfl (by decide) (by omega) v213 y212 y215 _ _ _ (fun k_ => some k_ ≠ (.slice (some ad199) x7_2.length co64 : Value).ownBlock ∧ some k_ ≠ (v210 : Value).ownBlock) (fun k_ => ((fun k_ => some k_ ≠ (.slice (some ad199) x7_2.length co64 : Value).ownBlock ∧ some k_ ≠ (v210 : Value).ownBlock)) k_ ∧ some k_ ≠ (v213 : Value).ownBlock) rfl rfl ?aO ?aR (fun _ _ h => h) (fun _ hk => hk) ?aF (Below.refl _ _) ?aS ?aL ?_; (case aR => rw [Ny215.out]; exact Kd.C_take (m := (t181 : Int).toNat) (Kd.R_frozen (okp := (fun k_ => ((fun k_ => some k_ ≠ (.slice (some ad199) x7_2.length co64 : Value).ownBlock ∧ some k_ ≠ (v210 : Value).ownBlock)) k_ ∧ some k_ ≠ (v213 : Value).ownBlock)) (HO_7.out) (fun k_ hk => ⟨⟨hk.2, hk.1.1.2⟩, hk.1.2⟩)).2.2 KL76.out); (case aF => exact (fun k_ hk => ⟨Kd.fresh' (Kd.R_lt pwd_) k_ hk, Kd.fresh' (Kd.R_lt (by (with_reducible repeat apply Kd.R_alloc); exact HO211.out)) k_ hk⟩)); (case aO => exact (by (with_reducible repeat apply Kd.R_alloc); exact Kd.R_mono HO214.out (fun _ hk => ⟨hk.1.1.1.2, hk.2⟩))); (case aS => exact (keep_size (w := w) (g := g) (row := none) pwl_)); (case aL => have := LMc59.out; omega); intro v220 w77 ho hb hg hat; rw [← Ny219.out] at ho; have n0_ := Aside0.mk (Kd.R_after (ok := (fun k_ => some k_ ≠ (v210 : Value).ownBlock)) (by (with_reducible repeat apply Kd.R_alloc); exact Kd.R_mono HO_7.out (fun _ hk => ⟨hk.1.2, hk.2⟩)) hg hat); have n1_ := Aside0.mk (IsS103.grown pwm_ hg (IsS103.own_ne HI0.out HO214.out (by decide))); have n2_ := Aside0.mk (Kd.R_over' (by (with_reducible repeat apply Kd.R_alloc); exact HO211.out) (Kd.R_typed (by (with_reducible repeat apply Kd.R_alloc); exact HO214.out)) (by decide) hg); have n3_ := Aside0.mk (below_weaken pwo_ HL.out hb); have n4_ := Aside0.mk (KeepBut.trans pwl_ (KeepBut.of_grown hg g) (Kd.R_base2 HO214.out)); have n5_ := Aside0.mk ((show Kd.C (Kd.slice 62 k62) w77 (some ad199) y215.length y215 from by rw [Ny215.out]; exact Kd.C_take (m := (t181 : Int).toNat) ((Kd.R_reads' (Kd.R_after (ok := (fun k_ => some k_ ≠ (v210 : Value).ownBlock)) (by (with_reducible repeat apply Kd.R_alloc); exact Kd.R_mono HO_7.out (fun _ hk => ⟨hk.1.2, hk.2⟩)) hg hat)).2.2) KL76.out)); have n6_ := Aside0.mk (ho); clear HO_7; clear HI0; clear HO211; clear HB; clear HK; clear HR218; clear HO214; have HO_7 := n0_; have HI0 := n1_; have HO211 := n2_; have HB := n3_; have HK := n4_; have HR218 := n5_; have HO221 := n6_; clear n0_ n1_ n2_ n3_ n4_ n5_ n6_; clear ho hb hg hat; obtain ⟨Ao79, co79, eo79⟩ := Kd.R_slice HO211.out; subst eo79) | ((with_reducible refine gate_builtin (b := .append) (xs := #[.tmp 97, .tmp 99]) rfl ?_); at_builtin; refine Kd.R_append (Kd.slice 62 k62) w.heap.size rfl (.tmp 97) (.tmp 99) 104 25 (.slice none 0 0) 24 rfl Try.underlying104 info25 rfl (by decide) (by omega) v220 y219 y209 [.slice Ao79 y209.length co79] (fun k_ => some k_ ≠ (.slice (some ad199) x7_2.length co64 : Value).ownBlock) (fun k_ => ((fun k_ => some k_ ≠ (.slice (some ad199) x7_2.length co64 : Value).ownBlock)) k_ ∧ some k_ ≠ (v220 : Value).ownBlock) rfl rfl ?aP (fun _ hk => hk) ?aF ?aO (Below.refl _ _) ?aS ?aL ?_; (case aP => exact Kd.M_row (Kd.R_mono (Kd.R_apart' (Kd.R_apart' (HO211.out) (Kd.R_typed HO_7.out) (by decide)) (Kd.R_typed HO221.out) (by decide)) (fun k_ hk => ⟨hk.1.2, hk.2⟩))); (case aF => exact (fun k_ hk => Kd.fresh' (Kd.R_lt pwd_) k_ hk)); (case aO => exact (by (with_reducible repeat apply Kd.R_alloc); exact Kd.R_mono HO221.out (fun _ hk => hk.1))); (case aS => exact (keep_size (w := w) (g := g) (row := none) pwl_)); (case aL => have := LMc60.out; omega); intro v223 w78 ho hb hg hat; rw [← Ny222.out] at ho; have n0_ := Aside0.mk (Kd.R_after (ok := (fun k_ => some k_ ≠ (.slice Ao79 y209.length co79 : Value).ownBlock)) pwd_ hg hat); have n1_ := Aside0.mk (IsS103.grown pwm_ hg (IsS103.own_ne HI0.out HO221.out (by decide))); have n2_ := Aside0.mk (below_weaken pwo_ HL.out hb); have n3_ := Aside0.mk (KeepBut.trans pwl_ (KeepBut.of_grown hg g) (Kd.R_base2 HO221.out)); have n4_ := Aside0.mk ((show Kd.C (Kd.slice 62 k62) w78 (some ad199) y215.length y215 from by rw [Ny215.out]; exact Kd.C_take (m := (t181 : Int).toNat) ((Kd.R_reads' (Kd.R_after (ok := (fun k_ => some k_ ≠ (.slice Ao79 y209.length co79 : Value).ownBlock)) pwd_ hg hat)).2.2) KL76.out)); have n5_ := Aside0.mk (ho); clear HO_7; clear HI0; clear HB; clear HK; clear HR218; clear HO221; clear HO211; have HO_7 := n0_; have HI0 := n1_; have HB := n2_; have HK := n3_; have HR218 := n4_; have HO224 := n5_; clear n0_ n1_ n2_ n3_ n4_ n5_; clear ho hb hg hat; have q80 : ((wrap64 (t181 + 2)) : Int) ≤ ((x7_2.length : Int) : Int) := of_decide_eq_true pwb_; obtain ⟨i080, hi080, _, hsz80, _⟩ := info_parts info25; have hroom80 : x7_2.length ≤ co64 := (Kd.R_reads' HO_7.out).2.1; have hC80 : Kd.C (Kd.slice 62 k62) _ (some ad199) x7_2.length x7_2 := (Kd.R_reads' HO_7.out).2.2; have q080 : (0 : Int) ≤ ((wrap64 (t181 + 2)) : Int) := of_decide_eq_true pwb_; have hcut80 := cut_from (P := Try.prog) 104 25 .i64 Try.underlying104 hi080 1 hsz80 (some ad199) x7_2.length co64 (wrap64 (t181 + 2)) q080 q80; have hr80 := Kd.C_drop (m := ((wrap64 (t181 + 2)) : Int).toNat) (c := co64) hC80 (by omega) hroom80; obtain ⟨A80, hA80⟩ : ∃ A1, A1 = (if co64 = ((wrap64 (t181 + 2)) : Int).toNat then (some ad199) else ((some ad199) : Option Addr).map (·.add (((wrap64 (t181 + 2)) : Int).toNat * 1))) := ⟨_, rfl⟩; obtain ⟨c80, hc80⟩ : ∃ c1, c1 = co64 - ((wrap64 (t181 + 2)) : Int).toNat := ⟨_, rfl⟩; have hy80 : y225.length = x7_2.length - ((wrap64 (t181 + 2)) : Int).toNat := (by rw [Ny225.out, List.length_drop] <;> omega); rw [show (x7_2).drop ((wrap64 (t181 + 2)) : Int).toNat = y225 from Ny225.out.symm] at hr80; replace hr80 : Kd.C (Kd.slice 62 k62) _ A80 y225.length y225 := (by rw [hA80]; exact hr80); rw [← hy80, ← hA80, ← hc80] at hcut80; have HR228 := Aside0.mk hr80; have HC228 := Aside0.mk (show y225.length ≤ c80 from by rw [hy80, hc80]; exact Nat.sub_le_sub_right hroom80 _); clear hr80 hC80 hroom80 hi080 hsz80 hc80; have KY80 := Aside0.mk hy80; have KA80 := Aside0.mk hA80; clear hy80 hA80; have KL80 := Aside0.mk (show ((wrap64 (t181 + 2)) : Int).toNat ≤ x7_2.length from by omega); replace q80 := eq_true q80) | ((with_reducible refine gate_builtin (b := .append) (xs := #[.tmp 101, .tmp 105]) rfl ?_); at_builtin; refine Kd.R_append_rows (Kd.slice 62 k62) w.heap.size rfl (.tmp 101) (.tmp 105) 104 25 (.slice none 0 0) 24 rfl Try.underlying104 info25 rfl (by decide) (by omega) v223 y222 y225 _ _ _ (fun k_ => some k_ ≠ (.slice (some ad199) x7_2.length co64 : Value).ownBlock) (fun k_ => ((fun k_ => some k_ ≠ (.slice (some ad199) x7_2.length co64 : Value).ownBlock)) k_ ∧ some k_ ≠ (v223 : Value).ownBlock) rfl rfl ?aO ?aR (fun _ _ h => h) (fun _ hk => hk) ?aF (Below.refl _ _) ?aS ?aL ?_; (case aR => rw [Ny225.out, KA80.out]; exact Kd.C_drop (m := ((wrap64 (t181 + 2)) : Int).toNat) (c := co64) (Kd.R_frozen (okp := (fun k_ => ((fun k_ => some k_ ≠ (.slice (some ad199) x7_2.length co64 : Value).ownBlock)) k_ ∧ some k_ ≠ (v223 : Value).ownBlock)) (HO_7.out) (fun k_ hk => ⟨hk.2, hk.1.2⟩)).2.2 KL80.out (Kd.R_frozen (okp := (fun k_ => ((fun k_ => some k_ ≠ (.slice (some ad199) x7_2.length co64 : Value).ownBlock)) k_ ∧ some k_ ≠ (v223 : Value).ownBlock)) (HO_7.out) (fun k_ hk => ⟨hk.2, hk.1.2⟩)).2.1); (case aF => exact (fun k_ hk => Kd.fresh' (Kd.R_lt pwd_) k_ hk)); (case aO => exact (by (with_reducible repeat apply Kd.R_alloc); exact HO224.out)); (case aS => exact (keep_size (w := w) (g := g) (row := none) pwl_)); (case aL => have := LMc63.out; omega); intro v230 w81 ho hb hg hat; rw [← Ny229.out] at ho; have n0_ := Aside0.mk (Kd.R_after (ok := (fun _ => True)) (by (with_reducible repeat apply Kd.R_alloc); exact Kd.R_mono HO_7.out (fun _ hk => ⟨trivial, hk.2⟩)) hg hat); have n1_ := Aside0.mk (IsS103.grown pwm_ hg (IsS103.own_ne HI0.out HO224.out (by decide))); have n2_ := Aside0.mk (below_weaken pwo_ HL.out hb); have n3_ := Aside0.mk (KeepBut.trans pwl_ (KeepBut.of_grown hg g) (Kd.R_base2 HO224.out)); have n4_ := Aside0.mk ((show Kd.C (Kd.slice 62 k62) w81 (some ad199) y215.length y215 from by rw [Ny215.out]; exact Kd.C_take (m := (t181 : Int).toNat) ((Kd.R_reads' (Kd.R_after (ok := (fun _ => True)) (by (with_reducible repeat apply Kd.R_alloc); exact Kd.R_mono HO_7.out (fun _ hk => ⟨trivial, hk.2⟩)) hg hat)).2.2) KL76.out)); have n5_ := Aside0.mk ((show Kd.C (Kd.slice 62 k62) w81 A80 y225.length y225 from by rw [Ny225.out, KA80.out]; exact Kd.C_drop (m := ((wrap64 (t181 + 2)) : Int).toNat) (c := co64) ((Kd.R_reads' (Kd.R_after (ok := (fun _ => True)) (by (with_reducible repeat apply Kd.R_alloc); exact Kd.R_mono HO_7.out (fun _ hk => ⟨trivial, hk.2⟩)) hg hat)).2.2) KL80.out ((Kd.R_reads' (Kd.R_after (ok := (fun _ => True)) (by (with_reducible repeat apply Kd.R_alloc); exact Kd.R_mono HO_7.out (fun _ hk => ⟨trivial, hk.2⟩)) hg hat)).2.1))); have n6_ := Aside0.mk (ho); clear HO_7; clear HI0; clear HB; clear HK; clear HR218; clear HR228; clear HO224; have HO_7 := n0_; have HI0 := n1_; have HB := n2_; have HK := n3_; have HR218 := n4_; have HR228 := n5_; have HO231 := n6_; clear n0_ n1_ n2_ n3_ n4_ n5_ n6_; clear ho hb hg hat))
                      go_roundg k2
                      case measure => have := HK1.out; have := HK2.out; omega
                      case rel => exact ⟨(y229), (x9_2), (t208), pwa_, H', ⟨by have := HK1.out; have := HK2.out; omega⟩, ⟨by (with_reducible repeat apply Kd.R_alloc); exact Kd.R_mono HO231.out (fun _ hk => trivial)⟩, ⟨pwm_⟩, ⟨pwl_⟩, ⟨pwo_⟩⟩
                     ·rw [if_neg c63] at H
                      exact absurd H (by simp)
                    ·rw [if_neg c62] at H
                     exact absurd H (by simp)
                   ·rw [if_neg c61] at H
                    exact absurd H (by simp)
                  ·rw [if_neg c60] at H
                   exact absurd H (by simp)
                 ·rw [if_neg c59] at H
                  exact absurd H (by simp)
                ·rw [if_neg c58] at H
                 exact absurd H (by simp)
               ·rw [if_neg c56] at H
                exact absurd H (by simp)
              ·rw [if_neg c54] at H
               exact absurd H (by simp)
             ·rw [if_neg c53] at H
              exact absurd H (by simp)
            ·rw [if_neg c52] at H
             exact absurd H (by simp)
           ·rw [if_neg c50] at H
            exact absurd H (by simp)
          ·rw [if_neg c49] at H
           exact absurd H (by simp)
         ·rw [if_neg c48] at H
          exact absurd H (by simp)
       ·rw [if_neg c31] at H
        have c31b0 : decide (0 < x9_2) = false := decide_eq_false c31
        clear c31
        obtain ⟨y232, hy232⟩ : ∃ y_ : List (S62), y_ = (([] : List (S62))) := ⟨_, rfl⟩
        replace H : (if 0 ≤ t181 then (if t181 < (x7_2.length : Int) then (if y232.length + (rd_L3 x7_2 t181).length < 8796093022208 then ((some (y232 ++ (rd_L3 x7_2 t181) : List (S62))).bind fun y236 => (if 0 ≤ (wrap64 (t181 + 1)) then (if (wrap64 (t181 + 1)) < (x7_2.length : Int) then (if y236.length + (rd_L3 x7_2 (wrap64 (t181 + 1))).length < 8796093022208 then ((some (y236 ++ (rd_L3 x7_2 (wrap64 (t181 + 1))) : List (S62))).bind fun y240 => ((spec_l20Rd_pick.f k2 s0_0 t182 3).bind fun bt243 => (if y240.length < 8796093022208 then ((some (([] : List (List (S62))) : List (List (S62)))).bind fun y248 => (if t181 ≤ (x7_2.length : Int) then ((some (x7_2.take (t181 : Int).toNat : List (List (S62)))).bind fun y251 => (if y248.length + y251.length < 5864062014805 then ((some (y248 ++ y251 : List (List (S62)))).bind fun y255 => (if y255.length < 5864062014805 then ((some (y255 ++ [(y240 ++ [(⟨wrap64 (3 + bt243.1), 0⟩ : S62)])] : List (List (S62)))).bind fun y258 => (if 0 ≤ (wrap64 (t181 + 2)) then (if (wrap64 (t181 + 2)) ≤ (x7_2.length : Int) then ((some (x7_2.drop ((wrap64 (t181 + 2)) : Int).toNat : List (List (S62)))).bind fun y261 => (if y258.length + y261.length < 5864062014805 then (spec_l20Term.l1 k2 a2 (y258 ++ y261) x9_2 s0_0 bt243.2) else (none))) else (none)) else (none))) else (none))) else (none))) else (none))) else (none)))) else (none)) else (none)) else (none))) else (none)) else (none)) else (none)) = some (r1, r2) := by first | (rw [hy232]; with_reducible exact H) | (have H2_ := (Option.bind_some _ _).symm.trans H; rw [hy232]; with_reducible exact H2_) | (have H2_ := (Option.bind_some _ _).symm.trans H; with_reducible exact H2_) | with_reducible exact H | (rw [hy232]; exact H) | exact H
        have Ny232 := Aside0.mk hy232
        clear hy232
        by_cases c82 : 0 ≤ t181
        ·rw [if_pos c82] at H
         have c82b0 : decide (0 ≤ t181) = true := decide_eq_true c82
         clear c82
         by_cases c83 : t181 < (x7_2.length : Int)
         ·rw [if_pos c83] at H
          have c83b0 : decide (t181 < (x7_2.length : Int)) = true := decide_eq_true c83
          clear c83
          by_cases c84 : y232.length + (rd_L3 x7_2 t181).length < 8796093022208
          ·rw [if_pos c84] at H
           have LMc84 := Aside0.mk c84
           clear c84
           obtain ⟨y236, hy236⟩ : ∃ y_ : List (S62), y_ = (y232 ++ (rd_L3 x7_2 t181)) := ⟨_, rfl⟩
           replace H : (if 0 ≤ (wrap64 (t181 + 1)) then (if (wrap64 (t181 + 1)) < (x7_2.length : Int) then (if y236.length + (rd_L3 x7_2 (wrap64 (t181 + 1))).length < 8796093022208 then ((some (y236 ++ (rd_L3 x7_2 (wrap64 (t181 + 1))) : List (S62))).bind fun y240 => ((spec_l20Rd_pick.f k2 s0_0 t182 3).bind fun bt243 => (if y240.length < 8796093022208 then ((some (([] : List (List (S62))) : List (List (S62)))).bind fun y248 => (if t181 ≤ (x7_2.length : Int) then ((some (x7_2.take (t181 : Int).toNat : List (List (S62)))).bind fun y251 => (if y248.length + y251.length < 5864062014805 then ((some (y248 ++ y251 : List (List (S62)))).bind fun y255 => (if y255.length < 5864062014805 then ((some (y255 ++ [(y240 ++ [(⟨wrap64 (3 + bt243.1), 0⟩ : S62)])] : List (List (S62)))).bind fun y258 => (if 0 ≤ (wrap64 (t181 + 2)) then (if (wrap64 (t181 + 2)) ≤ (x7_2.length : Int) then ((some (x7_2.drop ((wrap64 (t181 + 2)) : Int).toNat : List (List (S62)))).bind fun y261 => (if y258.length + y261.length < 5864062014805 then (spec_l20Term.l1 k2 a2 (y258 ++ y261) x9_2 s0_0 bt243.2) else (none))) else (none)) else (none))) else (none))) else (none))) else (none))) else (none)))) else (none)) else (none)) else (none)) = some (r1, r2) := by first | (rw [hy236]; with_reducible exact H) | (have H2_ := (Option.bind_some _ _).symm.trans H; rw [hy236]; with_reducible exact H2_) | (have H2_ := (Option.bind_some _ _).symm.trans H; with_reducible exact H2_) | with_reducible exact H | (rw [hy236]; exact H) | exact H
           have Ny236 := Aside0.mk hy236
           clear hy236
           obtain ⟨ji85, hji85⟩ : ∃ j_ : Int, (wrap64 (t181 + 1)) = j_ := ⟨_, rfl⟩
           replace H : (if 0 ≤ (ji85) then (if (ji85) < (x7_2.length : Int) then (if y236.length + (rd_L3 x7_2 (ji85)).length < 8796093022208 then ((some (y236 ++ (rd_L3 x7_2 (ji85)) : List (S62))).bind fun y240 => ((spec_l20Rd_pick.f k2 s0_0 t182 3).bind fun bt243 => (if y240.length < 8796093022208 then ((some (([] : List (List (S62))) : List (List (S62)))).bind fun y248 => (if t181 ≤ (x7_2.length : Int) then ((some (x7_2.take (t181 : Int).toNat : List (List (S62)))).bind fun y251 => (if y248.length + y251.length < 5864062014805 then ((some (y248 ++ y251 : List (List (S62)))).bind fun y255 => (if y255.length < 5864062014805 then ((some (y255 ++ [(y240 ++ [(⟨wrap64 (3 + bt243.1), 0⟩ : S62)])] : List (List (S62)))).bind fun y258 => (if 0 ≤ (wrap64 (t181 + 2)) then (if (wrap64 (t181 + 2)) ≤ (x7_2.length : Int) then ((some (x7_2.drop ((wrap64 (t181 + 2)) : Int).toNat : List (List (S62)))).bind fun y261 => (if y258.length + y261.length < 5864062014805 then (spec_l20Term.l1 k2 a2 (y258 ++ y261) x9_2 s0_0 bt243.2) else (none))) else (none)) else (none))) else (none))) else (none))) else (none))) else (none)))) else (none)) else (none)) else (none)) = some (r1, r2) := by first | (rw [hji85] at H; exact H) | (simp only [hji85] at H ⊢; exact H)
           (try rw [hji85] at A30)
           have hji85w : (IntKind.i64.wrap (t181 + 1)) = ji85 := (i64_w _).trans hji85
           by_cases c86 : 0 ≤ (ji85)
           ·rw [if_pos c86] at H
            have c86b0 : decide (0 ≤ (ji85)) = true := decide_eq_true c86
            clear c86
            by_cases c87 : (ji85) < (x7_2.length : Int)
            ·rw [if_pos c87] at H
             have c87b0 : decide ((ji85) < (x7_2.length : Int)) = true := decide_eq_true c87
             clear c87
             by_cases c88 : y236.length + (rd_L3 x7_2 (ji85)).length < 8796093022208
             ·rw [if_pos c88] at H
              have LMc88 := Aside0.mk c88
              clear c88
              obtain ⟨y240, hy240⟩ : ∃ y_ : List (S62), y_ = (y236 ++ (rd_L3 x7_2 (ji85))) := ⟨_, rfl⟩
              replace H : ((spec_l20Rd_pick.f k2 s0_0 t182 3).bind fun bt243 => (if y240.length < 8796093022208 then ((some (([] : List (List (S62))) : List (List (S62)))).bind fun y248 => (if t181 ≤ (x7_2.length : Int) then ((some (x7_2.take (t181 : Int).toNat : List (List (S62)))).bind fun y251 => (if y248.length + y251.length < 5864062014805 then ((some (y248 ++ y251 : List (List (S62)))).bind fun y255 => (if y255.length < 5864062014805 then ((some (y255 ++ [(y240 ++ [(⟨wrap64 (3 + bt243.1), 0⟩ : S62)])] : List (List (S62)))).bind fun y258 => (if 0 ≤ (wrap64 (t181 + 2)) then (if (wrap64 (t181 + 2)) ≤ (x7_2.length : Int) then ((some (x7_2.drop ((wrap64 (t181 + 2)) : Int).toNat : List (List (S62)))).bind fun y261 => (if y258.length + y261.length < 5864062014805 then (spec_l20Term.l1 k2 a2 (y258 ++ y261) x9_2 s0_0 bt243.2) else (none))) else (none)) else (none))) else (none))) else (none))) else (none))) else (none))) = some (r1, r2) := by first | (rw [hy240]; with_reducible exact H) | (have H2_ := (Option.bind_some _ _).symm.trans H; rw [hy240]; with_reducible exact H2_) | (have H2_ := (Option.bind_some _ _).symm.trans H; with_reducible exact H2_) | with_reducible exact H | (rw [hy240]; exact H) | exact H
              have Ny240 := Aside0.mk hy240
              clear hy240
              replace H := Option.bind_eq_some_iff.mp H
              obtain ⟨⟨t243, t244⟩, A890, H⟩ := H
              replace H : (if y240.length < 8796093022208 then ((some (([] : List (List (S62))) : List (List (S62)))).bind fun y248 => (if t181 ≤ (x7_2.length : Int) then ((some (x7_2.take (t181 : Int).toNat : List (List (S62)))).bind fun y251 => (if y248.length + y251.length < 5864062014805 then ((some (y248 ++ y251 : List (List (S62)))).bind fun y255 => (if y255.length < 5864062014805 then ((some (y255 ++ [(y240 ++ [(⟨wrap64 (3 + t243), 0⟩ : S62)])] : List (List (S62)))).bind fun y258 => (if 0 ≤ (wrap64 (t181 + 2)) then (if (wrap64 (t181 + 2)) ≤ (x7_2.length : Int) then ((some (x7_2.drop ((wrap64 (t181 + 2)) : Int).toNat : List (List (S62)))).bind fun y261 => (if y258.length + y261.length < 5864062014805 then (spec_l20Term.l1 k2 a2 (y258 ++ y261) x9_2 s0_0 t244) else (none))) else (none)) else (none))) else (none))) else (none))) else (none))) else (none)) = some (r1, r2) := H
              have A89 := Aside0.mk A890
              clear A890
              by_cases c90 : y240.length < 8796093022208
              ·rw [if_pos c90] at H
               have LMc90 := Aside0.mk c90
               clear c90
               obtain ⟨y245, hy245⟩ : ∃ y_ : List (S62), y_ = (y240 ++ [(⟨wrap64 (3 + t243), 0⟩ : S62)]) := ⟨_, rfl⟩
               replace H : ((some (([] : List (List (S62))) : List (List (S62)))).bind fun y248 => (if t181 ≤ (x7_2.length : Int) then ((some (x7_2.take (t181 : Int).toNat : List (List (S62)))).bind fun y251 => (if y248.length + y251.length < 5864062014805 then ((some (y248 ++ y251 : List (List (S62)))).bind fun y255 => (if y255.length < 5864062014805 then ((some (y255 ++ [y245] : List (List (S62)))).bind fun y258 => (if 0 ≤ (wrap64 (t181 + 2)) then (if (wrap64 (t181 + 2)) ≤ (x7_2.length : Int) then ((some (x7_2.drop ((wrap64 (t181 + 2)) : Int).toNat : List (List (S62)))).bind fun y261 => (if y258.length + y261.length < 5864062014805 then (spec_l20Term.l1 k2 a2 (y258 ++ y261) x9_2 s0_0 t244) else (none))) else (none)) else (none))) else (none))) else (none))) else (none))) = some (r1, r2) := by first | (rw [hy245]; with_reducible exact H) | (have H2_ := (Option.bind_some _ _).symm.trans H; rw [hy245]; with_reducible exact H2_) | (have H2_ := (Option.bind_some _ _).symm.trans H; with_reducible exact H2_) | with_reducible exact H | (rw [hy245]; exact H) | exact H
               have Ny245 := Aside0.mk hy245
               clear hy245
               obtain ⟨y248, hy248⟩ : ∃ y_ : List (List (S62)), y_ = (([] : List (List (S62)))) := ⟨_, rfl⟩
               replace H : (if t181 ≤ (x7_2.length : Int) then ((some (x7_2.take (t181 : Int).toNat : List (List (S62)))).bind fun y251 => (if y248.length + y251.length < 5864062014805 then ((some (y248 ++ y251 : List (List (S62)))).bind fun y255 => (if y255.length < 5864062014805 then ((some (y255 ++ [y245] : List (List (S62)))).bind fun y258 => (if 0 ≤ (wrap64 (t181 + 2)) then (if (wrap64 (t181 + 2)) ≤ (x7_2.length : Int) then ((some (x7_2.drop ((wrap64 (t181 + 2)) : Int).toNat : List (List (S62)))).bind fun y261 => (if y258.length + y261.length < 5864062014805 then (spec_l20Term.l1 k2 a2 (y258 ++ y261) x9_2 s0_0 t244) else (none))) else (none)) else (none))) else (none))) else (none))) else (none)) = some (r1, r2) := by first | (rw [hy248]; with_reducible exact H) | (have H2_ := (Option.bind_some _ _).symm.trans H; rw [hy248]; with_reducible exact H2_) | (have H2_ := (Option.bind_some _ _).symm.trans H; with_reducible exact H2_) | with_reducible exact H | (rw [hy248]; exact H) | exact H
               have Ny248 := Aside0.mk hy248
               clear hy248
               have c91b0 := eq_true (of_decide_eq_true pwb_ : 0 ≤ t181)
               by_cases c92 : t181 ≤ (x7_2.length : Int)
               ·rw [if_pos c92] at H
                have c92b0 := eq_true c92
                have c92b1 : decide (t181 ≤ (x7_2.length : Int)) = true := decide_eq_true c92
                clear c92
                obtain ⟨y251, hy251⟩ : ∃ y_ : List (List (S62)), y_ = (x7_2.take (t181 : Int).toNat) := ⟨_, rfl⟩
                replace H : (if y248.length + y251.length < 5864062014805 then ((some (y248 ++ y251 : List (List (S62)))).bind fun y255 => (if y255.length < 5864062014805 then ((some (y255 ++ [y245] : List (List (S62)))).bind fun y258 => (if 0 ≤ (wrap64 (t181 + 2)) then (if (wrap64 (t181 + 2)) ≤ (x7_2.length : Int) then ((some (x7_2.drop ((wrap64 (t181 + 2)) : Int).toNat : List (List (S62)))).bind fun y261 => (if y258.length + y261.length < 5864062014805 then (spec_l20Term.l1 k2 a2 (y258 ++ y261) x9_2 s0_0 t244) else (none))) else (none)) else (none))) else (none))) else (none)) = some (r1, r2) := by first | (rw [hy251]; with_reducible exact H) | (have H2_ := (Option.bind_some _ _).symm.trans H; rw [hy251]; with_reducible exact H2_) | (have H2_ := (Option.bind_some _ _).symm.trans H; with_reducible exact H2_) | with_reducible exact H | (rw [hy251]; exact H) | exact H
                have Ny251 := Aside0.mk hy251
                clear hy251
                by_cases c93 : y248.length + y251.length < 5864062014805
                ·rw [if_pos c93] at H
                 have LMc93 := Aside0.mk c93
                 clear c93
                 obtain ⟨y255, hy255⟩ : ∃ y_ : List (List (S62)), y_ = (y248 ++ y251) := ⟨_, rfl⟩
                 replace H : (if y255.length < 5864062014805 then ((some (y255 ++ [y245] : List (List (S62)))).bind fun y258 => (if 0 ≤ (wrap64 (t181 + 2)) then (if (wrap64 (t181 + 2)) ≤ (x7_2.length : Int) then ((some (x7_2.drop ((wrap64 (t181 + 2)) : Int).toNat : List (List (S62)))).bind fun y261 => (if y258.length + y261.length < 5864062014805 then (spec_l20Term.l1 k2 a2 (y258 ++ y261) x9_2 s0_0 t244) else (none))) else (none)) else (none))) else (none)) = some (r1, r2) := by first | (rw [hy255]; with_reducible exact H) | (have H2_ := (Option.bind_some _ _).symm.trans H; rw [hy255]; with_reducible exact H2_) | (have H2_ := (Option.bind_some _ _).symm.trans H; with_reducible exact H2_) | with_reducible exact H | (rw [hy255]; exact H) | exact H
                 have Ny255 := Aside0.mk hy255
                 clear hy255
                 by_cases c94 : y255.length < 5864062014805
                 ·rw [if_pos c94] at H
                  have LMc94 := Aside0.mk c94
                  clear c94
                  obtain ⟨y258, hy258⟩ : ∃ y_ : List (List (S62)), y_ = (y255 ++ [y245]) := ⟨_, rfl⟩
                  replace H : (if 0 ≤ (wrap64 (t181 + 2)) then (if (wrap64 (t181 + 2)) ≤ (x7_2.length : Int) then ((some (x7_2.drop ((wrap64 (t181 + 2)) : Int).toNat : List (List (S62)))).bind fun y261 => (if y258.length + y261.length < 5864062014805 then (spec_l20Term.l1 k2 a2 (y258 ++ y261) x9_2 s0_0 t244) else (none))) else (none)) else (none)) = some (r1, r2) := by first | (rw [hy258]; with_reducible exact H) | (have H2_ := (Option.bind_some _ _).symm.trans H; rw [hy258]; with_reducible exact H2_) | (have H2_ := (Option.bind_some _ _).symm.trans H; with_reducible exact H2_) | with_reducible exact H | (rw [hy258]; exact H) | exact H
                  have Ny258 := Aside0.mk hy258
                  clear hy258
                  by_cases c95 : 0 ≤ (wrap64 (t181 + 2))
                  ·rw [if_pos c95] at H
                   have c95b0 := eq_true c95
                   have c95b1 : decide (0 ≤ (wrap64 (t181 + 2))) = true := decide_eq_true c95
                   by_cases c96 : (wrap64 (t181 + 2)) ≤ (x7_2.length : Int)
                   ·rw [if_pos c96] at H
                    have c96b0 := eq_true c96
                    have c96b1 : decide ((wrap64 (t181 + 2)) ≤ (x7_2.length : Int)) = true := decide_eq_true c96
                    obtain ⟨y261, hy261⟩ : ∃ y_ : List (List (S62)), y_ = (x7_2.drop ((wrap64 (t181 + 2)) : Int).toNat) := ⟨_, rfl⟩
                    replace H : (if y258.length + y261.length < 5864062014805 then (spec_l20Term.l1 k2 a2 (y258 ++ y261) x9_2 s0_0 t244) else (none)) = some (r1, r2) := by first | (rw [hy261]; with_reducible exact H) | (have H2_ := (Option.bind_some _ _).symm.trans H; rw [hy261]; with_reducible exact H2_) | (have H2_ := (Option.bind_some _ _).symm.trans H; with_reducible exact H2_) | with_reducible exact H | (rw [hy261]; exact H) | exact H
                    have Ny261 := Aside0.mk hy261
                    clear hy261
                    by_cases c97 : y258.length + y261.length < 5864062014805
                    ·rw [if_pos c97] at H
                     have LMc97 := Aside0.mk c97
                     clear c97
                     obtain ⟨y265, hy265⟩ : ∃ y_ : List (List (S62)), y_ = (y258 ++ y261) := ⟨_, rfl⟩
                     replace H : (spec_l20Term.l1 k2 a2 y265 x9_2 s0_0 t244) = some (r1, r2) := by first | (rw [hy265]; with_reducible exact H) | (have H2_ := (Option.bind_some _ _).symm.trans H; rw [hy265]; with_reducible exact H2_) | (have H2_ := (Option.bind_some _ _).symm.trans H; with_reducible exact H2_) | with_reducible exact H | (rw [hy265]; exact H) | exact H
                     have Ny265 := Aside0.mk hy265
                     clear hy265
                     have H' := Aside0.mk H
                     clear H
                     obtain ⟨Ao98, co98, eo98⟩ := Kd.R_slice HO_7.out
                     subst eo98
                     try go_wp2_with (first | ((with_reducible refine gate_callee (f := 60) rfl ?_); refine goesL_ (some 52) rfl rfl Try.func60 (by kernel_rfl) rfl #[.pointer (some ⟨g, 0, none⟩), .int .i64 (wrap64 ((x7_2.length : Int) - 1))] rfl pwk_ ?_; (with_reducible refine (spec_l20Rd_pick.calls k2 g s0_0 x1001_2 (wrap64 ((x7_2.length : Int) - 1)) t181 t182 w0 _ ?side1 ?side2 A30.out).mono ?_); (case side1 => repeat (first | (with_reducible first | exact HI0.out | apply IsS103.alloc | apply IsS103.drewN | apply IsS103.drew | apply IsS103.set_1) | exact HI0.out)); (case side2 => repeat (first | (with_reducible first | exact HB.out | apply below_alloc | apply pw_below_drewN | apply below_drew1 | refine below_set ?_ (IsS103.ge HI0.out)) | exact HB.out)); rintro e w99 ⟨rfl, hi, hb, hk⟩; refine ⟨_, rfl, ?_⟩; have n0_ := Aside0.mk (Kd.R_mono (Kd.R_keep (IsS103.apart (show IsS103 w0 _ g s0_0 x1001_2 from by repeat (first | (with_reducible first | exact HI0.out | apply IsS103.alloc | apply IsS103.drewN | apply IsS103.drew | apply IsS103.set_1) | exact HI0.out)) pwd_ (by decide)) hk (fun _ h => h.2)) (fun _ h => h.1)); have n1_ := Aside0.mk (KeepBut.trans pwl_ hk (.inl rfl)); have n2_ := Aside0.mk (hb); have n3_ := Aside0.mk (hi); clear HO_7; clear HK; clear HB; clear HI0; have HO_7 := n0_; have HK := n1_; have HB := n2_; have HI0 := n3_; clear n0_ n1_ n2_ n3_; (try clear hb); (try clear hb2); (try clear hk); (try clear hi)))
                     have n0_ := Aside0.mk (Kd.R_drew HO_7.out)
                     have n1_ := Aside0.mk (IsS103.drew HI0.out)
                     have n2_ := Aside0.mk (keep_drew HK.out)
                     have n3_ := Aside0.mk (below_drew1 HB.out)
                     clear HO_7
                     clear HI0
                     clear HK
                     clear HB
                     have HO_7 := n0_
                     have HI0 := n1_
                     have HK := n2_
                     have HB := n3_
                     clear n0_ n1_ n2_ n3_
                     have p235 : 0 ≤ (t181 : Int) := of_decide_eq_true pwb_
                     have q235 : t181 < (x7_2.length : Int) := of_decide_eq_true pwb_
                     obtain ⟨ad235, A235_0, c235_0, e235, hx235_0, hl235_0, hi235_0⟩ := at_L3 (Kd.R_reads' HO_7.out).2.2 t181 p235 q235
                     cases e235
                     obtain ⟨ce235, hce235, hMe235, hcc235⟩ := Kd.R_get HO_7.out [] t181 p235 (by first | exact q235 | exact of_decide_eq_true pwb_ | (have e_ := (Kd.R_reads' HO_7.out).1; omega))
                     obtain ⟨ve235_0, rfl, ge235_0⟩ := hMe235
                     have hv235_0 := hcc235 0 _ rfl
                     rw [Nat.add_zero, show ((Kd.slice 62 k62)).sz = 1 from rfl, Nat.mul_one] at hv235_0
                     replace hv235_0 := Option.some.inj (hv235_0.symm.trans hx235_0)
                     rw [hv235_0] at ge235_0
                     have HL235_0 := Aside0.mk (show Kd.R k62 62 _ _ _ _ (rd_L3 x7_2 t181) from ge235_0)
                     clear hv235_0 ge235_0
                     clear hcc235 hce235
                     have HR235_0 := Aside0.mk hi235_0
                     have HC235_0 := Aside0.mk hl235_0
                     clear hi235_0 hl235_0
                     replace p235 := eq_true p235
                     replace q235 := eq_true q235
                     have p239 : 0 ≤ ((ji85) : Int) := of_decide_eq_true pwb_
                     have q239 : (ji85) < (x7_2.length : Int) := of_decide_eq_true pwb_
                     obtain ⟨ad239, A239_0, c239_0, e239, hx239_0, hl239_0, hi239_0⟩ := at_L3 (Kd.R_reads' HO_7.out).2.2 (ji85) p239 q239
                     obtain rfl : ad235 = ad239 := (by injection e239)
                     obtain ⟨ce239, hce239, hMe239, hcc239⟩ := Kd.R_get HO_7.out [] (ji85) p239 (by first | exact q239 | exact of_decide_eq_true pwb_ | (have e_ := (Kd.R_reads' HO_7.out).1; omega))
                     obtain ⟨ve239_0, rfl, ge239_0⟩ := hMe239
                     have hv239_0 := hcc239 0 _ rfl
                     rw [Nat.add_zero, show ((Kd.slice 62 k62)).sz = 1 from rfl, Nat.mul_one] at hv239_0
                     replace hv239_0 := Option.some.inj (hv239_0.symm.trans hx239_0)
                     rw [hv239_0] at ge239_0
                     have HL239_0 := Aside0.mk (show Kd.R k62 62 _ _ _ _ (rd_L3 x7_2 (ji85)) from ge239_0)
                     clear hv239_0 ge239_0
                     clear hcc239 hce239
                     have HR239_0 := Aside0.mk hi239_0
                     have HC239_0 := Aside0.mk hl239_0
                     clear hi239_0 hl239_0
                     replace p239 := eq_true p239
                     replace q239 := eq_true q239
                     refine start_ (n := 19) (S := fun w' => w'.cell? (ad235.add (t181).toNat) = some (.slice A235_0 (rd_L3 x7_2 t181).length c235_0) ∧ w'.cell? (ad235.add ((ji85)).toNat) = some (.slice A239_0 (rd_L3 x7_2 (ji85)).length c239_0)) (ds := [16]) #[false, false, false, false, false, false, false, false, false, false, false, false, false, false, false, false, false, false, false] (by kernel_rfl) rfl rfl ⟨hx235_0, hx239_0⟩ (fun hHeld => ?_); refine with_tabW spec_l20Term.tab15 spec_l20Term.bits15 (fun HT_ HW_ => ?_)
                     generalize w99.drew = w100 at HO_7 HI0 HK HB HL235_0 HL239_0 HR235_0 HR239_0 hx235_0 hx239_0 hHeld ⊢
                     refine pure_ (i := 1) (N := some 75) (v := ?_) (a' := ?_) #[false, true, false, false, false, false, false, false, false, false, false, false, false, false, false, false, false, false, false] rfl rfl (any_of HT_.out (by kernel_rfl)) (fun _ _ _ h => h) (Or.inl ⟨by rfl, ?_⟩) ?_ ?_
                     rotate_left
                     ·intro w'
                      go_simp
                      with_reducible rfl
                     rotate_left
                     ·simp only [Act.put, List.setIfInBounds_toArray, List.set_cons_zero, List.set_cons_succ, i64_w, i32_w]
                      rfl
                     refine pure_ (i := 2) (N := some 76) (v := ?_) (a' := ?_) #[false, true, true, false, false, false, false, false, false, false, false, false, false, false, false, false, false, false, false] rfl rfl (any_of HT_.out (by kernel_rfl)) (fun _ _ _ h => h) (Or.inl ⟨by rfl, ?_⟩) ?_ ?_
                     rotate_left
                     ·intro w'
                      go_simp
                      with_reducible rfl
                     rotate_left
                     ·simp only [Act.put, List.setIfInBounds_toArray, List.set_cons_zero, List.set_cons_succ, i64_w, i32_w]
                      rfl
                     refine pure_ (i := 3) (N := some 77) (v := ?_) (a' := ?_) #[false, true, true, true, false, false, false, false, false, false, false, false, false, false, false, false, false, false, false] rfl rfl (any_of HT_.out (by kernel_rfl)) (fun _ _ _ h => h) (Or.inl ⟨by rfl, ?_⟩) ?_ ?_
                     rotate_left
                     ·intro w'
                      go_simp
                      with_reducible rfl
                     rotate_left
                     ·simp only [Act.put, List.setIfInBounds_toArray, List.set_cons_zero, List.set_cons_succ, i64_w, i32_w]
                      rfl
                     refine pure_ (i := 6) (N := some 80) (v := ?_) (a' := ?_) #[false, true, true, true, false, false, true, false, false, false, false, false, false, false, false, false, false, false, false] rfl rfl (any_of HT_.out (by kernel_rfl)) (fun _ _ _ h => h) (Or.inl ⟨by rfl, ?_⟩) ?_ ?_
                     rotate_left
                     ·intro w'
                      go_simp
                      with_reducible rfl
                     rotate_left
                     ·simp only [Act.put, List.setIfInBounds_toArray, List.set_cons_zero, List.set_cons_succ, i64_w, i32_w]
                      rfl
                     refine pure_ (i := 7) (N := some 81) (v := ?_) (a' := ?_) #[false, true, true, true, false, false, true, true, false, false, false, false, false, false, false, false, false, false, false] rfl rfl (any_of HT_.out (by kernel_rfl)) (fun _ _ _ h => h) (Or.inl ⟨by rfl, ?_⟩) ?_ ?_
                     rotate_left
                     ·intro w'
                      go_simp
                      with_reducible rfl
                     rotate_left
                     ·simp only [Act.put, List.setIfInBounds_toArray, List.set_cons_zero, List.set_cons_succ, i64_w, i32_w]
                      rfl
                     refine pure_ (i := 8) (N := some 82) (v := ?_) (a' := ?_) #[false, true, true, true, false, false, true, true, true, false, false, false, false, false, false, false, false, false, false] rfl rfl (any_of HT_.out (by kernel_rfl)) (fun _ _ _ h => h) (Or.inl ⟨by rfl, ?_⟩) ?_ ?_
                     rotate_left
                     ·intro w'
                      go_simp
                      with_reducible rfl
                     rotate_left
                     ·simp only [Act.put, List.setIfInBounds_toArray, List.set_cons_zero, List.set_cons_succ, i64_w, i32_w]
                      rfl
                     refine pure_ (i := 9) (N := some 83) (v := ?_) (a' := ?_) #[false, true, true, true, false, false, true, true, true, true, false, false, false, false, false, false, false, false, false] rfl rfl (any_of HT_.out (by kernel_rfl)) (fun _ _ _ h => h) (Or.inl ⟨by rfl, ?_⟩) ?_ ?_
                     rotate_left
                     ·intro w'
                      go_simp
                      with_reducible rfl
                     rotate_left
                     ·simp only [Act.put, List.setIfInBounds_toArray, List.set_cons_zero, List.set_cons_succ, i64_w, i32_w]
                      rfl
                     refine pure_ (i := 12) (N := some 86) (v := ?_) (a' := ?_) #[false, true, true, true, false, false, true, true, true, true, false, false, true, false, false, false, false, false, false] rfl rfl (any_of HT_.out (by kernel_rfl)) (fun _ _ _ h => h) (Or.inl ⟨by rfl, ?_⟩) ?_ ?_
                     rotate_left
                     ·intro w'
                      go_simp
                      with_reducible rfl
                     rotate_left
                     ·simp only [Act.put, List.setIfInBounds_toArray, List.set_cons_zero, List.set_cons_succ, i64_w, i32_w]
                      rfl
                     refine take_ (i := 4) (N := some 78) (v := ?_) (a' := ?_) #[false, true, true, true, true, false, true, true, true, true, false, false, true, false, false, false, false, false, false] rfl rfl (take_ofW HT_.out HW_.out (by kernel_rfl)) (fun _ _ _ h => h) (Or.inl ⟨by rfl, ?_⟩) hHeld ?_ ?_
                     rotate_left
                     ·rintro w' ⟨s0, s1⟩
                      go_simp
                      with_reducible rfl
                     rotate_left
                     ·simp only [Act.put, List.setIfInBounds_toArray, List.set_cons_zero, List.set_cons_succ, i64_w, i32_w]
                      rfl
                     refine take_ (i := 10) (N := some 84) (v := ?_) (a' := ?_) #[false, true, true, true, true, false, true, true, true, true, true, false, true, false, false, false, false, false, false] rfl rfl (take_ofW HT_.out HW_.out (by kernel_rfl)) (fun _ _ _ h => h) (Or.inl ⟨by rfl, ?_⟩) hHeld ?_ ?_
                     rotate_left
                     ·rintro w' ⟨s0, s1⟩
                      go_simp
                      with_reducible rfl
                     rotate_left
                     ·simp only [Act.put, List.setIfInBounds_toArray, List.set_cons_zero, List.set_cons_succ, i64_w, i32_w]
                      rfl
                     refine one_ (i := 0) (N := some 74) #[true, true, true, true, true, false, true, true, true, true, true, false, true, false, false, false, false, false, false] rfl rfl (one_of HT_.out (by kernel_rfl)) (by decide) (fun K hK => ?_)
                     refine Kd.R_lit_step k62 _ 62 ?hg (N := 74) ?hd (xs := ([] : List (S62))) (inner := []) (ok := fun _ => True) (okp := fun _ => True) ?hr ?hp (fun _ hk => hk) trivial (Below.refl _ _) (Nat.le_refl _) (by simp) ?_; (case hd => rfl); (case hg => rfl); (case hr => first | (go_simp; done) | (go_simp; rfl)); (case hp => exact (Reps.none _ _))
                     intro v233 w101 ho102 hb hg_ hnew_
                     have HS0_ := (hb.cell (World.block_lt_of_cell? _ _ (hHeld.1))).trans (hHeld.1)
                     have HS1_ := (hb.cell (World.block_lt_of_cell? _ _ (hHeld.2))).trans (hHeld.2)
                     clear hg_ hnew_
                     (first | rw [← Ny232.out] at ho102 | (simp only [Int.reduceToNat] at ho102; rw [← Ny232.out] at ho102))
                     have n0_ := Aside0.mk (Kd.R_elder' pwd_ (Kd.R_base ho102) hb)
                     have n1_ := Aside0.mk (Kd.R_elder' (by (with_reducible repeat apply Kd.R_alloc); exact HL235_0.out) (Kd.R_base ho102) hb)
                     have n2_ := Aside0.mk (Kd.R_elder' (by (with_reducible repeat apply Kd.R_alloc); exact HL239_0.out) (Kd.R_base ho102) hb)
                     have n3_ := Aside0.mk (Kd.R_lower (Kd.R_new' (Kd.R_new' ho102 (Kd.R_lt (by (with_reducible repeat apply Kd.R_alloc); exact HL235_0.out))) (Kd.R_lt (by (with_reducible repeat apply Kd.R_alloc); exact HL239_0.out))) (keep_size (w := w) (g := g) (row := none) pwl_))
                     have n4_ := Aside0.mk (IsS103.below pwm_ hb)
                     have n5_ := Aside0.mk (Kd.C_below (by repeat (first | (with_reducible exact HR235_0.out) | (with_reducible refine Kd.C_alloc ?_ _) | (with_reducible refine Kd.C_drewN ?_ _) | (with_reducible refine Kd.C_drew ?_) | exact HR235_0.out)) hb)
                     have n6_ := Aside0.mk (Kd.C_below (by repeat (first | (with_reducible exact HR239_0.out) | (with_reducible refine Kd.C_alloc ?_ _) | (with_reducible refine Kd.C_drewN ?_ _) | (with_reducible refine Kd.C_drew ?_) | exact HR239_0.out)) hb)
                     have n7_ := Aside0.mk (KeepBut.trans pwl_ (KeepBut.of_below hb g none) (.inl rfl))
                     have n8_ := Aside0.mk (below_step pwo_ hb)
                     clear HO_7
                     clear HL235_0
                     clear HL239_0
                     clear HI0
                     clear HR235_0
                     clear HR239_0
                     clear HK
                     clear HB
                     have HO_7 := n0_
                     have HL235_0 := n1_
                     have HL239_0 := n2_
                     have HO234 := n3_
                     have HI0 := n4_
                     have HR235_0 := n5_
                     have HR239_0 := n6_
                     have HK := n7_
                     have HB := n8_
                     clear n0_ n1_ n2_ n3_ n4_ n5_ n6_ n7_ n8_
                     clear hb ho102
                     refine hK.out _ _ ⟨HS0_, HS1_⟩ (fun hHeld => ?_)
                     clear hK K
                     refine norm_ (a' := ?_) ?_ ?_
                     rotate_left
                     ·show Act.put _ (some 74) _ = _
                      simp only [Act.put, List.setIfInBounds_toArray, List.set_cons_zero, List.set_cons_succ, i64_w, i32_w]
                      rfl
                     refine one_ (i := 5) (N := some 79) #[true, true, true, true, true, true, true, true, true, true, true, false, true, false, false, false, false, false, false] rfl rfl (one_of HT_.out (by kernel_rfl)) (by decide) (fun K hK => ?_)
                     refine Kd.R_append_rows_step k62 w.heap.size (by rfl) (.tmp 74) (.tmp 78) 25 62 (.agg #[(.int .i64 0), (.int .i64 0)]) 16 rfl Try.underlying25 info62 rfl (by decide) (by omega) v233 y232 (rd_L3 x7_2 t181) _ _ _ (fun k_ => some k_ ≠ (.slice A235_0 (rd_L3 x7_2 t181).length c235_0 : Value).ownBlock ∧ some k_ ≠ (.slice A239_0 (rd_L3 x7_2 (ji85)).length c239_0 : Value).ownBlock) (fun _ => False) rfl rfl ?aO ?aR (fun _ _ h => h) (fun _ h => h.elim) ?aF (Below.refl _ _) ?aS ?aL ?_
                     (case aR => repeat (first | exact (by repeat (first | (with_reducible exact HR235_0.out) | (with_reducible refine Kd.C_alloc ?_ _) | (with_reducible refine Kd.C_drewN ?_ _) | (with_reducible refine Kd.C_drew ?_) | exact HR235_0.out)) | (with_reducible refine Kd.C_alloc ?_ _) | (with_reducible refine Kd.C_drewN ?_ _) | (with_reducible refine Kd.C_drew ?_)))
                     (case aF => exact (fun k_ hk => ⟨Kd.fresh' (Kd.R_lt (by (with_reducible repeat apply Kd.R_alloc); exact HL235_0.out)) k_ hk, Kd.fresh' (Kd.R_lt (by (with_reducible repeat apply Kd.R_alloc); exact HL239_0.out)) k_ hk⟩))
                     (case aO => exact (by (with_reducible repeat apply Kd.R_alloc); exact Kd.R_mono HO234.out (fun _ hk => ⟨hk.1.2, hk.2⟩)))
                     (case aS => exact (keep_size (w := w) (g := g) (row := none) pwl_))
                     (case aL => have := LMc84.out; omega)
                     intro v237 w103 ho hb hg hat
                     have HS0_ := cell_grown hg (hHeld.1) (by first | (rw [add_block]; exact ((HO_7.out.1 _ rfl).2)) | (show some (Addr.add _ _).block ≠ _; rw [add_block]; exact ((HO_7.out.1 _ rfl).2)) | exact ((HO_7.out.1 _ rfl).2))
                     have HS1_ := cell_grown hg (hHeld.2) (by first | (rw [add_block]; exact ((HO_7.out.1 _ rfl).2)) | (show some (Addr.add _ _).block ≠ _; rw [add_block]; exact ((HO_7.out.1 _ rfl).2)) | exact ((HO_7.out.1 _ rfl).2))
                     rw [← Ny236.out] at ho
                     have n0_ := Aside0.mk (Kd.R_after (ok := (fun _ => True)) pwd_ hg hat)
                     have n1_ := Aside0.mk (IsS103.grown pwm_ hg (IsS103.own_ne HI0.out HO234.out (by decide)))
                     have n2_ := Aside0.mk (Kd.R_after (ok := (fun k_ => some k_ ≠ (.slice (some ad235) x7_2.length co98 : Value).ownBlock)) (by (with_reducible repeat apply Kd.R_alloc); exact Kd.R_mono HL235_0.out (fun _ hk => ⟨hk.1.2, hk.2⟩)) hg hat)
                     have n3_ := Aside0.mk (Kd.R_after (ok := (fun k_ => some k_ ≠ (.slice (some ad235) x7_2.length co98 : Value).ownBlock)) (by (with_reducible repeat apply Kd.R_alloc); exact Kd.R_mono HL239_0.out (fun _ hk => ⟨hk.1.2, hk.2⟩)) hg hat)
                     have n4_ := Aside0.mk (below_weaken pwo_ HL.out hb)
                     have n5_ := Aside0.mk (KeepBut.trans pwl_ (KeepBut.of_grown hg g) (Kd.R_base2 HO234.out))
                     have n6_ := Aside0.mk (ho)
                     clear HO_7
                     clear HI0
                     clear HL235_0
                     clear HL239_0
                     clear HB
                     clear HK
                     clear HO234
                     have HO_7 := n0_
                     have HI0 := n1_
                     have HL235_0 := n2_
                     have HL239_0 := n3_
                     have HB := n4_
                     have HK := n5_
                     have HO238 := n6_
                     clear n0_ n1_ n2_ n3_ n4_ n5_ n6_
                     clear ho hb hg hat
                     refine hK.out _ _ ⟨HS0_, HS1_⟩ (fun hHeld => ?_)
                     clear hK K
                     refine norm_ (a' := ?_) ?_ ?_
                     rotate_left
                     ·show Act.put _ (some 79) _ = _
                      simp only [Act.put, List.setIfInBounds_toArray, List.set_cons_zero, List.set_cons_succ, i64_w, i32_w]
                      rfl
                     refine one_ (i := 11) (N := some 85) #[true, true, true, true, true, true, true, true, true, true, true, true, true, false, false, false, false, false, false] rfl rfl (one_of HT_.out (by kernel_rfl)) (by decide) (fun K hK => ?_)
                     refine Kd.R_append_rows_step k62 w.heap.size (by rfl) (.tmp 79) (.tmp 84) 25 62 (.agg #[(.int .i64 0), (.int .i64 0)]) 16 rfl Try.underlying25 info62 rfl (by decide) (by omega) v237 y236 (rd_L3 x7_2 (ji85)) _ _ _ (fun k_ => some k_ ≠ (.slice A235_0 (rd_L3 x7_2 t181).length c235_0 : Value).ownBlock ∧ some k_ ≠ (.slice A239_0 (rd_L3 x7_2 (ji85)).length c239_0 : Value).ownBlock) (fun _ => False) rfl rfl ?aO ?aR (fun _ _ h => h) (fun _ h => h.elim) ?aF (Below.refl _ _) ?aS ?aL ?_
                     (case aR => repeat (first | exact ((Kd.R_reads' (by (with_reducible repeat apply Kd.R_alloc); exact HL239_0.out)).2.2) | (with_reducible refine Kd.C_alloc ?_ _) | (with_reducible refine Kd.C_drewN ?_ _) | (with_reducible refine Kd.C_drew ?_)))
                     (case aF => exact (fun k_ hk => ⟨Kd.fresh' (Kd.R_lt (by (with_reducible repeat apply Kd.R_alloc); exact HL235_0.out)) k_ hk, Kd.fresh' (Kd.R_lt (by (with_reducible repeat apply Kd.R_alloc); exact HL239_0.out)) k_ hk⟩))
                     (case aO => exact (by (with_reducible repeat apply Kd.R_alloc); exact HO238.out))
                     (case aS => exact (keep_size (w := w) (g := g) (row := none) pwl_))
                     (case aL => have := LMc88.out; omega)
                     intro v241 w104 ho hb hg hat
                     have HS0_ := cell_grown hg (hHeld.1) (by first | (rw [add_block]; exact ((HO_7.out.1 _ rfl).2)) | (show some (Addr.add _ _).block ≠ _; rw [add_block]; exact ((HO_7.out.1 _ rfl).2)) | exact ((HO_7.out.1 _ rfl).2))
                     have HS1_ := cell_grown hg (hHeld.2) (by first | (rw [add_block]; exact ((HO_7.out.1 _ rfl).2)) | (show some (Addr.add _ _).block ≠ _; rw [add_block]; exact ((HO_7.out.1 _ rfl).2)) | exact ((HO_7.out.1 _ rfl).2))
                     rw [← Ny240.out] at ho
                     have n0_ := Aside0.mk (Kd.R_after (ok := (fun _ => True)) pwd_ hg hat)
                     have n1_ := Aside0.mk (IsS103.grown pwm_ hg (IsS103.own_ne HI0.out HO238.out (by decide)))
                     have n2_ := Aside0.mk (Kd.R_after (ok := (fun k_ => some k_ ≠ (.slice (some ad235) x7_2.length co98 : Value).ownBlock)) (by (with_reducible repeat apply Kd.R_alloc); exact HL235_0.out) hg hat)
                     have n3_ := Aside0.mk (Kd.R_after (ok := (fun k_ => some k_ ≠ (.slice (some ad235) x7_2.length co98 : Value).ownBlock)) (by (with_reducible repeat apply Kd.R_alloc); exact HL239_0.out) hg hat)
                     have n4_ := Aside0.mk (below_weaken pwo_ HL.out hb)
                     have n5_ := Aside0.mk (KeepBut.trans pwl_ (KeepBut.of_grown hg g) (Kd.R_base2 HO238.out))
                     have n6_ := Aside0.mk (ho)
                     clear HO_7
                     clear HI0
                     clear HL235_0
                     clear HL239_0
                     clear HB
                     clear HK
                     clear HO238
                     have HO_7 := n0_
                     have HI0 := n1_
                     have HL235_0 := n2_
                     have HL239_0 := n3_
                     have HB := n4_
                     have HK := n5_
                     have HO242 := n6_
                     clear n0_ n1_ n2_ n3_ n4_ n5_ n6_
                     clear ho hb hg hat
                     refine hK.out _ _ ⟨HS0_, HS1_⟩ (fun hHeld => ?_)
                     clear hK K
                     refine norm_ (a' := ?_) ?_ ?_
                     rotate_left
                     ·show Act.put _ (some 85) _ = _
                      simp only [Act.put, List.setIfInBounds_toArray, List.set_cons_zero, List.set_cons_succ, i64_w, i32_w]
                      rfl
                     refine one_ (i := 13) (N := some 87) #[true, true, true, true, true, true, true, true, true, true, true, true, true, true, false, false, false, false, false] rfl rfl (one_of HT_.out (by kernel_rfl)) (by decide) (fun K hK => ?_)
                     refine goes_ Try.func60 (by kernel_rfl) rfl #[.pointer (some ⟨g, 0, none⟩), .int .i64 3] (by rfl) rfl rfl pwk_ ?_
                     with_reducible refine (spec_l20Rd_pick.calls k2 g s0_0 t182 3 t243 t244 w0 _ ?side1 ?side2 A89.out).mono ?_
                     (case side1 => repeat (first | (with_reducible first | exact HI0.out | apply IsS103.alloc | apply IsS103.drewN | apply IsS103.drew | apply IsS103.set_1) | exact HI0.out))
                     (case side2 => repeat (first | (with_reducible first | exact HB.out | apply below_alloc | apply pw_below_drewN | apply below_drew1 | refine below_set ?_ (IsS103.ge HI0.out)) | exact HB.out))
                     rintro e w105 ⟨rfl, hi, hb, hk⟩
                     have HS0_ := keep_cell hk (hHeld.1) (by first | (rw [add_block]; exact Kd.own_blk (IsS103.own_ne HI0.out HO_7.out (by decide))) | (show (Addr.add _ _).block ≠ _; rw [add_block]; exact Kd.own_blk (IsS103.own_ne HI0.out HO_7.out (by decide))) | exact Kd.own_blk (IsS103.own_ne HI0.out HO_7.out (by decide)))
                     have HS1_ := keep_cell hk (hHeld.2) (by first | (rw [add_block]; exact Kd.own_blk (IsS103.own_ne HI0.out HO_7.out (by decide))) | (show (Addr.add _ _).block ≠ _; rw [add_block]; exact Kd.own_blk (IsS103.own_ne HI0.out HO_7.out (by decide))) | exact Kd.own_blk (IsS103.own_ne HI0.out HO_7.out (by decide)))
                     refine ⟨_, rfl, ?_⟩
                     have n0_ := Aside0.mk (Kd.R_mono (Kd.R_keep (IsS103.apart (show IsS103 w0 _ g s0_0 t182 from by repeat (first | (with_reducible first | exact HI0.out | apply IsS103.alloc | apply IsS103.drewN | apply IsS103.drew | apply IsS103.set_1) | exact HI0.out)) pwd_ (by decide)) hk (fun _ h => h.2)) (fun _ h => h.1))
                     have n1_ := Aside0.mk (Kd.R_mono (Kd.R_keep (IsS103.apart (show IsS103 w0 _ g s0_0 t182 from by repeat (first | (with_reducible first | exact HI0.out | apply IsS103.alloc | apply IsS103.drewN | apply IsS103.drew | apply IsS103.set_1) | exact HI0.out)) (by (with_reducible repeat apply Kd.R_alloc); exact HL235_0.out) (by decide)) hk (fun _ h => h.2)) (fun _ h => h.1))
                     have n2_ := Aside0.mk (Kd.R_mono (Kd.R_keep (IsS103.apart (show IsS103 w0 _ g s0_0 t182 from by repeat (first | (with_reducible first | exact HI0.out | apply IsS103.alloc | apply IsS103.drewN | apply IsS103.drew | apply IsS103.set_1) | exact HI0.out)) (by (with_reducible repeat apply Kd.R_alloc); exact HL239_0.out) (by decide)) hk (fun _ h => h.2)) (fun _ h => h.1))
                     have n3_ := Aside0.mk (Kd.R_mono (Kd.R_keep (IsS103.apart (show IsS103 w0 _ g s0_0 t182 from by repeat (first | (with_reducible first | exact HI0.out | apply IsS103.alloc | apply IsS103.drewN | apply IsS103.drew | apply IsS103.set_1) | exact HI0.out)) (by (with_reducible repeat apply Kd.R_alloc); exact HO242.out) (by decide)) hk (fun _ h => h.2)) (fun _ h => h.1))
                     have n4_ := Aside0.mk (KeepBut.trans pwl_ hk (.inl rfl))
                     have n5_ := Aside0.mk (hb)
                     have n6_ := Aside0.mk (hi)
                     clear HO_7
                     clear HL235_0
                     clear HL239_0
                     clear HO242
                     clear HK
                     clear HB
                     clear HI0
                     have HO_7 := n0_
                     have HL235_0 := n1_
                     have HL239_0 := n2_
                     have HO242 := n3_
                     have HK := n4_
                     have HB := n5_
                     have HI0 := n6_
                     clear n0_ n1_ n2_ n3_ n4_ n5_ n6_
                     (try clear hb)
                     (try clear hb2)
                     (try clear hk)
                     (try clear hi)
                     refine hK.out _ _ ⟨HS0_, HS1_⟩ (fun hHeld => ?_)
                     clear hK K
                     refine norm_ (a' := ?_) ?_ ?_
                     rotate_left
                     ·show Act.put _ (some 87) _ = _
                      simp only [Act.put, List.setIfInBounds_toArray, List.set_cons_zero, List.set_cons_succ, i64_w, i32_w]
                      rfl
                     refine pure_ (i := 14) (N := some 88) (v := ?_) (a' := ?_) #[true, true, true, true, true, true, true, true, true, true, true, true, true, true, true, false, false, false, false] rfl rfl (any_of HT_.out (by kernel_rfl)) (fun _ _ _ h => h) (Or.inl ⟨by rfl, ?_⟩) ?_ ?_
                     rotate_left
                     ·intro w'
                      go_simp
                      with_reducible rfl
                     rotate_left
                     ·simp only [Act.put, List.setIfInBounds_toArray, List.set_cons_zero, List.set_cons_succ, i64_w, i32_w]
                      rfl
                     refine pure_ (i := 15) (N := some 89) (v := ?_) (a' := ?_) #[true, true, true, true, true, true, true, true, true, true, true, true, true, true, true, true, false, false, false] rfl rfl (any_of HT_.out (by kernel_rfl)) (fun _ _ _ h => h) (Or.inl ⟨by rfl, ?_⟩) ?_ ?_
                     rotate_left
                     ·intro w'
                      go_simp
                      with_reducible rfl
                     rotate_left
                     ·simp only [Act.put, List.setIfInBounds_toArray, List.set_cons_zero, List.set_cons_succ, i64_w, i32_w]
                      rfl
                     refine last_ (i := 16) (N := some 90) #[true, true, true, true, true, true, true, true, true, true, true, true, true, true, true, true, true, false, false] rfl rfl (one_of HT_.out (by kernel_rfl)) (by decide) (fun K hK => ?_)
                     refine value_ (w1 := ?_) (v := ?_) (by rfl) rfl ?_ ?_
                     rotate_left 2
                     ·go_simp
                      constructor
                      ·rfl
                      ·rfl
                     refine hK.out _ _ ?_
                     clear hK K
                     refine norm_ (a' := ?_) ?_ ?_
                     rotate_left
                     ·show Act.put _ (some 90) _ = _
                      simp only [Act.put, List.setIfInBounds_toArray, List.set_cons_zero, List.set_cons_succ, i64_w, i32_w]
                      rfl
                     refine one_ (i := 17) (N := some 91) #[true, true, true, true, true, true, true, true, true, true, true, true, true, true, true, true, true, true, false] rfl rfl (one_of HT_.out (by kernel_rfl)) (by decide) (fun K hK => ?_)
                     refine Kd.R_append_step k62 w.heap.size (by rfl) (.tmp 85) (.tmp 90) 25 62 (.agg #[(.int .i64 0), (.int .i64 0)]) 16 rfl Try.underlying25 info62 rfl (by decide) (by omega) v241 y240 (⟨wrap64 (3 + t243), 0⟩ : S62) [.int .i64 (wrap64 (3 + t243)), .int .i64 0] (fun k_ => some k_ ≠ (.slice A235_0 (rd_L3 x7_2 t181).length c235_0 : Value).ownBlock ∧ some k_ ≠ (.slice A239_0 (rd_L3 x7_2 (ji85)).length c239_0 : Value).ownBlock) (fun _ => False) rfl rfl ?aP (fun _ hk => hk.elim) ?aF ?aO (Below.refl _ _) ?aS ?aL ?_
                     (case aP => exact k62_mkM _ _ _ (⟨wrap64 (3 + t243), 0⟩ : S62))
                     (case aF => exact (fun k_ hk => ⟨Kd.fresh' (Kd.R_lt (by (with_reducible repeat apply Kd.R_alloc); exact HL235_0.out)) k_ hk, Kd.fresh' (Kd.R_lt (by (with_reducible repeat apply Kd.R_alloc); exact HL239_0.out)) k_ hk⟩))
                     (case aO => exact (by (with_reducible repeat apply Kd.R_alloc); exact HO242.out))
                     (case aS => exact (keep_size (w := w) (g := g) (row := none) pwl_))
                     (case aL => have := LMc90.out; omega)
                     intro v246 w106 ho hb hg hat
                     have HS0_ := cell_grown hg (hHeld.1) (by first | (rw [add_block]; exact ((HO_7.out.1 _ rfl).2)) | (show some (Addr.add _ _).block ≠ _; rw [add_block]; exact ((HO_7.out.1 _ rfl).2)) | exact ((HO_7.out.1 _ rfl).2))
                     have HS1_ := cell_grown hg (hHeld.2) (by first | (rw [add_block]; exact ((HO_7.out.1 _ rfl).2)) | (show some (Addr.add _ _).block ≠ _; rw [add_block]; exact ((HO_7.out.1 _ rfl).2)) | exact ((HO_7.out.1 _ rfl).2))
                     rw [← Ny245.out] at ho
                     have n0_ := Aside0.mk (Kd.R_after (ok := (fun _ => True)) pwd_ hg hat)
                     have n1_ := Aside0.mk (IsS103.grown pwm_ hg (IsS103.own_ne HI0.out HO242.out (by decide)))
                     have n2_ := Aside0.mk (Kd.R_after (ok := (fun k_ => some k_ ≠ (.slice (some ad235) x7_2.length co98 : Value).ownBlock)) (by (with_reducible repeat apply Kd.R_alloc); exact HL235_0.out) hg hat)
                     have n3_ := Aside0.mk (Kd.R_after (ok := (fun k_ => some k_ ≠ (.slice (some ad235) x7_2.length co98 : Value).ownBlock)) (by (with_reducible repeat apply Kd.R_alloc); exact HL239_0.out) hg hat)
                     have n4_ := Aside0.mk (below_weaken pwo_ HL.out hb)
                     have n5_ := Aside0.mk (KeepBut.trans pwl_ (KeepBut.of_grown hg g) (Kd.R_base2 HO242.out))
                     have n6_ := Aside0.mk (ho)
                     clear HO_7
                     clear HI0
                     clear HL235_0
                     clear HL239_0
                     clear HB
                     clear HK
                     clear HO242
                     have HO_7 := n0_
                     have HI0 := n1_
                     have HL235_0 := n2_
                     have HL239_0 := n3_
                     have HB := n4_
                     have HK := n5_
                     have HO247 := n6_
                     clear n0_ n1_ n2_ n3_ n4_ n5_ n6_
                     clear ho hb hg hat
                     refine hK.out _ _ ⟨HS0_, HS1_⟩ (fun hHeld => ?_)
                     clear hK K
                     refine norm_ (a' := ?_) ?_ ?_
                     rotate_left
                     ·show Act.put _ (some 91) _ = _
                      simp only [Act.put, List.setIfInBounds_toArray, List.set_cons_zero, List.set_cons_succ, i64_w, i32_w]
                      rfl
                     refine pure_ (i := 18) (N := some 11) (v := ?_) (a' := ?_) #[true, true, true, true, true, true, true, true, true, true, true, true, true, true, true, true, true, true, true] rfl rfl (any_of HT_.out (by kernel_rfl)) (fun _ _ _ h => h) (Or.inl ⟨by rfl, ?_⟩) ?_ ?_
                     rotate_left
                     ·intro w'
                      go_simp
                      with_reducible rfl
                     rotate_left
                     ·simp only [Act.put, List.setIfInBounds_toArray, List.set_cons_zero, List.set_cons_succ, i64_w, i32_w]
                      rfl
                     refine done_ (done_of HT_.out (by kernel_rfl)) ?_
                     try go_wp2_with (first | ((with_reducible refine gate_dst (N := 92) rfl ?_); refine Kd.R_lit (Kd.slice 62 k62) _ 25 ?hg (N := 92) ?hd (xs := ([] : List (List (S62)))) (inner := []) (ok := fun _ => True) (okp := fun _ => True) ?hr ?hp (fun _ hk => hk) trivial (Below.refl _ _) (Nat.le_refl _) (by simp) ?_; (case hd => rfl); (case hg => rfl); (case hr => first | (go_simp; done) | (go_simp; rfl)); (case hp => exact (Reps.none _ _)); intro v249 w107 ho108 hb hg_ hnew_; clear hg_ hnew_; (first | rw [← Ny248.out] at ho108 | (simp only [Int.reduceToNat] at ho108; rw [← Ny248.out] at ho108)); have n0_ := Aside0.mk (Kd.R_elder' pwd_ (Kd.R_base ho108) hb); have n1_ := Aside0.mk (Kd.R_below (by (with_reducible repeat apply Kd.R_alloc); exact HL235_0.out) hb); have n2_ := Aside0.mk (Kd.R_below (by (with_reducible repeat apply Kd.R_alloc); exact HL239_0.out) hb); have n3_ := Aside0.mk (Kd.R_below (by (with_reducible repeat apply Kd.R_alloc); exact HO247.out) hb); have n4_ := Aside0.mk (Kd.R_lower (Kd.R_new' (Kd.R_new' (Kd.R_new' (Kd.R_new' ho108 (Kd.R_lt pwd_)) (Kd.R_lt (by (with_reducible repeat apply Kd.R_alloc); exact HL235_0.out))) (Kd.R_lt (by (with_reducible repeat apply Kd.R_alloc); exact HL239_0.out))) (Kd.R_lt (by (with_reducible repeat apply Kd.R_alloc); exact HO247.out))) (keep_size (w := w) (g := g) (row := none) pwl_)); have n5_ := Aside0.mk (IsS103.below pwm_ hb); have n6_ := Aside0.mk (KeepBut.trans pwl_ (KeepBut.of_below hb g none) (.inl rfl)); have n7_ := Aside0.mk (below_step pwo_ hb); clear HO_7; clear HL235_0; clear HL239_0; clear HO247; clear HI0; clear HK; clear HB; have HO_7 := n0_; have HL235_0 := n1_; have HL239_0 := n2_; have HO247 := n3_; have HO250 := n4_; have HI0 := n5_; have HK := n6_; have HB := n7_; clear n0_ n1_ n2_ n3_ n4_ n5_ n6_ n7_; clear hb ho108; have q109 : (t181 : Int) ≤ ((x7_2.length : Int) : Int) := of_decide_eq_true pwb_; obtain ⟨i0109, hi0109, _, hsz109, _⟩ := info_parts info25; have hroom109 : x7_2.length ≤ co98 := (Kd.R_reads' HO_7.out).2.1; have hC109 : Kd.C (Kd.slice 62 k62) _ (some ad235) x7_2.length x7_2 := (Kd.R_reads' HO_7.out).2.2; have hcut109 := cut_to (P := Try.prog) 104 25 .i64 Try.underlying104 hi0109 (some ad235) x7_2.length co98 t181 (of_decide_eq_true pwb_) q109 hroom109; have hr109 := Kd.C_take (m := (t181 : Int).toNat) hC109 (by omega); have hy109 : y251.length = (t181 : Int).toNat := (by rw [Ny251.out, List.length_take]; omega); rw [← Ny251.out] at hr109; rw [← hy109] at hcut109; have HR254 := Aside0.mk hr109; have HC254 := Aside0.mk (show y251.length ≤ co98 from by omega); clear hr109 hC109 hroom109 hi0109 hsz109; have KY109 := Aside0.mk hy109; clear hy109; have KL109 := Aside0.mk (show (t181 : Int).toNat ≤ x7_2.length from by omega); replace q109 := eq_true q109) | ((with_reducible refine gate_builtin (b := .append) (xs := #[.tmp 92, .tmp 95]) rfl ?_); at_builtin; refine Kd.R_append_rows (Kd.slice 62 k62) w.heap.size rfl (.tmp 92) (.tmp 95) 104 25 (.slice none 0 0) 24 rfl Try.underlying104 info25 rfl (by decide) (by omega) v249 y248 y251 _ _ _ (fun k_ => some k_ ≠ (.slice (some ad235) x7_2.length co98 : Value).ownBlock ∧ some k_ ≠ (v246 : Value).ownBlock) (fun k_ => ((fun k_ => some k_ ≠ (.slice (some ad235) x7_2.length co98 : Value).ownBlock ∧ some k_ ≠ (v246 : Value).ownBlock)) k_ ∧ some k_ ≠ (v249 : Value).ownBlock) rfl rfl ?aO ?aR (fun _ _ h => h) (fun _ hk => hk) ?aF (Below.refl _ _) ?aS ?aL ?_; (case aR => rw [Ny251.out]; exact Kd.C_take (m := (t181 : Int).toNat) (Kd.R_frozen (okp := (fun k_ => ((fun k_ => some k_ ≠ (.slice (some ad235) x7_2.length co98 : Value).ownBlock ∧ some k_ ≠ (v246 : Value).ownBlock)) k_ ∧ some k_ ≠ (v249 : Value).ownBlock)) (HO_7.out) (fun k_ hk => ⟨⟨hk.2, hk.1.1.2⟩, hk.1.2⟩)).2.2 KL109.out); (case aF => exact (fun k_ hk => ⟨Kd.fresh' (Kd.R_lt pwd_) k_ hk, Kd.fresh' (Kd.R_lt (by (with_reducible repeat apply Kd.R_alloc); exact HO247.out)) k_ hk⟩)); (case aO => exact (by (with_reducible repeat apply Kd.R_alloc); exact Kd.R_mono HO250.out (fun _ hk => ⟨hk.1.1.1.2, hk.2⟩))); (case aS => exact (keep_size (w := w) (g := g) (row := none) pwl_)); (case aL => have := LMc93.out; omega); intro v256 w110 ho hb hg hat; rw [← Ny255.out] at ho; have n0_ := Aside0.mk (Kd.R_after (ok := (fun k_ => some k_ ≠ (v246 : Value).ownBlock)) (by (with_reducible repeat apply Kd.R_alloc); exact Kd.R_mono HO_7.out (fun _ hk => ⟨hk.1.2, hk.2⟩)) hg hat); have n1_ := Aside0.mk (IsS103.grown pwm_ hg (IsS103.own_ne HI0.out HO250.out (by decide))); have n2_ := Aside0.mk (Kd.R_over' (by (with_reducible repeat apply Kd.R_alloc); exact HO247.out) (Kd.R_typed (by (with_reducible repeat apply Kd.R_alloc); exact HO250.out)) (by decide) hg); have n3_ := Aside0.mk (below_weaken pwo_ HL.out hb); have n4_ := Aside0.mk (KeepBut.trans pwl_ (KeepBut.of_grown hg g) (Kd.R_base2 HO250.out)); have n5_ := Aside0.mk ((show Kd.C (Kd.slice 62 k62) w110 (some ad235) y251.length y251 from by rw [Ny251.out]; exact Kd.C_take (m := (t181 : Int).toNat) ((Kd.R_reads' (Kd.R_after (ok := (fun k_ => some k_ ≠ (v246 : Value).ownBlock)) (by (with_reducible repeat apply Kd.R_alloc); exact Kd.R_mono HO_7.out (fun _ hk => ⟨hk.1.2, hk.2⟩)) hg hat)).2.2) KL109.out)); have n6_ := Aside0.mk (ho); clear HO_7; clear HI0; clear HO247; clear HB; clear HK; clear HR254; clear HO250; have HO_7 := n0_; have HI0 := n1_; have HO247 := n2_; have HB := n3_; have HK := n4_; have HR254 := n5_; have HO257 := n6_; clear n0_ n1_ n2_ n3_ n4_ n5_ n6_; clear ho hb hg hat; obtain ⟨Ao112, co112, eo112⟩ := Kd.R_slice HO247.out; subst eo112) | ((with_reducible refine gate_builtin (b := .append) (xs := #[.tmp 97, .tmp 99]) rfl ?_); at_builtin; refine Kd.R_append (Kd.slice 62 k62) w.heap.size rfl (.tmp 97) (.tmp 99) 104 25 (.slice none 0 0) 24 rfl Try.underlying104 info25 rfl (by decide) (by omega) v256 y255 y245 [.slice Ao112 y245.length co112] (fun k_ => some k_ ≠ (.slice (some ad235) x7_2.length co98 : Value).ownBlock) (fun k_ => ((fun k_ => some k_ ≠ (.slice (some ad235) x7_2.length co98 : Value).ownBlock)) k_ ∧ some k_ ≠ (v256 : Value).ownBlock) rfl rfl ?aP (fun _ hk => hk) ?aF ?aO (Below.refl _ _) ?aS ?aL ?_; (case aP => exact Kd.M_row (Kd.R_mono (Kd.R_apart' (Kd.R_apart' (HO247.out) (Kd.R_typed HO_7.out) (by decide)) (Kd.R_typed HO257.out) (by decide)) (fun k_ hk => ⟨hk.1.2, hk.2⟩))); (case aF => exact (fun k_ hk => Kd.fresh' (Kd.R_lt pwd_) k_ hk)); (case aO => exact (by (with_reducible repeat apply Kd.R_alloc); exact Kd.R_mono HO257.out (fun _ hk => hk.1))); (case aS => exact (keep_size (w := w) (g := g) (row := none) pwl_)); (case aL => have := LMc94.out; omega); intro v259 w111 ho hb hg hat; rw [← Ny258.out] at ho; have n0_ := Aside0.mk (Kd.R_after (ok := (fun k_ => some k_ ≠ (.slice Ao112 y245.length co112 : Value).ownBlock)) pwd_ hg hat); have n1_ := Aside0.mk (IsS103.grown pwm_ hg (IsS103.own_ne HI0.out HO257.out (by decide))); have n2_ := Aside0.mk (below_weaken pwo_ HL.out hb); have n3_ := Aside0.mk (KeepBut.trans pwl_ (KeepBut.of_grown hg g) (Kd.R_base2 HO257.out)); have n4_ := Aside0.mk ((show Kd.C (Kd.slice 62 k62) w111 (some ad235) y251.length y251 from by rw [Ny251.out]; exact Kd.C_take (m := (t181 : Int).toNat) ((Kd.R_reads' (Kd.R_after (ok := (fun k_ => some k_ ≠ (.slice Ao112 y245.length co112 : Value).ownBlock)) pwd_ hg hat)).2.2) KL109.out)); have n5_ := Aside0.mk (ho); clear HO_7; clear HI0; clear HB; clear HK; clear HR254; clear HO257; clear HO247; have HO_7 := n0_; have HI0 := n1_; have HB := n2_; have HK := n3_; have HR254 := n4_; have HO260 := n5_; clear n0_ n1_ n2_ n3_ n4_ n5_; clear ho hb hg hat; have q113 : ((wrap64 (t181 + 2)) : Int) ≤ ((x7_2.length : Int) : Int) := of_decide_eq_true pwb_; obtain ⟨i0113, hi0113, _, hsz113, _⟩ := info_parts info25; have hroom113 : x7_2.length ≤ co98 := (Kd.R_reads' HO_7.out).2.1; have hC113 : Kd.C (Kd.slice 62 k62) _ (some ad235) x7_2.length x7_2 := (Kd.R_reads' HO_7.out).2.2; have q0113 : (0 : Int) ≤ ((wrap64 (t181 + 2)) : Int) := of_decide_eq_true pwb_; have hcut113 := cut_from (P := Try.prog) 104 25 .i64 Try.underlying104 hi0113 1 hsz113 (some ad235) x7_2.length co98 (wrap64 (t181 + 2)) q0113 q113; have hr113 := Kd.C_drop (m := ((wrap64 (t181 + 2)) : Int).toNat) (c := co98) hC113 (by omega) hroom113; obtain ⟨A113, hA113⟩ : ∃ A1, A1 = (if co98 = ((wrap64 (t181 + 2)) : Int).toNat then (some ad235) else ((some ad235) : Option Addr).map (·.add (((wrap64 (t181 + 2)) : Int).toNat * 1))) := ⟨_, rfl⟩; obtain ⟨c113, hc113⟩ : ∃ c1, c1 = co98 - ((wrap64 (t181 + 2)) : Int).toNat := ⟨_, rfl⟩; have hy113 : y261.length = x7_2.length - ((wrap64 (t181 + 2)) : Int).toNat := (by rw [Ny261.out, List.length_drop] <;> omega); rw [show (x7_2).drop ((wrap64 (t181 + 2)) : Int).toNat = y261 from Ny261.out.symm] at hr113; replace hr113 : Kd.C (Kd.slice 62 k62) _ A113 y261.length y261 := (by rw [hA113]; exact hr113); rw [← hy113, ← hA113, ← hc113] at hcut113; have HR264 := Aside0.mk hr113; have HC264 := Aside0.mk (show y261.length ≤ c113 from by rw [hy113, hc113]; exact Nat.sub_le_sub_right hroom113 _); clear hr113 hC113 hroom113 hi0113 hsz113 hc113; have KY113 := Aside0.mk hy113; have KA113 := Aside0.mk hA113; clear hy113 hA113; have KL113 := Aside0.mk (show ((wrap64 (t181 + 2)) : Int).toNat ≤ x7_2.length from by omega); replace q113 := eq_true q113) | ((with_reducible refine gate_builtin (b := .append) (xs := #[.tmp 101, .tmp 105]) rfl ?_); at_builtin; refine Kd.R_append_rows (Kd.slice 62 k62) w.heap.size rfl (.tmp 101) (.tmp 105) 104 25 (.slice none 0 0) 24 rfl Try.underlying104 info25 rfl (by decide) (by omega) v259 y258 y261 _ _ _ (fun k_ => some k_ ≠ (.slice (some ad235) x7_2.length co98 : Value).ownBlock) (fun k_ => ((fun k_ => some k_ ≠ (.slice (some ad235) x7_2.length co98 : Value).ownBlock)) k_ ∧ some k_ ≠ (v259 : Value).ownBlock) rfl rfl ?aO ?aR (fun _ _ h => h) (fun _ hk => hk) ?aF (Below.refl _ _) ?aS ?aL ?_; (case aR => rw [Ny261.out, KA113.out]; exact Kd.C_drop (m := ((wrap64 (t181 + 2)) : Int).toNat) (c := co98) (Kd.R_frozen (okp := (fun k_ => ((fun k_ => some k_ ≠ (.slice (some ad235) x7_2.length co98 : Value).ownBlock)) k_ ∧ some k_ ≠ (v259 : Value).ownBlock)) (HO_7.out) (fun k_ hk => ⟨hk.2, hk.1.2⟩)).2.2 KL113.out (Kd.R_frozen (okp := (fun k_ => ((fun k_ => some k_ ≠ (.slice (some ad235) x7_2.length co98 : Value).ownBlock)) k_ ∧ some k_ ≠ (v259 : Value).ownBlock)) (HO_7.out) (fun k_ hk => ⟨hk.2, hk.1.2⟩)).2.1); (case aF => exact (fun k_ hk => Kd.fresh' (Kd.R_lt pwd_) k_ hk)); (case aO => exact (by (with_reducible repeat apply Kd.R_alloc); exact HO260.out)); (case aS => exact (keep_size (w := w) (g := g) (row := none) pwl_)); (case aL => have := LMc97.out; omega); intro v266 w114 ho hb hg hat; rw [← Ny265.out] at ho; have n0_ := Aside0.mk (Kd.R_after (ok := (fun _ => True)) (by (with_reducible repeat apply Kd.R_alloc); exact Kd.R_mono HO_7.out (fun _ hk => ⟨trivial, hk.2⟩)) hg hat); have n1_ := Aside0.mk (IsS103.grown pwm_ hg (IsS103.own_ne HI0.out HO260.out (by decide))); have n2_ := Aside0.mk (below_weaken pwo_ HL.out hb); have n3_ := Aside0.mk (KeepBut.trans pwl_ (KeepBut.of_grown hg g) (Kd.R_base2 HO260.out)); have n4_ := Aside0.mk ((show Kd.C (Kd.slice 62 k62) w114 (some ad235) y251.length y251 from by rw [Ny251.out]; exact Kd.C_take (m := (t181 : Int).toNat) ((Kd.R_reads' (Kd.R_after (ok := (fun _ => True)) (by (with_reducible repeat apply Kd.R_alloc); exact Kd.R_mono HO_7.out (fun _ hk => ⟨trivial, hk.2⟩)) hg hat)).2.2) KL109.out)); have n5_ := Aside0.mk ((show Kd.C (Kd.slice 62 k62) w114 A113 y261.length y261 from by rw [Ny261.out, KA113.out]; exact Kd.C_drop (m := ((wrap64 (t181 + 2)) : Int).toNat) (c := co98) ((Kd.R_reads' (Kd.R_after (ok := (fun _ => True)) (by (with_reducible repeat apply Kd.R_alloc); exact Kd.R_mono HO_7.out (fun _ hk => ⟨trivial, hk.2⟩)) hg hat)).2.2) KL113.out ((Kd.R_reads' (Kd.R_after (ok := (fun _ => True)) (by (with_reducible repeat apply Kd.R_alloc); exact Kd.R_mono HO_7.out (fun _ hk => ⟨trivial, hk.2⟩)) hg hat)).2.1))); have n6_ := Aside0.mk (ho); clear HO_7; clear HI0; clear HB; clear HK; clear HR254; clear HR264; clear HO260; have HO_7 := n0_; have HI0 := n1_; have HB := n2_; have HK := n3_; have HR254 := n4_; have HR264 := n5_; have HO267 := n6_; clear n0_ n1_ n2_ n3_ n4_ n5_ n6_; clear ho hb hg hat))
                     go_roundg k2
                     case measure => have := HK1.out; have := HK2.out; omega
                     case rel => exact ⟨(y265), (x9_2), (t244), pwa_, H', ⟨by have := HK1.out; have := HK2.out; omega⟩, ⟨by (with_reducible repeat apply Kd.R_alloc); exact Kd.R_mono HO267.out (fun _ hk => trivial)⟩, ⟨pwm_⟩, ⟨pwl_⟩, ⟨pwo_⟩⟩
                    ·rw [if_neg c97] at H
                     exact absurd H (by simp)
                   ·rw [if_neg c96] at H
                    exact absurd H (by simp)
                  ·rw [if_neg c95] at H
                   exact absurd H (by simp)
                 ·rw [if_neg c94] at H
                  exact absurd H (by simp)
                ·rw [if_neg c93] at H
                 exact absurd H (by simp)
               ·rw [if_neg c92] at H
                exact absurd H (by simp)
              ·rw [if_neg c90] at H
               exact absurd H (by simp)
             ·rw [if_neg c88] at H
              exact absurd H (by simp)
            ·rw [if_neg c87] at H
             exact absurd H (by simp)
           ·rw [if_neg c86] at H
            exact absurd H (by simp)
          ·rw [if_neg c84] at H
           exact absurd H (by simp)
         ·rw [if_neg c83] at H
          exact absurd H (by simp)
        ·rw [if_neg c82] at H
         exact absurd H (by simp)
      ·rw [if_neg c29] at H
       have c29b0 : decide (1 < (x7_2.length : Int)) = false := decide_eq_false c29
       have c29b1 : decide (1 < x7_2.length) = false := decide_eq_false (by omega)
       clear c29
       by_cases c115 : 0 < (x7_2.length : Int)
       ·rw [if_pos c115] at H
        have c115b0 : decide (0 < (x7_2.length : Int)) = true := decide_eq_true c115
        have c115b1 : decide (0 < x7_2.length) = true := decide_eq_true (by omega)
        clear c115
        replace H := Option.bind_eq_some_iff.mp H
        obtain ⟨⟨t269, t270⟩, A1160, H⟩ := H
        replace H : (if t269 = 0 then (if (rd_L3 x7_2 0).length < 8796093022208 then (spec_l20Term.j2 k2 a2 ((rd_L3 x7_2 0) ++ [(⟨2, 0⟩ : S62)]) s0_0 t270) else (none)) else (spec_l20Term.j2 k2 a2 (rd_L3 x7_2 0) s0_0 t270)) = some (r1, r2) := H
        have A116 := Aside0.mk A1160
        clear A1160
        have HC117 := Aside0.mk H
        clear H
        obtain ⟨Ao118, co118, eo118⟩ := Kd.R_slice HO_7.out
        subst eo118
        have p268 : 0 ≤ (0 : Int) := (by omega)
        have q268 : 0 < (x7_2.length : Int) := of_decide_eq_true pwb_
        obtain ⟨ad268, A268_0, c268_0, e268, hx268_0, hl268_0, hi268_0⟩ := at_L3 (Kd.R_reads' HO_7.out).2.2 0 p268 q268
        cases e268
        obtain ⟨ce268, hce268, hMe268, hcc268⟩ := Kd.R_get HO_7.out [] 0 p268 (by first | exact q268 | exact of_decide_eq_true pwb_ | (have e_ := (Kd.R_reads' HO_7.out).1; omega))
        obtain ⟨ve268_0, rfl, ge268_0⟩ := hMe268
        have hv268_0 := hcc268 0 _ rfl
        rw [Nat.add_zero, show ((Kd.slice 62 k62)).sz = 1 from rfl, Nat.mul_one] at hv268_0
        replace hv268_0 := Option.some.inj (hv268_0.symm.trans hx268_0)
        rw [hv268_0] at ge268_0
        have HL268_0 := Aside0.mk (show Kd.R k62 62 _ _ _ _ (rd_L3 x7_2 0) from ge268_0)
        clear hv268_0 ge268_0
        clear hcc268 hce268
        have qi268 : (0 < x7_2.length) = True := eq_true (by omega)
        (try rw [show ((0 : Int)).toNat = 0 from rfl] at hx268_0)
        (try rw [Addr.add_zero'] at hx268_0)
        have HR268_0 := Aside0.mk hi268_0
        have HC268_0 := Aside0.mk hl268_0
        clear hi268_0 hl268_0
        replace p268 := eq_true p268
        replace q268 := eq_true q268
        replace HL268_0 := Aside0.mk (show Kd.R k62 62 _ _ (fun _ => True) _ (rd_L3 x7_2 0) from Kd.R_mono HL268_0.out (fun _ hk => trivial))
        go_upto_if 112 with (first | ((with_reducible refine gate_callee (f := 60) rfl ?_); refine goesL_ (some 111) rfl rfl Try.func60 (by kernel_rfl) rfl #[.pointer (some ⟨g, 0, none⟩), .int .i64 5] rfl pwk_ ?_; (with_reducible refine (spec_l20Rd_pick.calls k2 g s0_0 x1001_2 5 t269 t270 w0 _ ?side1 ?side2 A116.out).mono ?_); (case side1 => repeat (first | (with_reducible first | exact HI0.out | apply IsS103.alloc | apply IsS103.drewN | apply IsS103.drew | apply IsS103.set_1) | exact HI0.out)); (case side2 => repeat (first | (with_reducible first | exact HB.out | apply below_alloc | apply pw_below_drewN | apply below_drew1 | refine below_set ?_ (IsS103.ge HI0.out)) | exact HB.out)); rintro e w119 ⟨rfl, hi, hb, hk⟩; refine ⟨_, rfl, ?_⟩; have n0_ := Aside0.mk (Kd.R_mono (Kd.R_keep (IsS103.apart (show IsS103 w0 _ g s0_0 x1001_2 from by repeat (first | (with_reducible first | exact HI0.out | apply IsS103.alloc | apply IsS103.drewN | apply IsS103.drew | apply IsS103.set_1) | exact HI0.out)) (by (with_reducible repeat apply Kd.R_alloc); exact HL268_0.out) (by decide)) hk (fun _ h => h.2)) (fun _ h => h.1)); have n1_ := Aside0.mk (KeepBut.trans pwl_ hk (.inl rfl)); have n2_ := Aside0.mk (hb); have n3_ := Aside0.mk (hi); clear HL268_0; clear HK; clear HB; clear HI0; have HL268_0 := n0_; have HK := n1_; have HB := n2_; have HI0 := n3_; clear n0_ n1_ n2_ n3_; (try clear hb); (try clear hb2); (try clear hk); (try clear hi)))
        (try simp only [Act.put, List.setIfInBounds_toArray, List.set_cons_zero, List.set_cons_succ])
        go_cut [13] (fun v13 wc => ∃ (kq : Nat) (x13_116 : List (S62)), Aside0 (spec_l20Term.j2 kq a2 x13_116 s0_0 t270 = some (r1, r2)) ∧ Aside0 (kq ≤ k2) ∧ Aside0 (Kd.R k62 62 wc w.heap.size (fun _ => True) v13 x13_116) ∧ Aside0 (IsS103 w0 wc g s0_0 t270) ∧ Aside0 (KeepBut w wc g none) ∧ Aside0 (Below w0.heap.size w0 wc))
        case first =>
         have H := HC117.out
         clear HC117
         by_cases c120 : t269 = 0
         ·rw [if_pos c120] at H
          have c120b0 : (t269 == 0) = true := beq_iff_eq.mpr c120
          have c120b1 : (t269 != 0) = false := bne_eq_false_iff_eq.mpr c120
          clear c120
          (first | rw [c120b0] | (simp only [i64_w, i32_w]; rw [c120b0]) | skip)
          by_cases c121 : (rd_L3 x7_2 0).length < 8796093022208
          ·rw [if_pos c121] at H
           have LMc121 := Aside0.mk c121
           clear c121
           obtain ⟨y271, hy271⟩ : ∃ y_ : List (S62), y_ = ((rd_L3 x7_2 0) ++ [(⟨2, 0⟩ : S62)]) := ⟨_, rfl⟩
           replace H : (spec_l20Term.j2 k2 a2 y271 s0_0 t270) = some (r1, r2) := by first | (rw [hy271]; with_reducible exact H) | (have H2_ := (Option.bind_some _ _).symm.trans H; rw [hy271]; with_reducible exact H2_) | (have H2_ := (Option.bind_some _ _).symm.trans H; with_reducible exact H2_) | with_reducible exact H | (rw [hy271]; exact H) | exact H
           have Ny271 := Aside0.mk hy271
           clear hy271
           have H' := Aside0.mk H
           clear H
           go_wp2_with (first | ((with_reducible refine gate_builtin (b := .append) (xs := #[.tmp 113, .tmp 115]) rfl ?_); at_builtin; refine Kd.R_append k62 w.heap.size rfl (.tmp 113) (.tmp 115) 25 62 (.agg #[(.int .i64 0), (.int .i64 0)]) 16 rfl Try.underlying25 info62 rfl (by decide) (by omega) (.slice A268_0 (rd_L3 x7_2 0).length c268_0) (rd_L3 x7_2 0) (⟨2, 0⟩ : S62) [.int .i64 2, .int .i64 0] (fun _ => True) (fun _ => False) rfl rfl ?aP (fun _ hk => hk.elim) ?aF ?aO (Below.refl _ _) ?aS ?aL ?_; (case aP => exact k62_mkM _ _ _ (⟨2, 0⟩ : S62)); (case aF => exact (fun _ _ => trivial)); (case aO => exact (by (with_reducible repeat apply Kd.R_alloc); exact HL268_0.out)); (case aS => exact (keep_size (w := w) (g := g) (row := none) pwl_)); (case aL => have := LMc121.out; omega); intro v272 w122 ho hb hg hat; rw [← Ny271.out] at ho; have n0_ := Aside0.mk (IsS103.grown pwm_ hg (IsS103.own_ne HI0.out HL268_0.out (by decide))); have n1_ := Aside0.mk (below_weaken pwo_ HL.out hb); have n2_ := Aside0.mk (KeepBut.trans pwl_ (KeepBut.of_grown hg g) (Kd.R_base2 HL268_0.out)); have n3_ := Aside0.mk (ho); clear HI0; clear HB; clear HK; clear HL268_0; have HI0 := n0_; have HB := n1_; have HK := n2_; have HO273 := n3_; clear n0_ n1_ n2_ n3_; clear ho hb hg hat))
           go_meet
           case rel => exact ⟨_, (y271), H', ⟨by have := HK1.out; have := HK2.out; first | omega | exact Nat.le_refl _⟩, ⟨by (with_reducible repeat apply Kd.R_alloc); exact HO273.out⟩, ⟨pwm_⟩, ⟨pwl_⟩, ⟨pwo_⟩⟩
          ·rw [if_neg c121] at H
           exact absurd H (by simp)
         ·rw [if_neg c120] at H
          have c120b0 : (t269 == 0) = false := beq_eq_false_iff_ne.mpr c120
          have c120b1 : (t269 != 0) = true := bne_iff_ne.mpr c120
          (first | rw [c120b0] | (simp only [i64_w, i32_w]; rw [c120b0]) | skip)
          have H' := Aside0.mk H
          clear H
          go_wp2
          go_meet
          case rel => exact ⟨_, (rd_L3 x7_2 0), H', ⟨by have := HK1.out; have := HK2.out; first | omega | exact Nat.le_refl _⟩, ⟨by (with_reducible repeat apply Kd.R_alloc); exact HL268_0.out⟩, ⟨pwm_⟩, ⟨pwl_⟩, ⟨pwo_⟩⟩
        case rest =>
         clear HC117
         try clear c1
         try clear q1
         try clear c2
         try clear p2
         try clear q2
         try clear hx2
         try clear qi2
         try clear c3
         try clear c4
         try clear c6
         try clear p6
         try clear c8
         try clear c9
         try clear q10
         try clear c11
         try clear q11
         try clear c12
         try clear c23
         try clear p23
         try clear q23
         try clear hx23
         try clear c26
         try clear p26
         try clear q26
         try clear hx26
         try clear qi26
         try clear c29
         try clear c29b0
         try clear c29b1
         try clear c31
         try clear c31b0
         try clear c48
         try clear c49
         try clear c60
         try clear p64
         try clear c82
         try clear c82b0
         try clear c83
         try clear c83b0
         try clear c84
         try clear c86
         try clear c86b0
         try clear c87
         try clear c87b0
         try clear c88
         try clear c90
         try clear c91
         try clear c91b0
         try clear c92
         try clear c92b0
         try clear c92b1
         try clear c93
         try clear c94
         try clear c95
         try clear c95b0
         try clear c95b1
         try clear c96
         try clear c96b0
         try clear c96b1
         try clear c97
         try clear q109
         try clear c113
         try clear q113
         try clear c115
         try clear c115b0
         try clear c115b1
         try clear c120
         try clear c120b0
         try clear c120b1
         try clear c121
         try clear hx235_0
         try clear hx239_0
         try clear hx268_0
         try clear p235
         try clear p239
         try clear p268
         try clear q0113
         try clear q109
         try clear q113
         try clear q235
         try clear q239
         try clear q268
         obtain ⟨kq, x13_116, HA, HJ116, HO_13, HI0, HK, HB⟩ := hcut
         cases kq with
         | zero => exact absurd HA.out (by simp [spec_l20Term.j2])
         | succ kj116 =>
          have H := HA.out
          clear HA
          simp only [spec_l20Term.j2] at H
          replace H := Option.bind_eq_some_iff.mp H
          obtain ⟨⟨t274, t275⟩, A1230, H⟩ := H
          replace H : (if t274 = true then ((spec_l20Rd_pick.f kj116 s0_0 t275 3).bind fun bt276 => (if bt276.1 = 0 then (some ((([] : List (S62))), bt276.2)) else (if bt276.1 = 1 then (if x13_116.length < 8796093022208 then (some ((x13_116 ++ [(⟨5, 0⟩ : S62)]), bt276.2)) else (none)) else ((spec_l20Rd_pick.f kj116 s0_0 bt276.2 2).bind fun bt284 => (if 0 < (x13_116.length : Int) then (some ((x13_116.set (0 : Int).toNat (⟨bt284.1, 6⟩ : S62)), bt284.2)) else (none)))))) else (some (x13_116, t275))) = some (r1, r2) := H
          have A123 := Aside0.mk A1230
          clear A1230
          by_cases c124 : t274 = true
          ·subst c124
           have H1 : ((spec_l20Rd_pick.f kj116 s0_0 t275 3).bind fun bt276 => (if bt276.1 = 0 then (some ((([] : List (S62))), bt276.2)) else (if bt276.1 = 1 then (if x13_116.length < 8796093022208 then (some ((x13_116 ++ [(⟨5, 0⟩ : S62)]), bt276.2)) else (none)) else ((spec_l20Rd_pick.f kj116 s0_0 bt276.2 2).bind fun bt284 => (if 0 < (x13_116.length : Int) then (some ((x13_116.set (0 : Int).toNat (⟨bt284.1, 6⟩ : S62)), bt284.2)) else (none)))))) = some (r1, r2) := by rw [if_pos rfl] at H; exact H
           clear H
           have H := H1
           clear H1
           replace H := Option.bind_eq_some_iff.mp H
           obtain ⟨⟨t276, t277⟩, A1250, H⟩ := H
           replace H : (if t276 = 0 then (some ((([] : List (S62))), t277)) else (if t276 = 1 then (if x13_116.length < 8796093022208 then (some ((x13_116 ++ [(⟨5, 0⟩ : S62)]), t277)) else (none)) else ((spec_l20Rd_pick.f kj116 s0_0 t277 2).bind fun bt284 => (if 0 < (x13_116.length : Int) then (some ((x13_116.set (0 : Int).toNat (⟨bt284.1, 6⟩ : S62)), bt284.2)) else (none))))) = some (r1, r2) := H
           have A125 := Aside0.mk A1250
           clear A1250
           by_cases c126 : t276 = 0
           ·rw [if_pos c126] at H
            have c126b0 : (t276 == 0) = true := beq_iff_eq.mpr c126
            have c126b1 : (t276 != 0) = false := bne_eq_false_iff_eq.mpr c126
            clear c126
            obtain ⟨y278, hy278⟩ : ∃ y_ : List (S62), y_ = (([] : List (S62))) := ⟨_, rfl⟩
            replace H : (some (y278, t277)) = some (r1, r2) := by first | (rw [hy278]; with_reducible exact H) | (have H2_ := (Option.bind_some _ _).symm.trans H; rw [hy278]; with_reducible exact H2_) | (have H2_ := (Option.bind_some _ _).symm.trans H; with_reducible exact H2_) | with_reducible exact H | (rw [hy278]; exact H) | exact H
            have Ny278 := Aside0.mk hy278
            clear hy278
            simp only [Option.some.injEq, Prod.mk.injEq] at H
            obtain ⟨rfl, rfl⟩ := H
            go_wp2_with (first | ((with_reducible refine gate_callee (f := 88) rfl ?_); refine goesL_ (some 119) rfl rfl Try.func88 (by kernel_rfl) rfl #[.pointer (some ⟨g, 0, none⟩), .int .i64 a2] rfl pwk_ ?_; (with_reducible refine (spec_l20Rd_odd.calls kj116 g s0_0 t270 a2 true t275 w0 _ ?side1 ?side2 A123.out).mono ?_); (case side1 => repeat (first | (with_reducible first | exact HI0.out | apply IsS103.alloc | apply IsS103.drewN | apply IsS103.drew | apply IsS103.set_1) | exact HI0.out)); (case side2 => repeat (first | (with_reducible first | exact HB.out | apply below_alloc | apply pw_below_drewN | apply below_drew1 | refine below_set ?_ (IsS103.ge HI0.out)) | exact HB.out)); rintro e w127 ⟨rfl, hi, hb, hk⟩; refine ⟨_, rfl, ?_⟩; have n0_ := Aside0.mk (Kd.R_mono (Kd.R_keep (IsS103.apart (show IsS103 w0 _ g s0_0 t270 from by repeat (first | (with_reducible first | exact HI0.out | apply IsS103.alloc | apply IsS103.drewN | apply IsS103.drew | apply IsS103.set_1) | exact HI0.out)) pwg_ (by decide)) hk (fun _ h => h.2)) (fun _ h => h.1)); have n1_ := Aside0.mk (KeepBut.trans pwl_ hk (.inl rfl)); have n2_ := Aside0.mk (hb); have n3_ := Aside0.mk (hi); clear HO_13; clear HK; clear HB; clear HI0; have HO_13 := n0_; have HK := n1_; have HB := n2_; have HI0 := n3_; clear n0_ n1_ n2_ n3_; (try clear hb); (try clear hb2); (try clear hk); (try clear hi)) | ((with_reducible refine gate_callee (f := 60) rfl ?_); refine goesL_ (some 121) rfl rfl Try.func60 (by kernel_rfl) rfl #[.pointer (some ⟨g, 0, none⟩), .int .i64 3] rfl pwk_ ?_; (with_reducible refine (spec_l20Rd_pick.calls kj116 g s0_0 t275 3 t276 t277 w0 _ ?side1 ?side2 A125.out).mono ?_); (case side1 => repeat (first | (with_reducible first | exact HI0.out | apply IsS103.alloc | apply IsS103.drewN | apply IsS103.drew | apply IsS103.set_1) | exact HI0.out)); (case side2 => repeat (first | (with_reducible first | exact HB.out | apply below_alloc | apply pw_below_drewN | apply below_drew1 | refine below_set ?_ (IsS103.ge HI0.out)) | exact HB.out)); rintro e w128 ⟨rfl, hi, hb, hk⟩; refine ⟨_, rfl, ?_⟩; have n0_ := Aside0.mk (Kd.R_mono (Kd.R_keep (IsS103.apart (show IsS103 w0 _ g s0_0 t275 from by repeat (first | (with_reducible first | exact HI0.out | apply IsS103.alloc | apply IsS103.drewN | apply IsS103.drew | apply IsS103.set_1) | exact HI0.out)) pwg_ (by decide)) hk (fun _ h => h.2)) (fun _ h => h.1)); have n1_ := Aside0.mk (KeepBut.trans pwl_ hk (.inl rfl)); have n2_ := Aside0.mk (hb); have n3_ := Aside0.mk (hi); clear HO_13; clear HK; clear HB; clear HI0; have HO_13 := n0_; have HK := n1_; have HB := n2_; have HI0 := n3_; clear n0_ n1_ n2_ n3_; (try clear hb); (try clear hb2); (try clear hk); (try clear hi)) | ((with_reducible refine gate_dst (N := 129) rfl ?_); refine Kd.R_lit k62 _ 62 ?hg (N := 129) ?hd (xs := ([] : List (S62))) (inner := []) (ok := fun _ => True) (okp := fun _ => True) ?hr ?hp (fun _ hk => hk) trivial (Below.refl _ _) (Nat.le_refl _) (by simp) ?_; (case hd => rfl); (case hg => rfl); (case hr => first | (go_simp; done) | (go_simp; rfl)); (case hp => exact (Reps.none _ _)); intro v279 w129 ho130 hb hg_ hnew_; clear hg_ hnew_; (first | rw [← Ny278.out] at ho130 | (simp only [Int.reduceToNat] at ho130; rw [← Ny278.out] at ho130)); have n0_ := Aside0.mk (Kd.R_elder' pwg_ (Kd.R_base ho130) hb); have n1_ := Aside0.mk (Kd.R_lower (Kd.R_new' ho130 (Kd.R_lt pwg_)) (keep_size (w := w) (g := g) (row := none) pwl_)); have n2_ := Aside0.mk (IsS103.below pwm_ hb); have n3_ := Aside0.mk (KeepBut.trans pwl_ (KeepBut.of_below hb g none) (.inl rfl)); have n4_ := Aside0.mk (below_step pwo_ hb); clear HO_13; clear HI0; clear HK; clear HB; have HO_13 := n0_; have HO280 := n1_; have HI0 := n2_; have HK := n3_; have HB := n4_; clear n0_ n1_ n2_ n3_ n4_; clear hb ho130))
            go_ret
            exact ⟨_, by first | rfl | (simp [errW_none, errW_some] <;> rfl) | (simp only [← hji4, ← hji5]; first | rfl | (simp [errW_none, errW_some] <;> rfl)) | (simp [*, errW_none, errW_some] <;> rfl), by (with_reducible repeat apply Kd.R_alloc); exact Kd.R_mono HO280.out (fun _ hk => trivial), pwm_, pwo_, pwl_⟩
           ·rw [if_neg c126] at H
            have c126b0 : (t276 == 0) = false := beq_eq_false_iff_ne.mpr c126
            have c126b1 : (t276 != 0) = true := bne_iff_ne.mpr c126
            by_cases c131 : t276 = 1
            ·rw [if_pos c131] at H
             have c131b0 : (t276 == 1) = true := beq_iff_eq.mpr c131
             have c131b1 : (t276 != 1) = false := bne_eq_false_iff_eq.mpr c131
             clear c131
             by_cases c132 : x13_116.length < 8796093022208
             ·rw [if_pos c132] at H
              have LMc132 := Aside0.mk c132
              clear c132
              obtain ⟨y281, hy281⟩ : ∃ y_ : List (S62), y_ = (x13_116 ++ [(⟨5, 0⟩ : S62)]) := ⟨_, rfl⟩
              replace H : (some (y281, t277)) = some (r1, r2) := by first | (rw [hy281]; with_reducible exact H) | (have H2_ := (Option.bind_some _ _).symm.trans H; rw [hy281]; with_reducible exact H2_) | (have H2_ := (Option.bind_some _ _).symm.trans H; with_reducible exact H2_) | with_reducible exact H | (rw [hy281]; exact H) | exact H
              have Ny281 := Aside0.mk hy281
              clear hy281
              simp only [Option.some.injEq, Prod.mk.injEq] at H
              obtain ⟨rfl, rfl⟩ := H
              go_wp2_with (first | ((with_reducible refine gate_callee (f := 88) rfl ?_); refine goesL_ (some 119) rfl rfl Try.func88 (by kernel_rfl) rfl #[.pointer (some ⟨g, 0, none⟩), .int .i64 a2] rfl pwk_ ?_; (with_reducible refine (spec_l20Rd_odd.calls kj116 g s0_0 t270 a2 true t275 w0 _ ?side1 ?side2 A123.out).mono ?_); (case side1 => repeat (first | (with_reducible first | exact HI0.out | apply IsS103.alloc | apply IsS103.drewN | apply IsS103.drew | apply IsS103.set_1) | exact HI0.out)); (case side2 => repeat (first | (with_reducible first | exact HB.out | apply below_alloc | apply pw_below_drewN | apply below_drew1 | refine below_set ?_ (IsS103.ge HI0.out)) | exact HB.out)); rintro e w133 ⟨rfl, hi, hb, hk⟩; refine ⟨_, rfl, ?_⟩; have n0_ := Aside0.mk (Kd.R_mono (Kd.R_keep (IsS103.apart (show IsS103 w0 _ g s0_0 t270 from by repeat (first | (with_reducible first | exact HI0.out | apply IsS103.alloc | apply IsS103.drewN | apply IsS103.drew | apply IsS103.set_1) | exact HI0.out)) pwg_ (by decide)) hk (fun _ h => h.2)) (fun _ h => h.1)); have n1_ := Aside0.mk (KeepBut.trans pwl_ hk (.inl rfl)); have n2_ := Aside0.mk (hb); have n3_ := Aside0.mk (hi); clear HO_13; clear HK; clear HB; clear HI0; have HO_13 := n0_; have HK := n1_; have HB := n2_; have HI0 := n3_; clear n0_ n1_ n2_ n3_; (try clear hb); (try clear hb2); (try clear hk); (try clear hi)) | ((with_reducible refine gate_callee (f := 60) rfl ?_); refine goesL_ (some 121) rfl rfl Try.func60 (by kernel_rfl) rfl #[.pointer (some ⟨g, 0, none⟩), .int .i64 3] rfl pwk_ ?_; (with_reducible refine (spec_l20Rd_pick.calls kj116 g s0_0 t275 3 t276 t277 w0 _ ?side1 ?side2 A125.out).mono ?_); (case side1 => repeat (first | (with_reducible first | exact HI0.out | apply IsS103.alloc | apply IsS103.drewN | apply IsS103.drew | apply IsS103.set_1) | exact HI0.out)); (case side2 => repeat (first | (with_reducible first | exact HB.out | apply below_alloc | apply pw_below_drewN | apply below_drew1 | refine below_set ?_ (IsS103.ge HI0.out)) | exact HB.out)); rintro e w134 ⟨rfl, hi, hb, hk⟩; refine ⟨_, rfl, ?_⟩; have n0_ := Aside0.mk (Kd.R_mono (Kd.R_keep (IsS103.apart (show IsS103 w0 _ g s0_0 t275 from by repeat (first | (with_reducible first | exact HI0.out | apply IsS103.alloc | apply IsS103.drewN | apply IsS103.drew | apply IsS103.set_1) | exact HI0.out)) pwg_ (by decide)) hk (fun _ h => h.2)) (fun _ h => h.1)); have n1_ := Aside0.mk (KeepBut.trans pwl_ hk (.inl rfl)); have n2_ := Aside0.mk (hb); have n3_ := Aside0.mk (hi); clear HO_13; clear HK; clear HB; clear HI0; have HO_13 := n0_; have HK := n1_; have HB := n2_; have HI0 := n3_; clear n0_ n1_ n2_ n3_; (try clear hb); (try clear hb2); (try clear hk); (try clear hi)) | ((with_reducible refine gate_builtin (b := .append) (xs := #[.tmp 132, .tmp 134]) rfl ?_); at_builtin; refine Kd.R_append k62 w.heap.size rfl (.tmp 132) (.tmp 134) 25 62 (.agg #[(.int .i64 0), (.int .i64 0)]) 16 rfl Try.underlying25 info62 rfl (by decide) (by omega) u13 x13_116 (⟨5, 0⟩ : S62) [.int .i64 5, .int .i64 0] (fun _ => True) (fun _ => False) rfl rfl ?aP (fun _ hk => hk.elim) ?aF ?aO (Below.refl _ _) ?aS ?aL ?_; (case aP => exact k62_mkM _ _ _ (⟨5, 0⟩ : S62)); (case aF => exact (fun _ _ => trivial)); (case aO => exact pwg_); (case aS => exact (keep_size (w := w) (g := g) (row := none) pwl_)); (case aL => have := LMc132.out; omega); intro v282 w135 ho hb hg hat; rw [← Ny281.out] at ho; have n0_ := Aside0.mk (IsS103.grown pwm_ hg (IsS103.own_ne HI0.out HO_13.out (by decide))); have n1_ := Aside0.mk (below_weaken pwo_ HL.out hb); have n2_ := Aside0.mk (KeepBut.trans pwl_ (KeepBut.of_grown hg g) (Kd.R_base2 HO_13.out)); have n3_ := Aside0.mk (ho); clear HI0; clear HB; clear HK; clear HO_13; have HI0 := n0_; have HB := n1_; have HK := n2_; have HO283 := n3_; clear n0_ n1_ n2_ n3_; clear ho hb hg hat))
              go_ret
              exact ⟨_, by first | rfl | (simp [errW_none, errW_some] <;> rfl) | (simp only [← hji4, ← hji5]; first | rfl | (simp [errW_none, errW_some] <;> rfl)) | (simp [*, errW_none, errW_some] <;> rfl), by (with_reducible repeat apply Kd.R_alloc); exact HO283.out, pwm_, pwo_, pwl_⟩
             ·rw [if_neg c132] at H
              exact absurd H (by simp)
            ·rw [if_neg c131] at H
             have c131b0 : (t276 == 1) = false := beq_eq_false_iff_ne.mpr c131
             have c131b1 : (t276 != 1) = true := bne_iff_ne.mpr c131
             replace H := Option.bind_eq_some_iff.mp H
             obtain ⟨⟨t284, t285⟩, A1360, H⟩ := H
             replace H : (if 0 < (x13_116.length : Int) then (some ((x13_116.set (0 : Int).toNat (⟨t284, 6⟩ : S62)), t285)) else (none)) = some (r1, r2) := H
             have A136 := Aside0.mk A1360
             clear A1360
             by_cases c137 : 0 < (x13_116.length : Int)
             ·rw [if_pos c137] at H
              have c137b0 : decide (0 < (x13_116.length : Int)) = true := decide_eq_true c137
              have c137b1 : decide (0 < x13_116.length) = true := decide_eq_true (by omega)
              clear c137
              obtain ⟨y286, hy286⟩ : ∃ y_ : List (S62), y_ = (x13_116.set (0 : Int).toNat (⟨t284, 6⟩ : S62)) := ⟨_, rfl⟩
              replace H : (some (y286, t285)) = some (r1, r2) := by first | (rw [hy286]; with_reducible exact H) | (have H2_ := (Option.bind_some _ _).symm.trans H; rw [hy286]; with_reducible exact H2_) | (have H2_ := (Option.bind_some _ _).symm.trans H; with_reducible exact H2_) | with_reducible exact H | (rw [hy286]; exact H) | exact H
              have Ny286 := Aside0.mk hy286
              clear hy286
              simp only [Option.some.injEq, Prod.mk.injEq] at H
              obtain ⟨rfl, rfl⟩ := H
              go_wp2_with (first | ((with_reducible refine gate_callee (f := 88) rfl ?_); refine goesL_ (some 119) rfl rfl Try.func88 (by kernel_rfl) rfl #[.pointer (some ⟨g, 0, none⟩), .int .i64 a2] rfl pwk_ ?_; (with_reducible refine (spec_l20Rd_odd.calls kj116 g s0_0 t270 a2 true t275 w0 _ ?side1 ?side2 A123.out).mono ?_); (case side1 => repeat (first | (with_reducible first | exact HI0.out | apply IsS103.alloc | apply IsS103.drewN | apply IsS103.drew | apply IsS103.set_1) | exact HI0.out)); (case side2 => repeat (first | (with_reducible first | exact HB.out | apply below_alloc | apply pw_below_drewN | apply below_drew1 | refine below_set ?_ (IsS103.ge HI0.out)) | exact HB.out)); rintro e w139 ⟨rfl, hi, hb, hk⟩; refine ⟨_, rfl, ?_⟩; have n0_ := Aside0.mk (Kd.R_mono (Kd.R_keep (IsS103.apart (show IsS103 w0 _ g s0_0 t270 from by repeat (first | (with_reducible first | exact HI0.out | apply IsS103.alloc | apply IsS103.drewN | apply IsS103.drew | apply IsS103.set_1) | exact HI0.out)) pwg_ (by decide)) hk (fun _ h => h.2)) (fun _ h => h.1)); have n1_ := Aside0.mk (KeepBut.trans pwl_ hk (.inl rfl)); have n2_ := Aside0.mk (hb); have n3_ := Aside0.mk (hi); clear HO_13; clear HK; clear HB; clear HI0; have HO_13 := n0_; have HK := n1_; have HB := n2_; have HI0 := n3_; clear n0_ n1_ n2_ n3_; (try clear hb); (try clear hb2); (try clear hk); (try clear hi)) | ((with_reducible refine gate_callee (f := 60) rfl ?_); refine goesL_ (some 121) rfl rfl Try.func60 (by kernel_rfl) rfl #[.pointer (some ⟨g, 0, none⟩), .int .i64 3] rfl pwk_ ?_; (with_reducible refine (spec_l20Rd_pick.calls kj116 g s0_0 t275 3 t276 t277 w0 _ ?side1 ?side2 A125.out).mono ?_); (case side1 => repeat (first | (with_reducible first | exact HI0.out | apply IsS103.alloc | apply IsS103.drewN | apply IsS103.drew | apply IsS103.set_1) | exact HI0.out)); (case side2 => repeat (first | (with_reducible first | exact HB.out | apply below_alloc | apply pw_below_drewN | apply below_drew1 | refine below_set ?_ (IsS103.ge HI0.out)) | exact HB.out)); rintro e w140 ⟨rfl, hi, hb, hk⟩; refine ⟨_, rfl, ?_⟩; have n0_ := Aside0.mk (Kd.R_mono (Kd.R_keep (IsS103.apart (show IsS103 w0 _ g s0_0 t275 from by repeat (first | (with_reducible first | exact HI0.out | apply IsS103.alloc | apply IsS103.drewN | apply IsS103.drew | apply IsS103.set_1) | exact HI0.out)) pwg_ (by decide)) hk (fun _ h => h.2)) (fun _ h => h.1)); have n1_ := Aside0.mk (KeepBut.trans pwl_ hk (.inl rfl)); have n2_ := Aside0.mk (hb); have n3_ := Aside0.mk (hi); clear HO_13; clear HK; clear HB; clear HI0; have HO_13 := n0_; have HK := n1_; have HB := n2_; have HI0 := n3_; clear n0_ n1_ n2_ n3_; (try clear hb); (try clear hb2); (try clear hk); (try clear hi)) | ((with_reducible refine gate_callee (f := 60) rfl ?_); refine goesL_ (some 124) rfl rfl Try.func60 (by kernel_rfl) rfl #[.pointer (some ⟨g, 0, none⟩), .int .i64 2] rfl pwk_ ?_; (with_reducible refine (spec_l20Rd_pick.calls kj116 g s0_0 t277 2 t284 t285 w0 _ ?side1 ?side2 A136.out).mono ?_); (case side1 => repeat (first | (with_reducible first | exact HI0.out | apply IsS103.alloc | apply IsS103.drewN | apply IsS103.drew | apply IsS103.set_1) | exact HI0.out)); (case side2 => repeat (first | (with_reducible first | exact HB.out | apply below_alloc | apply pw_below_drewN | apply below_drew1 | refine below_set ?_ (IsS103.ge HI0.out)) | exact HB.out)); rintro e w141 ⟨rfl, hi, hb, hk⟩; refine ⟨_, rfl, ?_⟩; have n0_ := Aside0.mk (Kd.R_mono (Kd.R_keep (IsS103.apart (show IsS103 w0 _ g s0_0 t277 from by repeat (first | (with_reducible first | exact HI0.out | apply IsS103.alloc | apply IsS103.drewN | apply IsS103.drew | apply IsS103.set_1) | exact HI0.out)) pwg_ (by decide)) hk (fun _ h => h.2)) (fun _ h => h.1)); have n1_ := Aside0.mk (KeepBut.trans pwl_ hk (.inl rfl)); have n2_ := Aside0.mk (hb); have n3_ := Aside0.mk (hi); clear HO_13; clear HK; clear HB; clear HI0; have HO_13 := n0_; have HK := n1_; have HB := n2_; have HI0 := n3_; clear n0_ n1_ n2_ n3_; (try clear hb); (try clear hb2); (try clear hk); (try clear hi); have p138 : 0 ≤ (0 : Int) := (by omega); have q138 : (0 : Int) < ((x13_116.length : Int) : Int) := of_decide_eq_true pwb_; have qi138 : (0 < x13_116.length) = True := eq_true (by omega); obtain ⟨go138, co138, eo138, gb138, gl138, cl138, HG138⟩ := Kd.R_form HO_13.out (by omega); (first | cases eo138 | (injection eo138 with ea_ en_ ec_; (first | subst ea_ | (injection ea_ with ea_; subst ea_)); subst ec_; clear en_)); have GB138 := Aside0.mk gb138; have GG138 := Aside0.mk HG138; clear gb138 gl138 HG138; obtain ⟨ce138, hcl138, hM138, hcc138, hfr138⟩ := Kd.R_elem HO_13.out z62 (0 : Int) p138 q138; obtain rfl := k62_openM hM138; have hx138_0 : w141.cell? ⟨go138, (0 : Int).toNat * 2, none⟩ = some (.int .i64 ((rd_T62 x13_116 0).f0)) := hcc138 0 _ rfl; have hx138_1 : w141.cell? ⟨go138, (0 : Int).toNat * 2 + 1, none⟩ = some (.int .i64 ((rd_T62 x13_116 0).f1)) := hcc138 1 _ rfl; have hf138_0 : w141.frozen? ⟨go138, (0 : Int).toNat * 2, none⟩ = false := hfr138 0; have hf138_1 : w141.frozen? ⟨go138, (0 : Int).toNat * 2 + 1, none⟩ = false := hfr138 1; clear hcl138 hcc138 hfr138; (try clear hM138); skip; (try rw [show ((0 : Int)).toNat = 0 from rfl] at hx138_0); (try simp only [Nat.reduceMul, Nat.zero_mul, Nat.zero_add, Nat.reduceAdd] at hx138_0); (try rw [show ((0 : Int)).toNat = 0 from rfl] at hf138_0); (try simp only [Nat.reduceMul, Nat.zero_mul, Nat.zero_add, Nat.reduceAdd] at hf138_0); (try rw [show ((0 : Int)).toNat = 0 from rfl] at hx138_1); (try simp only [Nat.reduceMul, Nat.zero_mul, Nat.zero_add, Nat.reduceAdd] at hx138_1); (try rw [show ((0 : Int)).toNat = 0 from rfl] at hf138_1); (try simp only [Nat.reduceMul, Nat.zero_mul, Nat.zero_add, Nat.reduceAdd] at hf138_1); replace p138 := eq_true p138; replace q138 := eq_true q138; have HX142 := Aside0.mk (show Kd.R k62 62 w141 w.heap.size (fun _ => True) (.slice (some ⟨go138, 0, none⟩) x13_116.length co138) x13_116 from pwg_); obtain ⟨ce142, hcl142, hM142, hcc142, hfr142⟩ := Kd.R_elem HX142.out z62 (0 : Int) (by omega) (by have h_ : (0 : Int) < ((x13_116.length : Int) : Int) := of_decide_eq_true pwb_; first | exact h_ | (have e_ := (Kd.R_reads' HO_13.out).1; omega) | simpa using h_); obtain rfl := k62_openM hM142; have HP142 := Kd.R_seg HX142.out (0 : Int) (by omega) (by have h_ : (0 : Int) < ((x13_116.length : Int) : Int) := of_decide_eq_true pwb_; first | exact h_ | (have e_ := (Kd.R_reads' HO_13.out).1; omega) | simpa using h_) (seg := [.int .i64 t284, .int .i64 6]) (j := 0) hcl142 hcc142 (show 2 ≤ 2 from by decide) (x' := (⟨t284, 6⟩ : S62)) (k62_mkM _ _ _ (⟨t284, 6⟩ : S62) ) (fun _ hk => hk); have hx142_0 := hcc142 0 _ rfl; (try simp only [show (k62).sz = 2 from rfl, Nat.mul_one, Nat.add_zero] at hx142_0); (try rw [show ((0 : Int)).toNat = 0 from rfl] at hx142_0); (try simp only [Nat.reduceMul, Nat.zero_mul, Nat.zero_add, Nat.reduceAdd] at hx142_0); have hf142_0 := hfr142 0; (try simp only [show (k62).sz = 2 from rfl, Nat.mul_one, Nat.add_zero] at hf142_0); (try rw [show ((0 : Int)).toNat = 0 from rfl] at hf142_0); (try simp only [Nat.reduceMul, Nat.zero_mul, Nat.zero_add, Nat.reduceAdd] at hf142_0); have hx142_1 := hcc142 1 _ rfl; (try simp only [show (k62).sz = 2 from rfl, Nat.mul_one, Nat.add_zero] at hx142_1); (try rw [show ((0 : Int)).toNat = 0 from rfl] at hx142_1); (try simp only [Nat.reduceMul, Nat.zero_mul, Nat.zero_add, Nat.reduceAdd] at hx142_1); have hf142_1 := hfr142 1; (try simp only [show (k62).sz = 2 from rfl, Nat.mul_one, Nat.add_zero] at hf142_1); (try rw [show ((0 : Int)).toNat = 0 from rfl] at hf142_1); (try simp only [Nat.reduceMul, Nat.zero_mul, Nat.zero_add, Nat.reduceAdd] at hf142_1); clear hcl142 hcc142 hfr142; (try clear hM142); skip) | ((with_reducible refine gate_store (t := 62) (p := 126) rfl ?_); refine store_event (t := 62) (p := 126) (v := ?vo_w143) (w1 := ((w141.setCell ⟨go138, 0, none⟩ (.int .i64 t284)).setCell ⟨go138, 1, none⟩ (.int .i64 6))) ?hg ?ho ?hn ?hr ?_; (case ho => rfl); (case hg => rfl); (case hn => rfl); (case hr => first | (go_simp; done) | (go_simp; rfl)); intro w143 hw; have hg : w141.grownBy w143 (some go138) := (by rw [hw]; exact HP142.2); have hp_ : Kd.R k62 62 w143 w.heap.size (fun _ => True) (.slice (some ⟨go138, 0, none⟩) x13_116.length co138) y286 := (by rw [hw, Ny286.out]; exact HP142.1); clear HP142; have n0_ := Aside0.mk (hp_); have n1_ := Aside0.mk (IsS103.grown pwm_ hg (IsS103.own_ne HI0.out HO_13.out (by decide))); have n2_ := Aside0.mk ((by rw [hw]; exact below_set (below_set (HB.out) (Nat.le_trans HL.out GB138.out)) (Nat.le_trans HL.out GB138.out) : Below w0.heap.size w0 w143)); have n3_ := Aside0.mk (KeepBut.trans pwl_ (KeepBut.of_grown hg g) (Kd.R_base2 HO_13.out)); clear HO_13; clear HI0; clear HB; clear HK; have HO_13 := n0_; have HI0 := n1_; have HB := n2_; have HK := n3_; clear n0_ n1_ n2_ n3_; clear hg hw hp_))
              go_ret
              exact ⟨_, by first | rfl | (simp [errW_none, errW_some] <;> rfl) | (simp only [← hji4, ← hji5]; first | rfl | (simp [errW_none, errW_some] <;> rfl)) | (simp [*, errW_none, errW_some] <;> rfl), pwg_, pwm_, pwo_, pwl_⟩
             ·rw [if_neg c137] at H
              exact absurd H (by simp)
          ·replace c124 := Bool.eq_false_iff.mpr c124
           subst c124
           have H1 : (some (x13_116, t275)) = some (r1, r2) := by rw [if_neg (show ¬ (false = true) by decide)] at H; exact H
           clear H
           have H := H1
           clear H1
           simp only [Option.some.injEq, Prod.mk.injEq] at H
           obtain ⟨rfl, rfl⟩ := H
           go_wp2_with (first | ((with_reducible refine gate_callee (f := 88) rfl ?_); refine goesL_ (some 119) rfl rfl Try.func88 (by kernel_rfl) rfl #[.pointer (some ⟨g, 0, none⟩), .int .i64 a2] rfl pwk_ ?_; (with_reducible refine (spec_l20Rd_odd.calls kj116 g s0_0 t270 a2 false t275 w0 _ ?side1 ?side2 A123.out).mono ?_); (case side1 => repeat (first | (with_reducible first | exact HI0.out | apply IsS103.alloc | apply IsS103.drewN | apply IsS103.drew | apply IsS103.set_1) | exact HI0.out)); (case side2 => repeat (first | (with_reducible first | exact HB.out | apply below_alloc | apply pw_below_drewN | apply below_drew1 | refine below_set ?_ (IsS103.ge HI0.out)) | exact HB.out)); rintro e w144 ⟨rfl, hi, hb, hk⟩; refine ⟨_, rfl, ?_⟩; have n0_ := Aside0.mk (Kd.R_mono (Kd.R_keep (IsS103.apart (show IsS103 w0 _ g s0_0 t270 from by repeat (first | (with_reducible first | exact HI0.out | apply IsS103.alloc | apply IsS103.drewN | apply IsS103.drew | apply IsS103.set_1) | exact HI0.out)) pwg_ (by decide)) hk (fun _ h => h.2)) (fun _ h => h.1)); have n1_ := Aside0.mk (KeepBut.trans pwl_ hk (.inl rfl)); have n2_ := Aside0.mk (hb); have n3_ := Aside0.mk (hi); clear HO_13; clear HK; clear HB; clear HI0; have HO_13 := n0_; have HK := n1_; have HB := n2_; have HI0 := n3_; clear n0_ n1_ n2_ n3_; (try clear hb); (try clear hb2); (try clear hk); (try clear hi)))
           go_ret
           exact ⟨_, by first | rfl | (simp [errW_none, errW_some] <;> rfl) | (simp only [← hji4, ← hji5]; first | rfl | (simp [errW_none, errW_some] <;> rfl)) | (simp [*, errW_none, errW_some] <;> rfl), pwg_, pwm_, pwo_, pwl_⟩
       ·rw [if_neg c115] at H
        exact absurd H (by simp)

end Go.Proofs.Ytfhmafmfaoknlaa.PFnReadTerm
