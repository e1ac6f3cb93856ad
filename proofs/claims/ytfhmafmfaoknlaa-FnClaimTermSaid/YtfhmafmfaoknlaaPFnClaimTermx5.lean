-- Made by a program of this session (wip/tools/patchprint.py), not by the kit itself.
import Derived.Test.YtfhmafmfaoknlaaPFnClaimTermx0
import Derived.Test.YtfhmafmfaoknlaaPFnClaimTermx4
namespace Go.Proofs.Ytfhmafmfaoknlaa.PFnClaimTerm
open Go.RowKit Go.Proofs.YtfhmafmfaoknlaaW.PrintWords Go.Proofs.YtfhmafmfaoknlaaW.PrintLast Go.Proofs.YtfhmafmfaoknlaaW.PrintMore
attribute [local go_sem] max2_int min2_int max_two min_two max_three min_three max_four min_four   -- for this text's walks alone
set_option linter.unusedVariables false
set_option linter.unusedSimpArgs false

attribute [local go_sem] setCell_isSome
/-! ### spec_l20Term: function 61 -/
mutual
def spec_l20Term.l0 : Nat → Int → Int → List (List (S62)) → Int → List Int → Int → Option ((List (S62)) × Int)
 | 0, _, _, _, _, _, _ => none
 | k + 1, x1, x2, x7, x8, x1000, x1001 => if x8 > 0 then ((spec_l20Rd_pick.f k x1000 x1001 4).bind fun bt167 => (if bt167.1 = 0 then ((spec_l20Rd_pick.f k x1000 bt167.2 (wrap64 (x1 + 2))).bind fun bt169 => (if x7.length < 5864062014805 then (spec_l20Term.l0 k x1 x2 (x7 ++ [(([(⟨1, bt169.1⟩ : S62)] : List (S62)))]) (wrap64 (x8 - 1)) x1000 bt169.2) else (none))) else ((spec_l20Rd_pick.f k x1000 bt167.2 x1).bind fun bt177 => (if x7.length < 5864062014805 then (spec_l20Term.l0 k x1 x2 (x7 ++ [(([(⟨0, bt177.1⟩ : S62)] : List (S62)))]) (wrap64 (x8 - 1)) x1000 bt177.2) else (none))))) else (spec_l20Term.l1 k x2 x7 3 x1000 x1001)
def spec_l20Term.l1 : Nat → Int → List (List (S62)) → Int → List Int → Int → Option ((List (S62)) × Int)
 | 0, _, _, _, _, _ => none
 | k + 1, x2, x7, x9, x1000, x1001 => if (x7.length : Int) > 1 then ((spec_l20Rd_pick.f k x1000 x1001 (wrap64 ((x7.length : Int) - 1))).bind fun bt185 => (if x9 > 0 then ((spec_l20Rd_pick.f k x1000 bt185.2 4).bind fun bt187 => (if bt187.1 = 0 then ((some (([] : List (S62)) : List (S62))).bind fun y189 => (if 0 ≤ bt185.1 then (if bt185.1 < (x7.length : Int) then (if y189.length + (rd_L3 x7 bt185.1).length < 8796093022208 then ((some (y189 ++ (rd_L3 x7 bt185.1) : List (S62))).bind fun y193 => (if y193.length < 8796093022208 then (spec_l20Term.l1 k x2 (x7.set (bt185.1 : Int).toNat (y193 ++ [(⟨2, 0⟩ : S62)])) (wrap64 (x9 - 1)) x1000 bt187.2) else (none))) else (none)) else (none)) else (none))) else ((some (([] : List (S62)) : List (S62))).bind fun y200 => (if 0 ≤ bt185.1 then (if bt185.1 < (x7.length : Int) then (if y200.length + (rd_L3 x7 bt185.1).length < 8796093022208 then ((some (y200 ++ (rd_L3 x7 bt185.1) : List (S62))).bind fun y204 => (if 0 ≤ (wrap64 (bt185.1 + 1)) then (if (wrap64 (bt185.1 + 1)) < (x7.length : Int) then (if y204.length + (rd_L3 x7 (wrap64 (bt185.1 + 1))).length < 8796093022208 then ((some (y204 ++ (rd_L3 x7 (wrap64 (bt185.1 + 1))) : List (S62))).bind fun y208 => ((spec_l20Rd_pick.f k x1000 bt187.2 3).bind fun bt211 => (if y208.length < 8796093022208 then ((some (([] : List (List (S62))) : List (List (S62)))).bind fun y216 => (if bt185.1 ≤ (x7.length : Int) then ((some (x7.take (bt185.1 : Int).toNat : List (List (S62)))).bind fun y219 => (if y216.length + y219.length < 5864062014805 then ((some (y216 ++ y219 : List (List (S62)))).bind fun y223 => (if y223.length < 5864062014805 then ((some (y223 ++ [(y208 ++ [(⟨wrap64 (3 + bt211.1), 0⟩ : S62)])] : List (List (S62)))).bind fun y226 => (if 0 ≤ (wrap64 (bt185.1 + 2)) then (if (wrap64 (bt185.1 + 2)) ≤ (x7.length : Int) then ((some (x7.drop ((wrap64 (bt185.1 + 2)) : Int).toNat : List (List (S62)))).bind fun y229 => (if y226.length + y229.length < 5864062014805 then (spec_l20Term.l1 k x2 (y226 ++ y229) x9 x1000 bt211.2) else (none))) else (none)) else (none))) else (none))) else (none))) else (none))) else (none)))) else (none)) else (none)) else (none))) else (none)) else (none)) else (none))))) else ((some (([] : List (S62)) : List (S62))).bind fun y236 => (if 0 ≤ bt185.1 then (if bt185.1 < (x7.length : Int) then (if y236.length + (rd_L3 x7 bt185.1).length < 8796093022208 then ((some (y236 ++ (rd_L3 x7 bt185.1) : List (S62))).bind fun y240 => (if 0 ≤ (wrap64 (bt185.1 + 1)) then (if (wrap64 (bt185.1 + 1)) < (x7.length : Int) then (if y240.length + (rd_L3 x7 (wrap64 (bt185.1 + 1))).length < 8796093022208 then ((some (y240 ++ (rd_L3 x7 (wrap64 (bt185.1 + 1))) : List (S62))).bind fun y244 => ((spec_l20Rd_pick.f k x1000 bt185.2 3).bind fun bt247 => (if y244.length < 8796093022208 then ((some (([] : List (List (S62))) : List (List (S62)))).bind fun y252 => (if bt185.1 ≤ (x7.length : Int) then ((some (x7.take (bt185.1 : Int).toNat : List (List (S62)))).bind fun y255 => (if y252.length + y255.length < 5864062014805 then ((some (y252 ++ y255 : List (List (S62)))).bind fun y259 => (if y259.length < 5864062014805 then ((some (y259 ++ [(y244 ++ [(⟨wrap64 (3 + bt247.1), 0⟩ : S62)])] : List (List (S62)))).bind fun y262 => (if 0 ≤ (wrap64 (bt185.1 + 2)) then (if (wrap64 (bt185.1 + 2)) ≤ (x7.length : Int) then ((some (x7.drop ((wrap64 (bt185.1 + 2)) : Int).toNat : List (List (S62)))).bind fun y265 => (if y262.length + y265.length < 5864062014805 then (spec_l20Term.l1 k x2 (y262 ++ y265) x9 x1000 bt247.2) else (none))) else (none)) else (none))) else (none))) else (none))) else (none))) else (none)))) else (none)) else (none)) else (none))) else (none)) else (none)) else (none))))) else (if 0 < (x7.length : Int) then ((spec_l20Rd_pick.f k x1000 x1001 5).bind fun bt273 => (if bt273.1 = 0 then (if (rd_L3 x7 0).length < 8796093022208 then (spec_l20Term.j2 k x2 ((rd_L3 x7 0) ++ [(⟨2, 0⟩ : S62)]) x1000 bt273.2) else (none)) else (spec_l20Term.j2 k x2 (rd_L3 x7 0) x1000 bt273.2))) else (none))
def spec_l20Term.j2 : Nat → Int → List (S62) → List Int → Int → Option ((List (S62)) × Int)
 | 0, _, _, _, _ => none
 | k + 1, x2, x13, x1000, x1001 => (spec_l20Rd_odd.f k x1000 x1001 x2).bind fun bt278 => (if bt278.1 = true then ((spec_l20Rd_pick.f k x1000 bt278.2 3).bind fun bt280 => (if bt280.1 = 0 then (some ((([] : List (S62))), bt280.2)) else (if bt280.1 = 1 then (if x13.length < 8796093022208 then (some ((x13 ++ [(⟨5, 0⟩ : S62)]), bt280.2)) else (none)) else ((spec_l20Rd_pick.f k x1000 bt280.2 2).bind fun bt288 => (if 0 < (x13.length : Int) then (some ((x13.set (0 : Int).toNat (⟨bt288.1, 6⟩ : S62)), bt288.2)) else (none)))))) else (some (x13, bt278.2)))
end
def spec_l20Term.f (k : Nat) (s0_0 : List Int) (s0_1 : Int) (a1 : Int) (a2 : Int) : Option ((List (S62)) × Int) := (spec_l20Rd_pick.f k s0_0 s0_1 4).bind fun bt165 => (spec_l20Term.l0 k (mn (mx a1 1) 4) a2 (([] : List (List (S62)))) (wrap64 (1 + bt165.1)) s0_0 bt165.2)
theorem spec_l20Term.mono_l : ∀ k, (∀ y0 y1 y2 y3 y4 y5, LeO (spec_l20Term.l0 k y0 y1 y2 y3 y4 y5) (spec_l20Term.l0 (k + 1) y0 y1 y2 y3 y4 y5)) ∧ (∀ y0 y1 y2 y3 y4, LeO (spec_l20Term.l1 k y0 y1 y2 y3 y4) (spec_l20Term.l1 (k + 1) y0 y1 y2 y3 y4)) ∧ (∀ y0 y1 y2 y3, LeO (spec_l20Term.j2 k y0 y1 y2 y3) (spec_l20Term.j2 (k + 1) y0 y1 y2 y3))
 | 0 => ⟨fun _ _ _ _ _ _ r h => by simp [spec_l20Term.l0] at h, fun _ _ _ _ _ r h => by simp [spec_l20Term.l1] at h, fun _ _ _ _ r h => by simp [spec_l20Term.j2] at h⟩
 | k + 1 => by
  obtain ⟨ih0, ih1, ih2⟩ := spec_l20Term.mono_l k
  refine ⟨?_, ?_, ?_⟩
  ·intro y0 y1 y2 y3 y4 y5
   unfold spec_l20Term.l0
   repeat' first
   | (with_reducible exact ih0 _ _ _ _ _ _)
   | (with_reducible exact ih1 _ _ _ _ _)
   | (with_reducible exact ih2 _ _ _ _)
   | (with_reducible exact spec_l20Rd_odd.mono _ _ _ _)
   | (with_reducible exact spec_l20Rd_pick.mono _ _ _ _)
   | (with_reducible exact LeO.refl _)
   | (with_reducible exact LeO.none _)
   | (with_reducible refine LeO.ite ?_ ?_)
   | (with_reducible refine LeO.bind ?_ (fun _ => ?_))
   | exact ih0 _ _ _ _ _ _
   | exact ih1 _ _ _ _ _
   | exact ih2 _ _ _ _
   | exact spec_l20Rd_odd.mono _ _ _ _
   | exact spec_l20Rd_pick.mono _ _ _ _
   | exact LeO.none _
   | refine LeO.ite ?_ ?_
   | refine LeO.bind ?_ (fun _ => ?_)
  ·intro y0 y1 y2 y3 y4
   unfold spec_l20Term.l1
   repeat' first
   | (with_reducible exact ih0 _ _ _ _ _ _)
   | (with_reducible exact ih1 _ _ _ _ _)
   | (with_reducible exact ih2 _ _ _ _)
   | (with_reducible exact spec_l20Rd_odd.mono _ _ _ _)
   | (with_reducible exact spec_l20Rd_pick.mono _ _ _ _)
   | (with_reducible exact LeO.refl _)
   | (with_reducible exact LeO.none _)
   | (with_reducible refine LeO.ite ?_ ?_)
   | (with_reducible refine LeO.bind ?_ (fun _ => ?_))
   | exact ih0 _ _ _ _ _ _
   | exact ih1 _ _ _ _ _
   | exact ih2 _ _ _ _
   | exact spec_l20Rd_odd.mono _ _ _ _
   | exact spec_l20Rd_pick.mono _ _ _ _
   | exact LeO.none _
   | refine LeO.ite ?_ ?_
   | refine LeO.bind ?_ (fun _ => ?_)
  ·intro y0 y1 y2 y3
   unfold spec_l20Term.j2
   repeat' first
   | (with_reducible exact ih0 _ _ _ _ _ _)
   | (with_reducible exact ih1 _ _ _ _ _)
   | (with_reducible exact ih2 _ _ _ _)
   | (with_reducible exact spec_l20Rd_odd.mono _ _ _ _)
   | (with_reducible exact spec_l20Rd_pick.mono _ _ _ _)
   | (with_reducible exact LeO.refl _)
   | (with_reducible exact LeO.none _)
   | (with_reducible refine LeO.ite ?_ ?_)
   | (with_reducible refine LeO.bind ?_ (fun _ => ?_))
   | exact ih0 _ _ _ _ _ _
   | exact ih1 _ _ _ _ _
   | exact ih2 _ _ _ _
   | exact spec_l20Rd_odd.mono _ _ _ _
   | exact spec_l20Rd_pick.mono _ _ _ _
   | exact LeO.none _
   | refine LeO.ite ?_ ?_
   | refine LeO.bind ?_ (fun _ => ?_)
theorem spec_l20Term.mono : ∀ a0 a1 a2 a3 k, LeO (spec_l20Term.f k a0 a1 a2 a3) (spec_l20Term.f (k + 1) a0 a1 a2 a3) := by
 intro a0 a1 a2 a3 k
 obtain ⟨ih0, ih1, ih2⟩ := spec_l20Term.mono_l k
 unfold spec_l20Term.f
 repeat' first
   | (with_reducible exact ih0 _ _ _ _ _ _)
   | (with_reducible exact ih1 _ _ _ _ _)
   | (with_reducible exact ih2 _ _ _ _)
   | (with_reducible exact spec_l20Rd_odd.mono _ _ _ _)
   | (with_reducible exact spec_l20Rd_pick.mono _ _ _ _)
   | (with_reducible exact LeO.refl _)
   | (with_reducible exact LeO.none _)
   | (with_reducible refine LeO.ite ?_ ?_)
   | (with_reducible refine LeO.bind ?_ (fun _ => ?_))
   | exact ih0 _ _ _ _ _ _
   | exact ih1 _ _ _ _ _
   | exact ih2 _ _ _ _
   | exact spec_l20Rd_odd.mono _ _ _ _
   | exact spec_l20Rd_pick.mono _ _ _ _
   | exact LeO.none _
   | refine LeO.ite ?_ ?_
   | refine LeO.bind ?_ (fun _ => ?_)
def spec_l20Term.T15 : Bool × List (List Nat × List Nat) := (true, [([], []), ([], []), ([], []), ([1, 2], [1, 2]), ([3], [3]), ([0, 4], [0, 4]), ([], []), ([], []), ([7], [7]), ([6, 8], [6, 8]), ([9], [9]), ([5, 10, 5], [5, 10]), ([], []), ([12, 11], [12]), ([13], [13]), ([14], [14]), ([15], [15]), ([11, 16, 13], [11, 16]), ([17, 17, 0, 1, 2, 3, 4, 5, 6, 7, 8, 9, 10, 11, 12, 13, 14, 15, 16, 17], [17])])
def spec_l20Term.B15 : List Nat := [0, 0, 0, 6, 14, 31, 0, 0, 128, 448, 960, 2047, 0, 8191, 16383, 32767, 65535, 131071, 262143]
theorem spec_l20Term.tab15 : rtab .any (opsOf Try.f61 15) = spec_l20Term.T15 := by kernel_rfl
theorem spec_l20Term.bits15 : waitsOk spec_l20Term.T15.2 spec_l20Term.B15 = true := by kernel_rfl
set_option maxHeartbeats 8000000 in
set_option maxRecDepth 100000 in
theorem spec_l20Term.calls (k : Nat) (g : Nat) (s0_0 : List Int) (s0_1 : Int) (a1 : Int) (a2 : Int) (r1 : List (S62)) (r2 : Int) (w0 w : World) (hI : IsS103 w0 w g s0_0 s0_1) (hB : Below w0.heap.size w0 w) (h : spec_l20Term.f k s0_0 s0_1 a1 a2 = some (r1, r2)) :
  Calls Try.prog 61 #[.pointer (some ⟨g, 0, none⟩), .int .i64 a1, .int .i64 a2] w fun e w' => ∃ v0_ : Value, e = .returned (v0_) ∧ Kd.R k62 62 w' w.heap.size (fun _ => True) v0_ r1 ∧ IsS103 w0 w' g s0_0 r2 ∧ Below w0.heap.size w0 w' ∧ KeepBut w w' g none := by
 have hu62 := Try.underlying62
 have HI0 := Aside0.mk hI
 have HK := Aside0.mk (KeepBut.refl w g none)
 have HL := Aside0.mk hB.size
 clear hI
 have HW0 := Aside0.mk hB.size
 have HB := Aside0.mk hB
 clear hB
 have H : ((spec_l20Rd_pick.f k s0_0 s0_1 4).bind fun bt165 => (spec_l20Term.l0 k (mn (mx a1 1) 4) a2 (([] : List (List (S62)))) (wrap64 (1 + bt165.1)) s0_0 bt165.2)) = some (r1, r2) := h
 clear h
 obtain ⟨ji4, hji4⟩ : ∃ j_ : Int, (mx a1 1) = j_ := ⟨_, rfl⟩
 replace H : ((spec_l20Rd_pick.f k s0_0 s0_1 4).bind fun bt165 => (spec_l20Term.l0 k (mn (ji4) 4) a2 (([] : List (List (S62)))) (wrap64 (1 + bt165.1)) s0_0 bt165.2)) = some (r1, r2) := by first | (rw [hji4] at H; exact H) | (simp only [hji4] at H ⊢; exact H)
 (try (have hji4l : 1 ≤ ji4 := by (rw [← hji4]; unfold mx; (repeat' split) <;> omega)))
 (try (have hji4m : 0 ≤ ji4 := by omega))
 have hji4_ : (if a1 < 1 then 1 else a1) = ji4 := hji4
 obtain ⟨ji5, hji5⟩ : ∃ j_ : Int, (mn (ji4) 4) = j_ := ⟨_, rfl⟩
 replace H : ((spec_l20Rd_pick.f k s0_0 s0_1 4).bind fun bt165 => (spec_l20Term.l0 k ji5 a2 (([] : List (List (S62)))) (wrap64 (1 + bt165.1)) s0_0 bt165.2)) = some (r1, r2) := by first | (rw [hji5] at H; exact H) | (simp only [hji5] at H ⊢; exact H)
 have hji5_ : (if 4 < (ji4) then 4 else (ji4)) = ji5 := hji5
 obtain ⟨y162, hy162⟩ : ∃ y_ : List (List (S62)), y_ = (([] : List (List (S62)))) := ⟨_, rfl⟩
 replace H : ((spec_l20Rd_pick.f k s0_0 s0_1 4).bind fun bt165 => (spec_l20Term.l0 k ji5 a2 y162 (wrap64 (1 + bt165.1)) s0_0 bt165.2)) = some (r1, r2) := by first | (rw [hy162]; with_reducible exact H) | (have H2_ := (Option.bind_some _ _).symm.trans H; rw [hy162]; with_reducible exact H2_) | (have H2_ := (Option.bind_some _ _).symm.trans H; with_reducible exact H2_) | with_reducible exact H | (rw [hy162]; exact H) | exact H
 have Ny162 := Aside0.mk hy162
 clear hy162
 replace H := Option.bind_eq_some_iff.mp H
 obtain ⟨⟨t165, t166⟩, A60, H⟩ := H
 replace H : (spec_l20Term.l0 k ji5 a2 y162 (wrap64 (1 + t165)) s0_0 t166) = some (r1, r2) := H
 have A6 := Aside0.mk A60
 clear A60
 have H' := Aside0.mk H
 clear H
 go_enter Try.func61, Try.ntmps61
 go_wp2_with (first | ((with_reducible refine gate_dst (N := 17) rfl ?_); refine Kd.R_lit (Kd.slice 62 k62) _ 25 ?hg (N := 17) ?hd (xs := ([] : List (List (S62)))) (inner := []) (ok := fun _ => True) (okp := fun _ => True) ?hr ?hp (fun _ hk => hk) trivial (Below.refl _ _) (Nat.le_refl _) (by simp) ?_; (case hd => rfl); (case hg => rfl); (case hr => first | (go_simp; done) | (go_simp; rfl)); (case hp => exact (Reps.none _ _)); intro v163 w7 ho8 hb hg_ hnew_; clear hg_ hnew_; (first | rw [← Ny162.out] at ho8 | (simp only [Int.reduceToNat] at ho8; rw [← Ny162.out] at ho8)); have n0_ := Aside0.mk (Kd.R_lower ho8 (keep_size (w := w) (g := g) (row := none) pwj_)); have n1_ := Aside0.mk (IsS103.below pwk_ hb); have n2_ := Aside0.mk (KeepBut.trans pwj_ (KeepBut.of_below hb g none) (.inl rfl)); have n3_ := Aside0.mk (below_step pwm_ hb); clear HI0; clear HK; clear HB; have HO164 := n0_; have HI0 := n1_; have HK := n2_; have HB := n3_; clear n0_ n1_ n2_ n3_; clear hb ho8) | ((with_reducible refine gate_callee (f := 60) rfl ?_); refine goesL_ (some 19) rfl rfl Try.func60 (by kernel_rfl) rfl #[.pointer (some ⟨g, 0, none⟩), .int .i64 4] rfl pwi_ ?_; (with_reducible refine (spec_l20Rd_pick.calls k g s0_0 s0_1 4 t165 t166 w0 _ ?side1 ?side2 A6.out).mono ?_); (case side1 => repeat (first | (with_reducible first | exact HI0.out | apply IsS103.alloc | apply IsS103.drewN | apply IsS103.drew | apply IsS103.set_1) | exact HI0.out)); (case side2 => repeat (first | (with_reducible first | exact HB.out | apply below_alloc | apply pw_below_drewN | apply below_drew1 | refine below_set ?_ (IsS103.ge HI0.out)) | exact HB.out)); rintro e w9 ⟨rfl, hi, hb, hk⟩; refine ⟨_, rfl, ?_⟩; have n0_ := Aside0.mk (Kd.R_mono (Kd.R_keep (IsS103.apart (show IsS103 w0 _ g s0_0 s0_1 from by repeat (first | (with_reducible first | exact HI0.out | apply IsS103.alloc | apply IsS103.drewN | apply IsS103.drew | apply IsS103.set_1) | exact HI0.out)) (by (with_reducible repeat apply Kd.R_alloc); exact HO164.out) (by decide)) hk (fun _ h => h.2)) (fun _ h => h.1)); have n1_ := Aside0.mk (KeepBut.trans pwj_ hk (.inl rfl)); have n2_ := Aside0.mk (hb); have n3_ := Aside0.mk (hi); clear HO164; clear HK; clear HB; clear HI0; have HO164 := n0_; have HK := n1_; have HB := n2_; have HI0 := n3_; clear n0_ n1_ n2_ n3_; (try clear hb); (try clear hb2); (try clear hk); (try clear hi)))
 go_loopg [7, 8] k (fun kq v7 v8 w' => ∃ (x7_1 : List (List (S62))) (x8_1 : Int) (x1001_1 : Int), v8 = .int .i64 x8_1 ∧ Aside0 (spec_l20Term.l0 kq ji5 a2 x7_1 x8_1 s0_0 x1001_1 = some (r1, r2)) ∧ Aside0 (kq ≤ k) ∧ Aside0 (Kd.R (Kd.slice 62 k62) 25 w' w.heap.size (fun _ => True) v7 x7_1) ∧ Aside0 (IsS103 w0 w' g s0_0 x1001_1) ∧ Aside0 (KeepBut w w' g none) ∧ Aside0 (Below w0.heap.size w0 w'))
 case atStart => exact ⟨(y162), (wrap64 (1 + t165)), (t166), pwa_, H', ⟨Nat.le_refl _⟩, ⟨by (with_reducible repeat apply Kd.R_alloc); exact HO164.out⟩, ⟨pwk_⟩, ⟨pwj_⟩, ⟨pwm_⟩⟩
 case round =>
  clear H'
  try clear p2
  try clear c6
  try clear p6
  obtain ⟨x7_1, x8_1, x1001_1, rfl, HA, HK1, HO_7, HI0, HK, HB⟩ := hrel
  cases gk with
  | zero => exact absurd HA.out (by simp [spec_l20Term.l0])
  | succ k1 =>
   have H := HA.out
   clear HA
   simp only [spec_l20Term.l0] at H
   by_cases c10 : x8_1 > 0
   ·rw [if_pos c10] at H
    have c10b0 : decide (0 < x8_1) = true := decide_eq_true c10
    clear c10
    replace H := Option.bind_eq_some_iff.mp H
    obtain ⟨⟨t167, t168⟩, A110, H⟩ := H
    replace H : (if t167 = 0 then ((spec_l20Rd_pick.f k1 s0_0 t168 (wrap64 (ji5 + 2))).bind fun bt169 => (if x7_1.length < 5864062014805 then (spec_l20Term.l0 k1 ji5 a2 (x7_1 ++ [(([(⟨1, bt169.1⟩ : S62)] : List (S62)))]) (wrap64 (x8_1 - 1)) s0_0 bt169.2) else (none))) else ((spec_l20Rd_pick.f k1 s0_0 t168 ji5).bind fun bt177 => (if x7_1.length < 5864062014805 then (spec_l20Term.l0 k1 ji5 a2 (x7_1 ++ [(([(⟨0, bt177.1⟩ : S62)] : List (S62)))]) (wrap64 (x8_1 - 1)) s0_0 bt177.2) else (none)))) = some (r1, r2) := H
    have A11 := Aside0.mk A110
    clear A110
    by_cases c12 : t167 = 0
    ·rw [if_pos c12] at H
     have c12b0 : (t167 == 0) = true := beq_iff_eq.mpr c12
     have c12b1 : (t167 != 0) = false := bne_eq_false_iff_eq.mpr c12
     clear c12
     replace H := Option.bind_eq_some_iff.mp H
     obtain ⟨⟨t169, t170⟩, A130, H⟩ := H
     replace H : (if x7_1.length < 5864062014805 then (spec_l20Term.l0 k1 ji5 a2 (x7_1 ++ [(([(⟨1, t169⟩ : S62)] : List (S62)))]) (wrap64 (x8_1 - 1)) s0_0 t170) else (none)) = some (r1, r2) := H
     have A13 := Aside0.mk A130
     clear A130
     obtain ⟨y171, hy171⟩ : ∃ y_ : List (S62), y_ = (([(⟨1, t169⟩ : S62)] : List (S62))) := ⟨_, rfl⟩
     replace H : (if x7_1.length < 5864062014805 then (spec_l20Term.l0 k1 ji5 a2 (x7_1 ++ [y171]) (wrap64 (x8_1 - 1)) s0_0 t170) else (none)) = some (r1, r2) := by first | (rw [hy171]; with_reducible exact H) | (have H2_ := (Option.bind_some _ _).symm.trans H; rw [hy171]; with_reducible exact H2_) | (have H2_ := (Option.bind_some _ _).symm.trans H; with_reducible exact H2_) | with_reducible exact H | (rw [hy171]; exact H) | exact H
     have Ny171 := Aside0.mk hy171
     clear hy171
     by_cases c14 : x7_1.length < 5864062014805
     ·rw [if_pos c14] at H
      have LMc14 := Aside0.mk c14
      clear c14
      obtain ⟨y174, hy174⟩ : ∃ y_ : List (List (S62)), y_ = (x7_1 ++ [y171]) := ⟨_, rfl⟩
      replace H : (spec_l20Term.l0 k1 ji5 a2 y174 (wrap64 (x8_1 - 1)) s0_0 t170) = some (r1, r2) := by first | (rw [hy174]; with_reducible exact H) | (have H2_ := (Option.bind_some _ _).symm.trans H; rw [hy174]; with_reducible exact H2_) | (have H2_ := (Option.bind_some _ _).symm.trans H; with_reducible exact H2_) | with_reducible exact H | (rw [hy174]; exact H) | exact H
      have Ny174 := Aside0.mk hy174
      clear hy174
      have H' := Aside0.mk H
      clear H
      go_wp2_with (first | ((with_reducible refine gate_callee (f := 60) rfl ?_); refine goesL_ (some 26) rfl rfl Try.func60 (by kernel_rfl) rfl #[.pointer (some ⟨g, 0, none⟩), .int .i64 4] rfl pwi_ ?_; (with_reducible refine (spec_l20Rd_pick.calls k1 g s0_0 x1001_1 4 t167 t168 w0 _ ?side1 ?side2 A11.out).mono ?_); (case side1 => repeat (first | (with_reducible first | exact HI0.out | apply IsS103.alloc | apply IsS103.drewN | apply IsS103.drew | apply IsS103.set_1) | exact HI0.out)); (case side2 => repeat (first | (with_reducible first | exact HB.out | apply below_alloc | apply pw_below_drewN | apply below_drew1 | refine below_set ?_ (IsS103.ge HI0.out)) | exact HB.out)); rintro e w15 ⟨rfl, hi, hb, hk⟩; refine ⟨_, rfl, ?_⟩; have n0_ := Aside0.mk (Kd.R_mono (Kd.R_keep (IsS103.apart (show IsS103 w0 _ g s0_0 x1001_1 from by repeat (first | (with_reducible first | exact HI0.out | apply IsS103.alloc | apply IsS103.drewN | apply IsS103.drew | apply IsS103.set_1) | exact HI0.out)) pwd_ (by decide)) hk (fun _ h => h.2)) (fun _ h => h.1)); have n1_ := Aside0.mk (KeepBut.trans pwj_ hk (.inl rfl)); have n2_ := Aside0.mk (hb); have n3_ := Aside0.mk (hi); clear HO_7; clear HK; clear HB; clear HI0; have HO_7 := n0_; have HK := n1_; have HB := n2_; have HI0 := n3_; clear n0_ n1_ n2_ n3_; (try clear hb); (try clear hb2); (try clear hk); (try clear hi)) | ((with_reducible refine gate_callee (f := 60) rfl ?_); refine goesL_ (some 32) rfl rfl Try.func60 (by kernel_rfl) rfl #[.pointer (some ⟨g, 0, none⟩), .int .i64 (wrap64 (ji5 + 2))] rfl (by (try simp only [List.map_toArray, List.map_cons, List.map_nil]); first | done | (simp only [show wrap64 (ji5 + 2) = ji5 + 2 from (by have h4_ := hji5_; unfold wrap64; split at h4_ <;> omega)]; rfl) | (simp only [hji5]; rfl) | rfl | (simp only [List.length_drop, List.length_take]; rfl)) ?_; (with_reducible refine (spec_l20Rd_pick.calls k1 g s0_0 t168 (wrap64 (ji5 + 2)) t169 t170 w0 _ ?side1 ?side2 A13.out).mono ?_); (case side1 => repeat (first | (with_reducible first | exact HI0.out | apply IsS103.alloc | apply IsS103.drewN | apply IsS103.drew | apply IsS103.set_1) | exact HI0.out)); (case side2 => repeat (first | (with_reducible first | exact HB.out | apply below_alloc | apply pw_below_drewN | apply below_drew1 | refine below_set ?_ (IsS103.ge HI0.out)) | exact HB.out)); rintro e w16 ⟨rfl, hi, hb, hk⟩; refine ⟨_, rfl, ?_⟩; have n0_ := Aside0.mk (Kd.R_mono (Kd.R_keep (IsS103.apart (show IsS103 w0 _ g s0_0 t168 from by repeat (first | (with_reducible first | exact HI0.out | apply IsS103.alloc | apply IsS103.drewN | apply IsS103.drew | apply IsS103.set_1) | exact HI0.out)) pwd_ (by decide)) hk (fun _ h => h.2)) (fun _ h => h.1)); have n1_ := Aside0.mk (KeepBut.trans pwj_ hk (.inl rfl)); have n2_ := Aside0.mk (hb); have n3_ := Aside0.mk (hi); clear HO_7; clear HK; clear HB; clear HI0; have HO_7 := n0_; have HK := n1_; have HB := n2_; have HI0 := n3_; clear n0_ n1_ n2_ n3_; (try clear hb); (try clear hb2); (try clear hk); (try clear hi)) | ((with_reducible refine gate_dst (N := 34) rfl ?_); refine Kd.R_lit k62 _ 62 ?hg (N := 34) ?hd (xs := ([(⟨1, t169⟩ : S62)] : List (S62))) (inner := [.int .i64 1, .int .i64 t169]) (ok := fun _ => True) (okp := fun _ => True) ?hr ?hp (fun _ hk => hk) trivial (Below.refl _ _) (Nat.le_refl _) (by simp) ?_; (case hd => rfl); (case hg => rfl); (case hr => first | (go_simp; done) | (go_simp; rfl)); (case hp => exact (Reps.c2 (show Kd.M k62 _ _ _ (⟨1, t169⟩ : S62) [.int .i64 1, .int .i64 t169] from (k62_mkM _ _ _ (⟨1, t169⟩ : S62) )) (Reps.none _ _))); intro v172 w17 ho18 hb hg_ hnew_; clear hg_ hnew_; (first | rw [← Ny171.out] at ho18 | (simp only [Int.reduceToNat] at ho18; rw [← Ny171.out] at ho18)); have n0_ := Aside0.mk (Kd.R_elder' pwd_ (Kd.R_base ho18) hb); have n1_ := Aside0.mk (Kd.R_lower ho18 (keep_size (w := w) (g := g) (row := none) pwj_)); have n2_ := Aside0.mk (IsS103.below pwk_ hb); have n3_ := Aside0.mk (KeepBut.trans pwj_ (KeepBut.of_below hb g none) (.inl rfl)); have n4_ := Aside0.mk (below_step pwm_ hb); clear HO_7; clear HI0; clear HK; clear HB; have HO_7 := n0_; have HO173 := n1_; have HI0 := n2_; have HK := n3_; have HB := n4_; clear n0_ n1_ n2_ n3_ n4_; clear hb ho18; obtain ⟨Ao20, co20, eo20⟩ := Kd.R_slice HO173.out; subst eo20) | ((with_reducible refine gate_builtin (b := .append) (xs := #[.tmp 28, .tmp 35]) rfl ?_); at_builtin; refine Kd.R_append (Kd.slice 62 k62) w.heap.size rfl (.tmp 28) (.tmp 35) 104 25 (.slice none 0 0) 24 rfl Try.underlying104 info25 rfl (by decide) (by omega) u7 x7_1 y171 [.slice Ao20 y171.length co20] (fun _ => True) (fun k_ => ((fun _ => True)) k_ ∧ some k_ ≠ (u7 : Value).ownBlock) rfl rfl ?aP (fun _ hk => hk) ?aF ?aO (Below.refl _ _) ?aS ?aL ?_; (case aP => exact Kd.M_row (Kd.R_mono (Kd.R_apart' (HO173.out) (Kd.R_typed HO_7.out) (by decide)) (fun k_ hk => ⟨trivial, hk.2⟩))); (case aF => exact (fun _ _ => trivial)); (case aO => exact (by (with_reducible repeat apply Kd.R_alloc); exact Kd.R_mono HO_7.out (fun _ hk => trivial))); (case aS => exact (keep_size (w := w) (g := g) (row := none) pwj_)); (case aL => have := LMc14.out; omega); intro v175 w19 ho hb hg hat; rw [← Ny174.out] at ho; have n0_ := Aside0.mk (IsS103.grown pwk_ hg (IsS103.own_ne HI0.out HO_7.out (by decide))); have n1_ := Aside0.mk (below_weaken pwm_ HL.out hb); have n2_ := Aside0.mk (KeepBut.trans pwj_ (KeepBut.of_grown hg g) (Kd.R_base2 HO_7.out)); have n3_ := Aside0.mk (ho); clear HI0; clear HB; clear HK; clear HO_7; clear HO173; have HI0 := n0_; have HB := n1_; have HK := n2_; have HO176 := n3_; clear n0_ n1_ n2_ n3_; clear ho hb hg hat))
      go_roundg k1
      case measure => have := HK1.out; omega
      case rel => exact ⟨(y174), (wrap64 (x8_1 - 1)), (t170), pwa_, H', ⟨by have := HK1.out; omega⟩, ⟨by (with_reducible repeat apply Kd.R_alloc); exact HO176.out⟩, ⟨pwk_⟩, ⟨pwj_⟩, ⟨pwm_⟩⟩
     ·rw [if_neg c14] at H
      exact absurd H (by simp)
    ·rw [if_neg c12] at H
     have c12b0 : (t167 == 0) = false := beq_eq_false_iff_ne.mpr c12
     have c12b1 : (t167 != 0) = true := bne_iff_ne.mpr c12
     replace H := Option.bind_eq_some_iff.mp H
     obtain ⟨⟨t177, t178⟩, A210, H⟩ := H
     replace H : (if x7_1.length < 5864062014805 then (spec_l20Term.l0 k1 ji5 a2 (x7_1 ++ [(([(⟨0, t177⟩ : S62)] : List (S62)))]) (wrap64 (x8_1 - 1)) s0_0 t178) else (none)) = some (r1, r2) := H
     have A21 := Aside0.mk A210
     clear A210
     obtain ⟨y179, hy179⟩ : ∃ y_ : List (S62), y_ = (([(⟨0, t177⟩ : S62)] : List (S62))) := ⟨_, rfl⟩
     replace H : (if x7_1.length < 5864062014805 then (spec_l20Term.l0 k1 ji5 a2 (x7_1 ++ [y179]) (wrap64 (x8_1 - 1)) s0_0 t178) else (none)) = some (r1, r2) := by first | (rw [hy179]; with_reducible exact H) | (have H2_ := (Option.bind_some _ _).symm.trans H; rw [hy179]; with_reducible exact H2_) | (have H2_ := (Option.bind_some _ _).symm.trans H; with_reducible exact H2_) | with_reducible exact H | (rw [hy179]; exact H) | exact H
     have Ny179 := Aside0.mk hy179
     clear hy179
     by_cases c22 : x7_1.length < 5864062014805
     ·rw [if_pos c22] at H
      have LMc22 := Aside0.mk c22
      clear c22
      obtain ⟨y182, hy182⟩ : ∃ y_ : List (List (S62)), y_ = (x7_1 ++ [y179]) := ⟨_, rfl⟩
      replace H : (spec_l20Term.l0 k1 ji5 a2 y182 (wrap64 (x8_1 - 1)) s0_0 t178) = some (r1, r2) := by first | (rw [hy182]; with_reducible exact H) | (have H2_ := (Option.bind_some _ _).symm.trans H; rw [hy182]; with_reducible exact H2_) | (have H2_ := (Option.bind_some _ _).symm.trans H; with_reducible exact H2_) | with_reducible exact H | (rw [hy182]; exact H) | exact H
      have Ny182 := Aside0.mk hy182
      clear hy182
      have H' := Aside0.mk H
      clear H
      go_wp2_with (first | ((with_reducible refine gate_callee (f := 60) rfl ?_); refine goesL_ (some 26) rfl rfl Try.func60 (by kernel_rfl) rfl #[.pointer (some ⟨g, 0, none⟩), .int .i64 4] rfl pwi_ ?_; (with_reducible refine (spec_l20Rd_pick.calls k1 g s0_0 x1001_1 4 t167 t168 w0 _ ?side1 ?side2 A11.out).mono ?_); (case side1 => repeat (first | (with_reducible first | exact HI0.out | apply IsS103.alloc | apply IsS103.drewN | apply IsS103.drew | apply IsS103.set_1) | exact HI0.out)); (case side2 => repeat (first | (with_reducible first | exact HB.out | apply below_alloc | apply pw_below_drewN | apply below_drew1 | refine below_set ?_ (IsS103.ge HI0.out)) | exact HB.out)); rintro e w23 ⟨rfl, hi, hb, hk⟩; refine ⟨_, rfl, ?_⟩; have n0_ := Aside0.mk (Kd.R_mono (Kd.R_keep (IsS103.apart (show IsS103 w0 _ g s0_0 x1001_1 from by repeat (first | (with_reducible first | exact HI0.out | apply IsS103.alloc | apply IsS103.drewN | apply IsS103.drew | apply IsS103.set_1) | exact HI0.out)) pwd_ (by decide)) hk (fun _ h => h.2)) (fun _ h => h.1)); have n1_ := Aside0.mk (KeepBut.trans pwj_ hk (.inl rfl)); have n2_ := Aside0.mk (hb); have n3_ := Aside0.mk (hi); clear HO_7; clear HK; clear HB; clear HI0; have HO_7 := n0_; have HK := n1_; have HB := n2_; have HI0 := n3_; clear n0_ n1_ n2_ n3_; (try clear hb); (try clear hb2); (try clear hk); (try clear hi)) | ((with_reducible refine gate_callee (f := 60) rfl ?_); refine goesL_ (some 40) rfl rfl Try.func60 (by kernel_rfl) rfl #[.pointer (some ⟨g, 0, none⟩), .int .i64 ji5] rfl (by (try simp only [List.map_toArray, List.map_cons, List.map_nil]); first | done | (simp only [hji5]; rfl) | rfl | (simp only [List.length_drop, List.length_take]; rfl)) ?_; (with_reducible refine (spec_l20Rd_pick.calls k1 g s0_0 t168 ji5 t177 t178 w0 _ ?side1 ?side2 A21.out).mono ?_); (case side1 => repeat (first | (with_reducible first | exact HI0.out | apply IsS103.alloc | apply IsS103.drewN | apply IsS103.drew | apply IsS103.set_1) | exact HI0.out)); (case side2 => repeat (first | (with_reducible first | exact HB.out | apply below_alloc | apply pw_below_drewN | apply below_drew1 | refine below_set ?_ (IsS103.ge HI0.out)) | exact HB.out)); rintro e w24 ⟨rfl, hi, hb, hk⟩; refine ⟨_, rfl, ?_⟩; have n0_ := Aside0.mk (Kd.R_mono (Kd.R_keep (IsS103.apart (show IsS103 w0 _ g s0_0 t168 from by repeat (first | (with_reducible first | exact HI0.out | apply IsS103.alloc | apply IsS103.drewN | apply IsS103.drew | apply IsS103.set_1) | exact HI0.out)) pwd_ (by decide)) hk (fun _ h => h.2)) (fun _ h => h.1)); have n1_ := Aside0.mk (KeepBut.trans pwj_ hk (.inl rfl)); have n2_ := Aside0.mk (hb); have n3_ := Aside0.mk (hi); clear HO_7; clear HK; clear HB; clear HI0; have HO_7 := n0_; have HK := n1_; have HB := n2_; have HI0 := n3_; clear n0_ n1_ n2_ n3_; (try clear hb); (try clear hb2); (try clear hk); (try clear hi)) | ((with_reducible refine gate_dst (N := 42) rfl ?_); refine Kd.R_lit k62 _ 62 ?hg (N := 42) ?hd (xs := ([(⟨0, t177⟩ : S62)] : List (S62))) (inner := [.int .i64 0, .int .i64 t177]) (ok := fun _ => True) (okp := fun _ => True) ?hr ?hp (fun _ hk => hk) trivial (Below.refl _ _) (Nat.le_refl _) (by simp) ?_; (case hd => rfl); (case hg => rfl); (case hr => first | (go_simp; done) | (go_simp; rfl)); (case hp => exact (Reps.c2 (show Kd.M k62 _ _ _ (⟨0, t177⟩ : S62) [.int .i64 0, .int .i64 t177] from (k62_mkM _ _ _ (⟨0, t177⟩ : S62) )) (Reps.none _ _))); intro v180 w25 ho26 hb hg_ hnew_; clear hg_ hnew_; (first | rw [← Ny179.out] at ho26 | (simp only [Int.reduceToNat] at ho26; rw [← Ny179.out] at ho26)); have n0_ := Aside0.mk (Kd.R_elder' pwd_ (Kd.R_base ho26) hb); have n1_ := Aside0.mk (Kd.R_lower ho26 (keep_size (w := w) (g := g) (row := none) pwj_)); have n2_ := Aside0.mk (IsS103.below pwk_ hb); have n3_ := Aside0.mk (KeepBut.trans pwj_ (KeepBut.of_below hb g none) (.inl rfl)); have n4_ := Aside0.mk (below_step pwm_ hb); clear HO_7; clear HI0; clear HK; clear HB; have HO_7 := n0_; have HO181 := n1_; have HI0 := n2_; have HK := n3_; have HB := n4_; clear n0_ n1_ n2_ n3_ n4_; clear hb ho26; obtain ⟨Ao28, co28, eo28⟩ := Kd.R_slice HO181.out; subst eo28) | ((with_reducible refine gate_builtin (b := .append) (xs := #[.tmp 37, .tmp 43]) rfl ?_); at_builtin; refine Kd.R_append (Kd.slice 62 k62) w.heap.size rfl (.tmp 37) (.tmp 43) 104 25 (.slice none 0 0) 24 rfl Try.underlying104 info25 rfl (by decide) (by omega) u7 x7_1 y179 [.slice Ao28 y179.length co28] (fun _ => True) (fun k_ => ((fun _ => True)) k_ ∧ some k_ ≠ (u7 : Value).ownBlock) rfl rfl ?aP (fun _ hk => hk) ?aF ?aO (Below.refl _ _) ?aS ?aL ?_; (case aP => exact Kd.M_row (Kd.R_mono (Kd.R_apart' (HO181.out) (Kd.R_typed HO_7.out) (by decide)) (fun k_ hk => ⟨trivial, hk.2⟩))); (case aF => exact (fun _ _ => trivial)); (case aO => exact (by (with_reducible repeat apply Kd.R_alloc); exact Kd.R_mono HO_7.out (fun _ hk => trivial))); (case aS => exact (keep_size (w := w) (g := g) (row := none) pwj_)); (case aL => have := LMc22.out; omega); intro v183 w27 ho hb hg hat; rw [← Ny182.out] at ho; have n0_ := Aside0.mk (IsS103.grown pwk_ hg (IsS103.own_ne HI0.out HO_7.out (by decide))); have n1_ := Aside0.mk (below_weaken pwm_ HL.out hb); have n2_ := Aside0.mk (KeepBut.trans pwj_ (KeepBut.of_grown hg g) (Kd.R_base2 HO_7.out)); have n3_ := Aside0.mk (ho); clear HI0; clear HB; clear HK; clear HO_7; clear HO181; have HI0 := n0_; have HB := n1_; have HK := n2_; have HO184 := n3_; clear n0_ n1_ n2_ n3_; clear ho hb hg hat))
      go_roundg k1
      case measure => have := HK1.out; omega
      case rel => exact ⟨(y182), (wrap64 (x8_1 - 1)), (t178), pwa_, H', ⟨by have := HK1.out; omega⟩, ⟨by (with_reducible repeat apply Kd.R_alloc); exact HO184.out⟩, ⟨pwk_⟩, ⟨pwj_⟩, ⟨pwm_⟩⟩
     ·rw [if_neg c22] at H
      exact absurd H (by simp)
   ·rw [if_neg c10] at H
    have c10b0 : decide (0 < x8_1) = false := decide_eq_false c10
    clear c10
    have H' := Aside0.mk H
    clear H
    go_wp2
    go_loopg [7, 9] k1 (fun kq v7 v9 w' => ∃ (x7_2 : List (List (S62))) (x9_2 : Int) (x1001_2 : Int), v9 = .int .i64 x9_2 ∧ Aside0 (spec_l20Term.l1 kq a2 x7_2 x9_2 s0_0 x1001_2 = some (r1, r2)) ∧ Aside0 (kq ≤ k1) ∧ Aside0 (Kd.R (Kd.slice 62 k62) 25 w' w.heap.size (fun _ => True) v7 x7_2) ∧ Aside0 (IsS103 w0 w' g s0_0 x1001_2) ∧ Aside0 (KeepBut w w' g none) ∧ Aside0 (Below w0.heap.size w0 w'))
    case atStart => exact ⟨(x7_1), (3), (x1001_1), pwa_, H', ⟨Nat.le_refl _⟩, ⟨pwd_⟩, ⟨pwk_⟩, ⟨pwj_⟩, ⟨pwm_⟩⟩
    case round =>
     clear H'
     try clear c1
     try clear c2
     try clear p2
     try clear c6
     try clear p6
     try clear c10
     try clear c10b0
     try clear c12
     try clear c12b0
     try clear c12b1
     try clear c14
     try clear c22
     try clear p2
     try clear p6
     obtain ⟨x7_2, x9_2, x1001_2, rfl, HA, HK2, HO_7, HI0, HK, HB⟩ := hrel
     cases gk with
     | zero => exact absurd HA.out (by simp [spec_l20Term.l1])
     | succ k2 =>
      have H := HA.out
      clear HA
      simp only [spec_l20Term.l1] at H
      by_cases c29 : (x7_2.length : Int) > 1
      ·rw [if_pos c29] at H
       have c29b0 : decide (1 < (x7_2.length : Int)) = true := decide_eq_true c29
       have c29b1 : decide (1 < x7_2.length) = true := decide_eq_true (by omega)
       clear c29
       replace H := Option.bind_eq_some_iff.mp H
       obtain ⟨⟨t185, t186⟩, A300, H⟩ := H
       replace H : (if x9_2 > 0 then ((spec_l20Rd_pick.f k2 s0_0 t186 4).bind fun bt187 => (if bt187.1 = 0 then ((some (([] : List (S62)) : List (S62))).bind fun y189 => (if 0 ≤ t185 then (if t185 < (x7_2.length : Int) then (if y189.length + (rd_L3 x7_2 t185).length < 8796093022208 then ((some (y189 ++ (rd_L3 x7_2 t185) : List (S62))).bind fun y193 => (if y193.length < 8796093022208 then (spec_l20Term.l1 k2 a2 (x7_2.set (t185 : Int).toNat (y193 ++ [(⟨2, 0⟩ : S62)])) (wrap64 (x9_2 - 1)) s0_0 bt187.2) else (none))) else (none)) else (none)) else (none))) else ((some (([] : List (S62)) : List (S62))).bind fun y200 => (if 0 ≤ t185 then (if t185 < (x7_2.length : Int) then (if y200.length + (rd_L3 x7_2 t185).length < 8796093022208 then ((some (y200 ++ (rd_L3 x7_2 t185) : List (S62))).bind fun y204 => (if 0 ≤ (wrap64 (t185 + 1)) then (if (wrap64 (t185 + 1)) < (x7_2.length : Int) then (if y204.length + (rd_L3 x7_2 (wrap64 (t185 + 1))).length < 8796093022208 then ((some (y204 ++ (rd_L3 x7_2 (wrap64 (t185 + 1))) : List (S62))).bind fun y208 => ((spec_l20Rd_pick.f k2 s0_0 bt187.2 3).bind fun bt211 => (if y208.length < 8796093022208 then ((some (([] : List (List (S62))) : List (List (S62)))).bind fun y216 => (if t185 ≤ (x7_2.length : Int) then ((some (x7_2.take (t185 : Int).toNat : List (List (S62)))).bind fun y219 => (if y216.length + y219.length < 5864062014805 then ((some (y216 ++ y219 : List (List (S62)))).bind fun y223 => (if y223.length < 5864062014805 then ((some (y223 ++ [(y208 ++ [(⟨wrap64 (3 + bt211.1), 0⟩ : S62)])] : List (List (S62)))).bind fun y226 => (if 0 ≤ (wrap64 (t185 + 2)) then (if (wrap64 (t185 + 2)) ≤ (x7_2.length : Int) then ((some (x7_2.drop ((wrap64 (t185 + 2)) : Int).toNat : List (List (S62)))).bind fun y229 => (if y226.length + y229.length < 5864062014805 then (spec_l20Term.l1 k2 a2 (y226 ++ y229) x9_2 s0_0 bt211.2) else (none))) else (none)) else (none))) else (none))) else (none))) else (none))) else (none)))) else (none)) else (none)) else (none))) else (none)) else (none)) else (none))))) else ((some (([] : List (S62)) : List (S62))).bind fun y236 => (if 0 ≤ t185 then (if t185 < (x7_2.length : Int) then (if y236.length + (rd_L3 x7_2 t185).length < 8796093022208 then ((some (y236 ++ (rd_L3 x7_2 t185) : List (S62))).bind fun y240 => (if 0 ≤ (wrap64 (t185 + 1)) then (if (wrap64 (t185 + 1)) < (x7_2.length : Int) then (if y240.length + (rd_L3 x7_2 (wrap64 (t185 + 1))).length < 8796093022208 then ((some (y240 ++ (rd_L3 x7_2 (wrap64 (t185 + 1))) : List (S62))).bind fun y244 => ((spec_l20Rd_pick.f k2 s0_0 t186 3).bind fun bt247 => (if y244.length < 8796093022208 then ((some (([] : List (List (S62))) : List (List (S62)))).bind fun y252 => (if t185 ≤ (x7_2.length : Int) then ((some (x7_2.take (t185 : Int).toNat : List (List (S62)))).bind fun y255 => (if y252.length + y255.length < 5864062014805 then ((some (y252 ++ y255 : List (List (S62)))).bind fun y259 => (if y259.length < 5864062014805 then ((some (y259 ++ [(y244 ++ [(⟨wrap64 (3 + bt247.1), 0⟩ : S62)])] : List (List (S62)))).bind fun y262 => (if 0 ≤ (wrap64 (t185 + 2)) then (if (wrap64 (t185 + 2)) ≤ (x7_2.length : Int) then ((some (x7_2.drop ((wrap64 (t185 + 2)) : Int).toNat : List (List (S62)))).bind fun y265 => (if y262.length + y265.length < 5864062014805 then (spec_l20Term.l1 k2 a2 (y262 ++ y265) x9_2 s0_0 bt247.2) else (none))) else (none)) else (none))) else (none))) else (none))) else (none))) else (none)))) else (none)) else (none)) else (none))) else (none)) else (none)) else (none)))) = some (r1, r2) := H
       have A30 := Aside0.mk A300
       clear A300
       by_cases c31 : x9_2 > 0
       ·rw [if_pos c31] at H
        have c31b0 : decide (0 < x9_2) = true := decide_eq_true c31
        clear c31
        replace H := Option.bind_eq_some_iff.mp H
        obtain ⟨⟨t187, t188⟩, A320, H⟩ := H
        replace H : (if t187 = 0 then ((some (([] : List (S62)) : List (S62))).bind fun y189 => (if 0 ≤ t185 then (if t185 < (x7_2.length : Int) then (if y189.length + (rd_L3 x7_2 t185).length < 8796093022208 then ((some (y189 ++ (rd_L3 x7_2 t185) : List (S62))).bind fun y193 => (if y193.length < 8796093022208 then (spec_l20Term.l1 k2 a2 (x7_2.set (t185 : Int).toNat (y193 ++ [(⟨2, 0⟩ : S62)])) (wrap64 (x9_2 - 1)) s0_0 t188) else (none))) else (none)) else (none)) else (none))) else ((some (([] : List (S62)) : List (S62))).bind fun y200 => (if 0 ≤ t185 then (if t185 < (x7_2.length : Int) then (if y200.length + (rd_L3 x7_2 t185).length < 8796093022208 then ((some (y200 ++ (rd_L3 x7_2 t185) : List (S62))).bind fun y204 => (if 0 ≤ (wrap64 (t185 + 1)) then (if (wrap64 (t185 + 1)) < (x7_2.length : Int) then (if y204.length + (rd_L3 x7_2 (wrap64 (t185 + 1))).length < 8796093022208 then ((some (y204 ++ (rd_L3 x7_2 (wrap64 (t185 + 1))) : List (S62))).bind fun y208 => ((spec_l20Rd_pick.f k2 s0_0 t188 3).bind fun bt211 => (if y208.length < 8796093022208 then ((some (([] : List (List (S62))) : List (List (S62)))).bind fun y216 => (if t185 ≤ (x7_2.length : Int) then ((some (x7_2.take (t185 : Int).toNat : List (List (S62)))).bind fun y219 => (if y216.length + y219.length < 5864062014805 then ((some (y216 ++ y219 : List (List (S62)))).bind fun y223 => (if y223.length < 5864062014805 then ((some (y223 ++ [(y208 ++ [(⟨wrap64 (3 + bt211.1), 0⟩ : S62)])] : List (List (S62)))).bind fun y226 => (if 0 ≤ (wrap64 (t185 + 2)) then (if (wrap64 (t185 + 2)) ≤ (x7_2.length : Int) then ((some (x7_2.drop ((wrap64 (t185 + 2)) : Int).toNat : List (List (S62)))).bind fun y229 => (if y226.length + y229.length < 5864062014805 then (spec_l20Term.l1 k2 a2 (y226 ++ y229) x9_2 s0_0 bt211.2) else (none))) else (none)) else (none))) else (none))) else (none))) else (none))) else (none)))) else (none)) else (none)) else (none))) else (none)) else (none)) else (none)))) = some (r1, r2) := H
        have A32 := Aside0.mk A320
        clear A320
        by_cases c33 : t187 = 0
        ·rw [if_pos c33] at H
         have c33b0 : (t187 == 0) = true := beq_iff_eq.mpr c33
         have c33b1 : (t187 != 0) = false := bne_eq_false_iff_eq.mpr c33
         clear c33
         obtain ⟨y189, hy189⟩ : ∃ y_ : List (S62), y_ = (([] : List (S62))) := ⟨_, rfl⟩
         replace H : (if 0 ≤ t185 then (if t185 < (x7_2.length : Int) then (if y189.length + (rd_L3 x7_2 t185).length < 8796093022208 then ((some (y189 ++ (rd_L3 x7_2 t185) : List (S62))).bind fun y193 => (if y193.length < 8796093022208 then (spec_l20Term.l1 k2 a2 (x7_2.set (t185 : Int).toNat (y193 ++ [(⟨2, 0⟩ : S62)])) (wrap64 (x9_2 - 1)) s0_0 t188) else (none))) else (none)) else (none)) else (none)) = some (r1, r2) := by first | (rw [hy189]; with_reducible exact H) | (have H2_ := (Option.bind_some _ _).symm.trans H; rw [hy189]; with_reducible exact H2_) | (have H2_ := (Option.bind_some _ _).symm.trans H; with_reducible exact H2_) | with_reducible exact H | (rw [hy189]; exact H) | exact H
         have Ny189 := Aside0.mk hy189
         clear hy189
         by_cases c34 : 0 ≤ t185
         ·rw [if_pos c34] at H
          have c34b0 : decide (0 ≤ t185) = true := decide_eq_true c34
          clear c34
          by_cases c35 : t185 < (x7_2.length : Int)
          ·rw [if_pos c35] at H
           have c35b0 : decide (t185 < (x7_2.length : Int)) = true := decide_eq_true c35
           clear c35
           by_cases c36 : y189.length + (rd_L3 x7_2 t185).length < 8796093022208
           ·rw [if_pos c36] at H
            have LMc36 := Aside0.mk c36
            clear c36
            obtain ⟨y193, hy193⟩ : ∃ y_ : List (S62), y_ = (y189 ++ (rd_L3 x7_2 t185)) := ⟨_, rfl⟩
            replace H : (if y193.length < 8796093022208 then (spec_l20Term.l1 k2 a2 (x7_2.set (t185 : Int).toNat (y193 ++ [(⟨2, 0⟩ : S62)])) (wrap64 (x9_2 - 1)) s0_0 t188) else (none)) = some (r1, r2) := by first | (rw [hy193]; with_reducible exact H) | (have H2_ := (Option.bind_some _ _).symm.trans H; rw [hy193]; with_reducible exact H2_) | (have H2_ := (Option.bind_some _ _).symm.trans H; with_reducible exact H2_) | with_reducible exact H | (rw [hy193]; exact H) | exact H
            have Ny193 := Aside0.mk hy193
            clear hy193
            by_cases c37 : y193.length < 8796093022208
            ·rw [if_pos c37] at H
             have LMc37 := Aside0.mk c37
             clear c37
             obtain ⟨y196, hy196⟩ : ∃ y_ : List (S62), y_ = (y193 ++ [(⟨2, 0⟩ : S62)]) := ⟨_, rfl⟩
             replace H : (spec_l20Term.l1 k2 a2 (x7_2.set (t185 : Int).toNat y196) (wrap64 (x9_2 - 1)) s0_0 t188) = some (r1, r2) := by first | (rw [hy196]; with_reducible exact H) | (have H2_ := (Option.bind_some _ _).symm.trans H; rw [hy196]; with_reducible exact H2_) | (have H2_ := (Option.bind_some _ _).symm.trans H; with_reducible exact H2_) | with_reducible exact H | (rw [hy196]; exact H) | exact H
             have Ny196 := Aside0.mk hy196
             clear hy196
             obtain ⟨y199, hy199⟩ : ∃ y_ : List (List (S62)), y_ = (x7_2.set (t185 : Int).toNat y196) := ⟨_, rfl⟩
             replace H : (spec_l20Term.l1 k2 a2 y199 (wrap64 (x9_2 - 1)) s0_0 t188) = some (r1, r2) := by first | (rw [hy199]; with_reducible exact H) | (have H2_ := (Option.bind_some _ _).symm.trans H; rw [hy199]; with_reducible exact H2_) | (have H2_ := (Option.bind_some _ _).symm.trans H; with_reducible exact H2_) | with_reducible exact H | (rw [hy199]; exact H) | exact H
             have Ny199 := Aside0.mk hy199
             clear hy199
             have H' := Aside0.mk H
             clear H
             obtain ⟨Ao39, co39, eo39⟩ := Kd.R_slice HO_7.out
             subst eo39
             go_wp2_with (first | ((with_reducible refine gate_callee (f := 60) rfl ?_); refine goesL_ (some 52) rfl rfl Try.func60 (by kernel_rfl) rfl #[.pointer (some ⟨g, 0, none⟩), .int .i64 (wrap64 ((x7_2.length : Int) - 1))] rfl pwi_ ?_; (with_reducible refine (spec_l20Rd_pick.calls k2 g s0_0 x1001_2 (wrap64 ((x7_2.length : Int) - 1)) t185 t186 w0 _ ?side1 ?side2 A30.out).mono ?_); (case side1 => repeat (first | (with_reducible first | exact HI0.out | apply IsS103.alloc | apply IsS103.drewN | apply IsS103.drew | apply IsS103.set_1) | exact HI0.out)); (case side2 => repeat (first | (with_reducible first | exact HB.out | apply below_alloc | apply pw_below_drewN | apply below_drew1 | refine below_set ?_ (IsS103.ge HI0.out)) | exact HB.out)); rintro e w40 ⟨rfl, hi, hb, hk⟩; refine ⟨_, rfl, ?_⟩; have n0_ := Aside0.mk (Kd.R_mono (Kd.R_keep (IsS103.apart (show IsS103 w0 _ g s0_0 x1001_2 from by repeat (first | (with_reducible first | exact HI0.out | apply IsS103.alloc | apply IsS103.drewN | apply IsS103.drew | apply IsS103.set_1) | exact HI0.out)) pwd_ (by decide)) hk (fun _ h => h.2)) (fun _ h => h.1)); have n1_ := Aside0.mk (KeepBut.trans pwj_ hk (.inl rfl)); have n2_ := Aside0.mk (hb); have n3_ := Aside0.mk (hi); clear HO_7; clear HK; clear HB; clear HI0; have HO_7 := n0_; have HK := n1_; have HB := n2_; have HI0 := n3_; clear n0_ n1_ n2_ n3_; (try clear hb); (try clear hb2); (try clear hk); (try clear hi)) | (go_at_call 60; (with_reducible refine (spec_l20Rd_pick.calls k2 g s0_0 t186 4 t187 t188 w0 _ ?side1 ?side2 A32.out).mono ?_); (case side1 => repeat (first | (with_reducible first | exact HI0.out | apply IsS103.alloc | apply IsS103.drewN | apply IsS103.drew | apply IsS103.set_1) | exact HI0.out)); (case side2 => repeat (first | (with_reducible first | exact HB.out | apply below_alloc | apply pw_below_drewN | apply below_drew1 | refine below_set ?_ (IsS103.ge HI0.out)) | exact HB.out)); rintro e w41 ⟨rfl, hi, hb, hk⟩; have n0_ := Aside0.mk (Kd.R_mono (Kd.R_keep (IsS103.apart (show IsS103 w0 _ g s0_0 t186 from by repeat (first | (with_reducible first | exact HI0.out | apply IsS103.alloc | apply IsS103.drewN | apply IsS103.drew | apply IsS103.set_1) | exact HI0.out)) pwd_ (by decide)) hk (fun _ h => h.2)) (fun _ h => h.1)); have n1_ := Aside0.mk (KeepBut.trans pwj_ hk (.inl rfl)); have n2_ := Aside0.mk (hb); have n3_ := Aside0.mk (hi); clear HO_7; clear HK; clear HB; clear HI0; have HO_7 := n0_; have HK := n1_; have HB := n2_; have HI0 := n3_; clear n0_ n1_ n2_ n3_; (try clear hb); (try clear hb2); (try clear hk); (try clear hi)) | ((with_reducible refine gate_dst (N := 64) rfl ?_); refine Kd.R_lit k62 _ 62 ?hg (N := 64) ?hd (xs := ([] : List (S62))) (inner := []) (ok := fun _ => True) (okp := fun _ => True) ?hr ?hp (fun _ hk => hk) trivial (Below.refl _ _) (Nat.le_refl _) (by simp) ?_; (case hd => rfl); (case hg => rfl); (case hr => first | (go_simp; done) | (go_simp; rfl)); (case hp => exact (Reps.none _ _)); intro v190 w42 ho43 hb hg_ hnew_; clear hg_ hnew_; (first | rw [← Ny189.out] at ho43 | (simp only [Int.reduceToNat] at ho43; rw [← Ny189.out] at ho43)); have n0_ := Aside0.mk (Kd.R_elder' pwd_ (Kd.R_base ho43) hb); have n1_ := Aside0.mk (Kd.R_lower ho43 (keep_size (w := w) (g := g) (row := none) pwj_)); have n2_ := Aside0.mk (IsS103.below pwk_ hb); have n3_ := Aside0.mk (KeepBut.trans pwj_ (KeepBut.of_below hb g none) (.inl rfl)); have n4_ := Aside0.mk (below_step pwm_ hb); clear HO_7; clear HI0; clear HK; clear HB; have HO_7 := n0_; have HO191 := n1_; have HI0 := n2_; have HK := n3_; have HB := n4_; clear n0_ n1_ n2_ n3_ n4_; clear hb ho43; have p192 : 0 ≤ (t185 : Int) := of_decide_eq_true pwb_; have q192 : t185 < (x7_2.length : Int) := of_decide_eq_true pwb_; obtain ⟨ad192, A192_0, c192_0, e192, hx192_0, hl192_0, hi192_0⟩ := at_L3 (Kd.R_reads' HO_7.out).2.2 t185 p192 q192; cases e192; obtain ⟨ce192, hce192, hMe192, hcc192⟩ := Kd.R_get HO_7.out [] t185 p192 (by first | exact q192 | exact of_decide_eq_true pwb_ | (have e_ := (Kd.R_reads' HO_7.out).1; omega)); obtain ⟨ve192_0, rfl, ge192_0⟩ := hMe192; have hv192_0 := hcc192 0 _ rfl; rw [Nat.add_zero, show ((Kd.slice 62 k62)).sz = 1 from rfl, Nat.mul_one] at hv192_0; replace hv192_0 := Option.some.inj (hv192_0.symm.trans hx192_0); rw [hv192_0] at ge192_0; have HL192_0 := Aside0.mk (show Kd.R k62 62 _ _ _ _ (rd_L3 x7_2 t185) from ge192_0); clear hv192_0 ge192_0; clear hcc192 hce192; have HR192_0 := Aside0.mk hi192_0; have HC192_0 := Aside0.mk hl192_0; clear hi192_0 hl192_0; replace p192 := eq_true p192; replace q192 := eq_true q192) | ((with_reducible refine gate_builtin (b := .append) (xs := #[.tmp 64, .tmp 68]) rfl ?_); at_builtin; refine Kd.R_append_rows k62 w.heap.size rfl (.tmp 64) (.tmp 68) 25 62 (.agg #[(.int .i64 0), (.int .i64 0)]) 16 rfl Try.underlying25 info62 rfl (by decide) (by omega) v190 y189 (rd_L3 x7_2 t185) _ _ _ (fun _ => True) (fun _ => False) rfl rfl ?aO ?aR (fun _ _ h => h) (fun _ h => h.elim) ?aF (Below.refl _ _) ?aS ?aL ?_; (case aR => repeat (first | exact (by repeat (first | (with_reducible exact HR192_0.out) | (with_reducible refine Kd.C_alloc ?_ _) | (with_reducible refine Kd.C_drewN ?_ _) | (with_reducible refine Kd.C_drew ?_) | exact HR192_0.out)) | (with_reducible refine Kd.C_alloc ?_ _) | (with_reducible refine Kd.C_drewN ?_ _) | (with_reducible refine Kd.C_drew ?_))); (case aF => exact (fun _ _ => trivial)); (case aO => exact (by (with_reducible repeat apply Kd.R_alloc); exact HO191.out)); (case aS => exact (keep_size (w := w) (g := g) (row := none) pwj_)); (case aL => have := LMc36.out; omega); intro v194 w44 ho hb hg hat; rw [← Ny193.out] at ho; have n0_ := Aside0.mk (Kd.R_after (ok := (fun _ => True)) pwd_ hg hat); have n1_ := Aside0.mk (IsS103.grown pwk_ hg (IsS103.own_ne HI0.out HO191.out (by decide))); have n2_ := Aside0.mk (Kd.R_after (ok := (fun k_ => some k_ ≠ (.slice (some ad192) x7_2.length co39 : Value).ownBlock)) (by (with_reducible repeat apply Kd.R_alloc); exact Kd.R_mono HL192_0.out (fun _ hk => ⟨hk.2, hk.1.2⟩)) hg hat); have n3_ := Aside0.mk (below_weaken pwm_ HL.out hb); have n4_ := Aside0.mk (KeepBut.trans pwj_ (KeepBut.of_grown hg g) (Kd.R_base2 HO191.out)); have n5_ := Aside0.mk (ho); clear HO_7; clear HI0; clear HL192_0; clear HB; clear HK; clear HO191; have HO_7 := n0_; have HI0 := n1_; have HL192_0 := n2_; have HB := n3_; have HK := n4_; have HO195 := n5_; clear n0_ n1_ n2_ n3_ n4_ n5_; clear ho hb hg hat) | ((with_reducible refine gate_builtin (b := .append) (xs := #[.tmp 69, .tmp 71]) rfl ?_); at_builtin; refine Kd.R_append k62 w.heap.size rfl (.tmp 69) (.tmp 71) 25 62 (.agg #[(.int .i64 0), (.int .i64 0)]) 16 rfl Try.underlying25 info62 rfl (by decide) (by omega) v194 y193 (⟨2, 0⟩ : S62) [.int .i64 2, .int .i64 0] (fun _ => True) (fun _ => False) rfl rfl ?aP (fun _ hk => hk.elim) ?aF ?aO (Below.refl _ _) ?aS ?aL ?_; (case aP => exact k62_mkM _ _ _ (⟨2, 0⟩ : S62)); (case aF => exact (fun _ _ => trivial)); (case aO => exact (by (with_reducible repeat apply Kd.R_alloc); exact HO195.out)); (case aS => exact (keep_size (w := w) (g := g) (row := none) pwj_)); (case aL => have := LMc37.out; omega); intro v197 w45 ho hb hg hat; rw [← Ny196.out] at ho; have n0_ := Aside0.mk (Kd.R_after (ok := (fun _ => True)) pwd_ hg hat); have n1_ := Aside0.mk (IsS103.grown pwk_ hg (IsS103.own_ne HI0.out HO195.out (by decide))); have n2_ := Aside0.mk (Kd.R_after (ok := (fun k_ => some k_ ≠ (.slice (some ad192) x7_2.length co39 : Value).ownBlock)) (by (with_reducible repeat apply Kd.R_alloc); exact HL192_0.out) hg hat); have n3_ := Aside0.mk (below_weaken pwm_ HL.out hb); have n4_ := Aside0.mk (KeepBut.trans pwj_ (KeepBut.of_grown hg g) (Kd.R_base2 HO195.out)); have n5_ := Aside0.mk (ho); clear HO_7; clear HI0; clear HL192_0; clear HB; clear HK; clear HO195; have HO_7 := n0_; have HI0 := n1_; have HL192_0 := n2_; have HB := n3_; have HK := n4_; have HO198 := n5_; clear n0_ n1_ n2_ n3_ n4_ n5_; clear ho hb hg hat; have p38 : 0 ≤ (t185 : Int) := of_decide_eq_true pwb_; have q38 : (t185 : Int) < ((x7_2.length : Int) : Int) := of_decide_eq_true pwb_; obtain ⟨go38, co38, eo38, gb38, gl38, cl38, HG38⟩ := Kd.R_form HO_7.out (by omega); (first | cases eo38 | (injection eo38 with ea_ en_ ec_; (first | subst ea_ | (injection ea_ with ea_; subst ea_)); subst ec_; clear en_)); have GB38 := Aside0.mk gb38; have GG38 := Aside0.mk HG38; clear gb38 gl38 HG38; (first | simp only [add_plain] at hx192_0 | skip); obtain ⟨ce38, hcl38, hM38, hcc38, hfr38⟩ := Kd.R_elem HO_7.out [] (t185 : Int) p38 q38; obtain ⟨ve38_0, rfl, ge38_0⟩ := hM38; have hx38_0 := hcc38 0 _ rfl; have hf38_0 := hfr38 0; (try simp only [show ((Kd.slice 62 k62)).sz = 1 from rfl, Nat.mul_one, Nat.add_zero] at hx38_0); (try simp only [show ((Kd.slice 62 k62)).sz = 1 from rfl, Nat.mul_one, Nat.add_zero] at hf38_0); clear hcl38 hcc38 hfr38; (try clear hM38); skip; replace p38 := eq_true p38; replace q38 := eq_true q38; have n_ := Aside0.mk (Kd.R_mono (ok' := (fun k_ => some k_ ≠ (v197 : Value).ownBlock)) HO_7.out (fun k_ hk => hk.2)); clear HO_7; have HO_7 := n_; clear n_; have HX46 := Aside0.mk (show Kd.R (Kd.slice 62 k62) 25 w45 w.heap.size (fun _ => True) (.slice (some ⟨go38, 0, none⟩) x7_2.length co39) x7_2 from (by (with_reducible repeat apply Kd.R_alloc); exact Kd.R_mono HO_7.out (fun _ hk => trivial))); obtain ⟨ce46, hcl46, hM46, hcc46, hfr46⟩ := Kd.R_elem HX46.out [] (t185 : Int) (of_decide_eq_true pwb_) (by have h_ : (t185 : Int) < ((x7_2.length : Int) : Int) := of_decide_eq_true pwb_; first | exact h_ | (have e_ := (Kd.R_reads' HO_7.out).1; omega) | simpa using h_); obtain ⟨ve46_0, rfl, ge46_0⟩ := hM46; have HP46 := Kd.R_seg HX46.out (t185 : Int) (of_decide_eq_true pwb_) (by have h_ : (t185 : Int) < ((x7_2.length : Int) : Int) := of_decide_eq_true pwb_; first | exact h_ | (have e_ := (Kd.R_reads' HO_7.out).1; omega) | simpa using h_) (seg := [v197]) (j := 0) hcl46 hcc46 (show 1 ≤ 1 from by decide) (x' := y196) (Kd.M_row (Kd.R_mono (Kd.R_apart' (HO198.out) (Kd.R_typed HO_7.out) (by decide)) (fun k_ hk => ⟨trivial, fun e_ => (hk.2) (by rw [e_]; rfl)⟩))) (fun _ hk => hk); have hx46_0 := hcc46 0 _ rfl; (try simp only [show ((Kd.slice 62 k62)).sz = 1 from rfl, Nat.mul_one, Nat.add_zero] at hx46_0); have hf46_0 := hfr46 0; (try simp only [show ((Kd.slice 62 k62)).sz = 1 from rfl, Nat.mul_one, Nat.add_zero] at hf46_0); clear hcl46 hcc46 hfr46; (try clear hM46); skip; (try simp only [show ((Kd.slice 62 k62)).sz = 1 from rfl, Nat.mul_one, Nat.add_zero] at HP46)) | ((with_reducible refine gate_store (t := 25) (p := 73) rfl ?_); refine store_event (t := 25) (p := 73) (v := ?vo_w47) (w1 := (w45.setCell ⟨go38, (t185 : Int).toNat, none⟩ (v197))) ?hg ?ho ?hn ?hr ?_; (case ho => rfl); (case hg => rfl); (case hn => rfl); (case hr => first | (go_simp; done) | (go_simp; rfl) | ((obtain ⟨A_, c_, e_⟩ := Kd.R_slice HO198.out; rw [e_]); first | (go_simp; done) | (go_simp; rfl))); intro w47 hw; have hg : w45.grownBy w47 (some go38) := (by rw [hw]; exact HP46.2); have hp_ : Kd.R (Kd.slice 62 k62) 25 w47 w.heap.size (fun _ => True) (.slice (some ⟨go38, 0, none⟩) x7_2.length co39) y199 := (by rw [hw, Ny199.out]; exact HP46.1); clear HP46; have n0_ := Aside0.mk (hp_); have n1_ := Aside0.mk (IsS103.grown pwk_ hg (IsS103.own_ne HI0.out HO_7.out (by decide))); have n2_ := Aside0.mk (Kd.R_after (v := (.slice (some ⟨go38, 0, none⟩) x7_2.length co39)) (v1 := (.slice (some ⟨go38, 0, none⟩) x7_2.length co39)) (ok := (fun k_ => some k_ ≠ (v197 : Value).ownBlock)) (by (with_reducible repeat apply Kd.R_alloc); exact Kd.R_mono HL192_0.out (fun _ hk => ⟨hk.2, hk.1⟩)) hg (.inl rfl)); have n3_ := Aside0.mk ((by rw [hw]; exact below_set (HB.out) (Nat.le_trans HL.out GB38.out) : Below w0.heap.size w0 w47)); have n4_ := Aside0.mk (KeepBut.trans pwj_ (KeepBut.of_grown hg g) (Kd.R_base2 HO_7.out)); clear HO_7; clear HI0; clear HL192_0; clear HB; clear HK; clear HO198; have HO_7 := n0_; have HI0 := n1_; have HL192_0 := n2_; have HB := n3_; have HK := n4_; clear n0_ n1_ n2_ n3_ n4_; clear hg hw hp_))
             go_roundg k2
             case measure => have := HK1.out; have := HK2.out; omega
             case rel => exact ⟨(y199), (wrap64 (x9_2 - 1)), (t188), pwa_, H', ⟨by have := HK1.out; have := HK2.out; omega⟩, ⟨pwd_⟩, ⟨pwk_⟩, ⟨pwj_⟩, ⟨pwm_⟩⟩
            ·rw [if_neg c37] at H
             exact absurd H (by simp)
           ·rw [if_neg c36] at H
            exact absurd H (by simp)
          ·rw [if_neg c35] at H
           exact absurd H (by simp)
         ·rw [if_neg c34] at H
          exact absurd H (by simp)
        ·rw [if_neg c33] at H
         have c33b0 : (t187 == 0) = false := beq_eq_false_iff_ne.mpr c33
         have c33b1 : (t187 != 0) = true := bne_iff_ne.mpr c33
         obtain ⟨y200, hy200⟩ : ∃ y_ : List (S62), y_ = (([] : List (S62))) := ⟨_, rfl⟩
         replace H : (if 0 ≤ t185 then (if t185 < (x7_2.length : Int) then (if y200.length + (rd_L3 x7_2 t185).length < 8796093022208 then ((some (y200 ++ (rd_L3 x7_2 t185) : List (S62))).bind fun y204 => (if 0 ≤ (wrap64 (t185 + 1)) then (if (wrap64 (t185 + 1)) < (x7_2.length : Int) then (if y204.length + (rd_L3 x7_2 (wrap64 (t185 + 1))).length < 8796093022208 then ((some (y204 ++ (rd_L3 x7_2 (wrap64 (t185 + 1))) : List (S62))).bind fun y208 => ((spec_l20Rd_pick.f k2 s0_0 t188 3).bind fun bt211 => (if y208.length < 8796093022208 then ((some (([] : List (List (S62))) : List (List (S62)))).bind fun y216 => (if t185 ≤ (x7_2.length : Int) then ((some (x7_2.take (t185 : Int).toNat : List (List (S62)))).bind fun y219 => (if y216.length + y219.length < 5864062014805 then ((some (y216 ++ y219 : List (List (S62)))).bind fun y223 => (if y223.length < 5864062014805 then ((some (y223 ++ [(y208 ++ [(⟨wrap64 (3 + bt211.1), 0⟩ : S62)])] : List (List (S62)))).bind fun y226 => (if 0 ≤ (wrap64 (t185 + 2)) then (if (wrap64 (t185 + 2)) ≤ (x7_2.length : Int) then ((some (x7_2.drop ((wrap64 (t185 + 2)) : Int).toNat : List (List (S62)))).bind fun y229 => (if y226.length + y229.length < 5864062014805 then (spec_l20Term.l1 k2 a2 (y226 ++ y229) x9_2 s0_0 bt211.2) else (none))) else (none)) else (none))) else (none))) else (none))) else (none))) else (none)))) else (none)) else (none)) else (none))) else (none)) else (none)) else (none)) = some (r1, r2) := by first | (rw [hy200]; with_reducible exact H) | (have H2_ := (Option.bind_some _ _).symm.trans H; rw [hy200]; with_reducible exact H2_) | (have H2_ := (Option.bind_some _ _).symm.trans H; with_reducible exact H2_) | with_reducible exact H | (rw [hy200]; exact H) | exact H
         have Ny200 := Aside0.mk hy200
         clear hy200
         by_cases c48 : 0 ≤ t185
         ·rw [if_pos c48] at H
          have c48b0 : decide (0 ≤ t185) = true := decide_eq_true c48
          clear c48
          by_cases c49 : t185 < (x7_2.length : Int)
          ·rw [if_pos c49] at H
           have c49b0 : decide (t185 < (x7_2.length : Int)) = true := decide_eq_true c49
           clear c49
           by_cases c50 : y200.length + (rd_L3 x7_2 t185).length < 8796093022208
           ·rw [if_pos c50] at H
            have LMc50 := Aside0.mk c50
            clear c50
            obtain ⟨y204, hy204⟩ : ∃ y_ : List (S62), y_ = (y200 ++ (rd_L3 x7_2 t185)) := ⟨_, rfl⟩
            replace H : (if 0 ≤ (wrap64 (t185 + 1)) then (if (wrap64 (t185 + 1)) < (x7_2.length : Int) then (if y204.length + (rd_L3 x7_2 (wrap64 (t185 + 1))).length < 8796093022208 then ((some (y204 ++ (rd_L3 x7_2 (wrap64 (t185 + 1))) : List (S62))).bind fun y208 => ((spec_l20Rd_pick.f k2 s0_0 t188 3).bind fun bt211 => (if y208.length < 8796093022208 then ((some (([] : List (List (S62))) : List (List (S62)))).bind fun y216 => (if t185 ≤ (x7_2.length : Int) then ((some (x7_2.take (t185 : Int).toNat : List (List (S62)))).bind fun y219 => (if y216.length + y219.length < 5864062014805 then ((some (y216 ++ y219 : List (List (S62)))).bind fun y223 => (if y223.length < 5864062014805 then ((some (y223 ++ [(y208 ++ [(⟨wrap64 (3 + bt211.1), 0⟩ : S62)])] : List (List (S62)))).bind fun y226 => (if 0 ≤ (wrap64 (t185 + 2)) then (if (wrap64 (t185 + 2)) ≤ (x7_2.length : Int) then ((some (x7_2.drop ((wrap64 (t185 + 2)) : Int).toNat : List (List (S62)))).bind fun y229 => (if y226.length + y229.length < 5864062014805 then (spec_l20Term.l1 k2 a2 (y226 ++ y229) x9_2 s0_0 bt211.2) else (none))) else (none)) else (none))) else (none))) else (none))) else (none))) else (none)))) else (none)) else (none)) else (none)) = some (r1, r2) := by first | (rw [hy204]; with_reducible exact H) | (have H2_ := (Option.bind_some _ _).symm.trans H; rw [hy204]; with_reducible exact H2_) | (have H2_ := (Option.bind_some _ _).symm.trans H; with_reducible exact H2_) | with_reducible exact H | (rw [hy204]; exact H) | exact H
            have Ny204 := Aside0.mk hy204
            clear hy204
            obtain ⟨ji51, hji51⟩ : ∃ j_ : Int, (wrap64 (t185 + 1)) = j_ := ⟨_, rfl⟩
            replace H : (if 0 ≤ (ji51) then (if (ji51) < (x7_2.length : Int) then (if y204.length + (rd_L3 x7_2 (ji51)).length < 8796093022208 then ((some (y204 ++ (rd_L3 x7_2 (ji51)) : List (S62))).bind fun y208 => ((spec_l20Rd_pick.f k2 s0_0 t188 3).bind fun bt211 => (if y208.length < 8796093022208 then ((some (([] : List (List (S62))) : List (List (S62)))).bind fun y216 => (if t185 ≤ (x7_2.length : Int) then ((some (x7_2.take (t185 : Int).toNat : List (List (S62)))).bind fun y219 => (if y216.length + y219.length < 5864062014805 then ((some (y216 ++ y219 : List (List (S62)))).bind fun y223 => (if y223.length < 5864062014805 then ((some (y223 ++ [(y208 ++ [(⟨wrap64 (3 + bt211.1), 0⟩ : S62)])] : List (List (S62)))).bind fun y226 => (if 0 ≤ (wrap64 (t185 + 2)) then (if (wrap64 (t185 + 2)) ≤ (x7_2.length : Int) then ((some (x7_2.drop ((wrap64 (t185 + 2)) : Int).toNat : List (List (S62)))).bind fun y229 => (if y226.length + y229.length < 5864062014805 then (spec_l20Term.l1 k2 a2 (y226 ++ y229) x9_2 s0_0 bt211.2) else (none))) else (none)) else (none))) else (none))) else (none))) else (none))) else (none)))) else (none)) else (none)) else (none)) = some (r1, r2) := by first | (rw [hji51] at H; exact H) | (simp only [hji51] at H ⊢; exact H)
            (try rw [hji51] at A30)
            (try rw [hji51] at A32)
            have hji51w : (IntKind.i64.wrap (t185 + 1)) = ji51 := (i64_w _).trans hji51
            by_cases c52 : 0 ≤ (ji51)
            ·rw [if_pos c52] at H
             have c52b0 : decide (0 ≤ (ji51)) = true := decide_eq_true c52
             clear c52
             by_cases c53 : (ji51) < (x7_2.length : Int)
             ·rw [if_pos c53] at H
              have c53b0 : decide ((ji51) < (x7_2.length : Int)) = true := decide_eq_true c53
              clear c53
              by_cases c54 : y204.length + (rd_L3 x7_2 (ji51)).length < 8796093022208
              ·rw [if_pos c54] at H
               have LMc54 := Aside0.mk c54
               clear c54
               obtain ⟨y208, hy208⟩ : ∃ y_ : List (S62), y_ = (y204 ++ (rd_L3 x7_2 (ji51))) := ⟨_, rfl⟩
               replace H : ((spec_l20Rd_pick.f k2 s0_0 t188 3).bind fun bt211 => (if y208.length < 8796093022208 then ((some (([] : List (List (S62))) : List (List (S62)))).bind fun y216 => (if t185 ≤ (x7_2.length : Int) then ((some (x7_2.take (t185 : Int).toNat : List (List (S62)))).bind fun y219 => (if y216.length + y219.length < 5864062014805 then ((some (y216 ++ y219 : List (List (S62)))).bind fun y223 => (if y223.length < 5864062014805 then ((some (y223 ++ [(y208 ++ [(⟨wrap64 (3 + bt211.1), 0⟩ : S62)])] : List (List (S62)))).bind fun y226 => (if 0 ≤ (wrap64 (t185 + 2)) then (if (wrap64 (t185 + 2)) ≤ (x7_2.length : Int) then ((some (x7_2.drop ((wrap64 (t185 + 2)) : Int).toNat : List (List (S62)))).bind fun y229 => (if y226.length + y229.length < 5864062014805 then (spec_l20Term.l1 k2 a2 (y226 ++ y229) x9_2 s0_0 bt211.2) else (none))) else (none)) else (none))) else (none))) else (none))) else (none))) else (none))) = some (r1, r2) := by first | (rw [hy208]; with_reducible exact H) | (have H2_ := (Option.bind_some _ _).symm.trans H; rw [hy208]; with_reducible exact H2_) | (have H2_ := (Option.bind_some _ _).symm.trans H; with_reducible exact H2_) | with_reducible exact H | (rw [hy208]; exact H) | exact H
               have Ny208 := Aside0.mk hy208
               clear hy208
               replace H := Option.bind_eq_some_iff.mp H
               obtain ⟨⟨t211, t212⟩, A550, H⟩ := H
               replace H : (if y208.length < 8796093022208 then ((some (([] : List (List (S62))) : List (List (S62)))).bind fun y216 => (if t185 ≤ (x7_2.length : Int) then ((some (x7_2.take (t185 : Int).toNat : List (List (S62)))).bind fun y219 => (if y216.length + y219.length < 5864062014805 then ((some (y216 ++ y219 : List (List (S62)))).bind fun y223 => (if y223.length < 5864062014805 then ((some (y223 ++ [(y208 ++ [(⟨wrap64 (3 + t211), 0⟩ : S62)])] : List (List (S62)))).bind fun y226 => (if 0 ≤ (wrap64 (t185 + 2)) then (if (wrap64 (t185 + 2)) ≤ (x7_2.length : Int) then ((some (x7_2.drop ((wrap64 (t185 + 2)) : Int).toNat : List (List (S62)))).bind fun y229 => (if y226.length + y229.length < 5864062014805 then (spec_l20Term.l1 k2 a2 (y226 ++ y229) x9_2 s0_0 t212) else (none))) else (none)) else (none))) else (none))) else (none))) else (none))) else (none)) = some (r1, r2) := H
               have A55 := Aside0.mk A550
               clear A550
               by_cases c56 : y208.length < 8796093022208
               ·rw [if_pos c56] at H
                have LMc56 := Aside0.mk c56
                clear c56
                obtain ⟨y213, hy213⟩ : ∃ y_ : List (S62), y_ = (y208 ++ [(⟨wrap64 (3 + t211), 0⟩ : S62)]) := ⟨_, rfl⟩
                replace H : ((some (([] : List (List (S62))) : List (List (S62)))).bind fun y216 => (if t185 ≤ (x7_2.length : Int) then ((some (x7_2.take (t185 : Int).toNat : List (List (S62)))).bind fun y219 => (if y216.length + y219.length < 5864062014805 then ((some (y216 ++ y219 : List (List (S62)))).bind fun y223 => (if y223.length < 5864062014805 then ((some (y223 ++ [y213] : List (List (S62)))).bind fun y226 => (if 0 ≤ (wrap64 (t185 + 2)) then (if (wrap64 (t185 + 2)) ≤ (x7_2.length : Int) then ((some (x7_2.drop ((wrap64 (t185 + 2)) : Int).toNat : List (List (S62)))).bind fun y229 => (if y226.length + y229.length < 5864062014805 then (spec_l20Term.l1 k2 a2 (y226 ++ y229) x9_2 s0_0 t212) else (none))) else (none)) else (none))) else (none))) else (none))) else (none))) = some (r1, r2) := by first | (rw [hy213]; with_reducible exact H) | (have H2_ := (Option.bind_some _ _).symm.trans H; rw [hy213]; with_reducible exact H2_) | (have H2_ := (Option.bind_some _ _).symm.trans H; with_reducible exact H2_) | with_reducible exact H | (rw [hy213]; exact H) | exact H
                have Ny213 := Aside0.mk hy213
                clear hy213
                obtain ⟨y216, hy216⟩ : ∃ y_ : List (List (S62)), y_ = (([] : List (List (S62)))) := ⟨_, rfl⟩
                replace H : (if t185 ≤ (x7_2.length : Int) then ((some (x7_2.take (t185 : Int).toNat : List (List (S62)))).bind fun y219 => (if y216.length + y219.length < 5864062014805 then ((some (y216 ++ y219 : List (List (S62)))).bind fun y223 => (if y223.length < 5864062014805 then ((some (y223 ++ [y213] : List (List (S62)))).bind fun y226 => (if 0 ≤ (wrap64 (t185 + 2)) then (if (wrap64 (t185 + 2)) ≤ (x7_2.length : Int) then ((some (x7_2.drop ((wrap64 (t185 + 2)) : Int).toNat : List (List (S62)))).bind fun y229 => (if y226.length + y229.length < 5864062014805 then (spec_l20Term.l1 k2 a2 (y226 ++ y229) x9_2 s0_0 t212) else (none))) else (none)) else (none))) else (none))) else (none))) else (none)) = some (r1, r2) := by first | (rw [hy216]; with_reducible exact H) | (have H2_ := (Option.bind_some _ _).symm.trans H; rw [hy216]; with_reducible exact H2_) | (have H2_ := (Option.bind_some _ _).symm.trans H; with_reducible exact H2_) | with_reducible exact H | (rw [hy216]; exact H) | exact H
                have Ny216 := Aside0.mk hy216
                clear hy216
                have c57b0 := eq_true (of_decide_eq_true pwb_ : 0 ≤ t185)
                by_cases c58 : t185 ≤ (x7_2.length : Int)
                ·rw [if_pos c58] at H
                 have c58b0 := eq_true c58
                 have c58b1 : decide (t185 ≤ (x7_2.length : Int)) = true := decide_eq_true c58
                 clear c58
                 obtain ⟨y219, hy219⟩ : ∃ y_ : List (List (S62)), y_ = (x7_2.take (t185 : Int).toNat) := ⟨_, rfl⟩
                 replace H : (if y216.length + y219.length < 5864062014805 then ((some (y216 ++ y219 : List (List (S62)))).bind fun y223 => (if y223.length < 5864062014805 then ((some (y223 ++ [y213] : List (List (S62)))).bind fun y226 => (if 0 ≤ (wrap64 (t185 + 2)) then (if (wrap64 (t185 + 2)) ≤ (x7_2.length : Int) then ((some (x7_2.drop ((wrap64 (t185 + 2)) : Int).toNat : List (List (S62)))).bind fun y229 => (if y226.length + y229.length < 5864062014805 then (spec_l20Term.l1 k2 a2 (y226 ++ y229) x9_2 s0_0 t212) else (none))) else (none)) else (none))) else (none))) else (none)) = some (r1, r2) := by first | (rw [hy219]; with_reducible exact H) | (have H2_ := (Option.bind_some _ _).symm.trans H; rw [hy219]; with_reducible exact H2_) | (have H2_ := (Option.bind_some _ _).symm.trans H; with_reducible exact H2_) | with_reducible exact H | (rw [hy219]; exact H) | exact H
                 have Ny219 := Aside0.mk hy219
                 clear hy219
                 by_cases c59 : y216.length + y219.length < 5864062014805
                 ·rw [if_pos c59] at H
                  have LMc59 := Aside0.mk c59
                  clear c59
                  obtain ⟨y223, hy223⟩ : ∃ y_ : List (List (S62)), y_ = (y216 ++ y219) := ⟨_, rfl⟩
                  replace H : (if y223.length < 5864062014805 then ((some (y223 ++ [y213] : List (List (S62)))).bind fun y226 => (if 0 ≤ (wrap64 (t185 + 2)) then (if (wrap64 (t185 + 2)) ≤ (x7_2.length : Int) then ((some (x7_2.drop ((wrap64 (t185 + 2)) : Int).toNat : List (List (S62)))).bind fun y229 => (if y226.length + y229.length < 5864062014805 then (spec_l20Term.l1 k2 a2 (y226 ++ y229) x9_2 s0_0 t212) else (none))) else (none)) else (none))) else (none)) = some (r1, r2) := by first | (rw [hy223]; with_reducible exact H) | (have H2_ := (Option.bind_some _ _).symm.trans H; rw [hy223]; with_reducible exact H2_) | (have H2_ := (Option.bind_some _ _).symm.trans H; with_reducible exact H2_) | with_reducible exact H | (rw [hy223]; exact H) | exact H
                  have Ny223 := Aside0.mk hy223
                  clear hy223
                  by_cases c60 : y223.length < 5864062014805
                  ·rw [if_pos c60] at H
                   have LMc60 := Aside0.mk c60
                   clear c60
                   obtain ⟨y226, hy226⟩ : ∃ y_ : List (List (S62)), y_ = (y223 ++ [y213]) := ⟨_, rfl⟩
                   replace H : (if 0 ≤ (wrap64 (t185 + 2)) then (if (wrap64 (t185 + 2)) ≤ (x7_2.length : Int) then ((some (x7_2.drop ((wrap64 (t185 + 2)) : Int).toNat : List (List (S62)))).bind fun y229 => (if y226.length + y229.length < 5864062014805 then (spec_l20Term.l1 k2 a2 (y226 ++ y229) x9_2 s0_0 t212) else (none))) else (none)) else (none)) = some (r1, r2) := by first | (rw [hy226]; with_reducible exact H) | (have H2_ := (Option.bind_some _ _).symm.trans H; rw [hy226]; with_reducible exact H2_) | (have H2_ := (Option.bind_some _ _).symm.trans H; with_reducible exact H2_) | with_reducible exact H | (rw [hy226]; exact H) | exact H
                   have Ny226 := Aside0.mk hy226
                   clear hy226
                   by_cases c61 : 0 ≤ (wrap64 (t185 + 2))
                   ·rw [if_pos c61] at H
                    have c61b0 := eq_true c61
                    have c61b1 : decide (0 ≤ (wrap64 (t185 + 2))) = true := decide_eq_true c61
                    by_cases c62 : (wrap64 (t185 + 2)) ≤ (x7_2.length : Int)
                    ·rw [if_pos c62] at H
                     have c62b0 := eq_true c62
                     have c62b1 : decide ((wrap64 (t185 + 2)) ≤ (x7_2.length : Int)) = true := decide_eq_true c62
                     obtain ⟨y229, hy229⟩ : ∃ y_ : List (List (S62)), y_ = (x7_2.drop ((wrap64 (t185 + 2)) : Int).toNat) := ⟨_, rfl⟩
                     replace H : (if y226.length + y229.length < 5864062014805 then (spec_l20Term.l1 k2 a2 (y226 ++ y229) x9_2 s0_0 t212) else (none)) = some (r1, r2) := by first | (rw [hy229]; with_reducible exact H) | (have H2_ := (Option.bind_some _ _).symm.trans H; rw [hy229]; with_reducible exact H2_) | (have H2_ := (Option.bind_some _ _).symm.trans H; with_reducible exact H2_) | with_reducible exact H | (rw [hy229]; exact H) | exact H
                     have Ny229 := Aside0.mk hy229
                     clear hy229
                     by_cases c63 : y226.length + y229.length < 5864062014805
                     ·rw [if_pos c63] at H
                      have LMc63 := Aside0.mk c63
                      clear c63
                      obtain ⟨y233, hy233⟩ : ∃ y_ : List (List (S62)), y_ = (y226 ++ y229) := ⟨_, rfl⟩
                      replace H : (spec_l20Term.l1 k2 a2 y233 x9_2 s0_0 t212) = some (r1, r2) := by first | (rw [hy233]; with_reducible exact H) | (have H2_ := (Option.bind_some _ _).symm.trans H; rw [hy233]; with_reducible exact H2_) | (have H2_ := (Option.bind_some _ _).symm.trans H; with_reducible exact H2_) | with_reducible exact H | (rw [hy233]; exact H) | exact H
                      have Ny233 := Aside0.mk hy233
                      clear hy233
                      have H' := Aside0.mk H
                      clear H
                      obtain ⟨Ao64, co64, eo64⟩ := Kd.R_slice HO_7.out
                      subst eo64
                      try go_wp2_with (first | ((with_reducible refine gate_callee (f := 60) rfl ?_); refine goesL_ (some 52) rfl rfl Try.func60 (by kernel_rfl) rfl #[.pointer (some ⟨g, 0, none⟩), .int .i64 (wrap64 ((x7_2.length : Int) - 1))] rfl pwi_ ?_; (with_reducible refine (spec_l20Rd_pick.calls k2 g s0_0 x1001_2 (wrap64 ((x7_2.length : Int) - 1)) t185 t186 w0 _ ?side1 ?side2 A30.out).mono ?_); (case side1 => repeat (first | (with_reducible first | exact HI0.out | apply IsS103.alloc | apply IsS103.drewN | apply IsS103.drew | apply IsS103.set_1) | exact HI0.out)); (case side2 => repeat (first | (with_reducible first | exact HB.out | apply below_alloc | apply pw_below_drewN | apply below_drew1 | refine below_set ?_ (IsS103.ge HI0.out)) | exact HB.out)); rintro e w65 ⟨rfl, hi, hb, hk⟩; refine ⟨_, rfl, ?_⟩; have n0_ := Aside0.mk (Kd.R_mono (Kd.R_keep (IsS103.apart (show IsS103 w0 _ g s0_0 x1001_2 from by repeat (first | (with_reducible first | exact HI0.out | apply IsS103.alloc | apply IsS103.drewN | apply IsS103.drew | apply IsS103.set_1) | exact HI0.out)) pwd_ (by decide)) hk (fun _ h => h.2)) (fun _ h => h.1)); have n1_ := Aside0.mk (KeepBut.trans pwj_ hk (.inl rfl)); have n2_ := Aside0.mk (hb); have n3_ := Aside0.mk (hi); clear HO_7; clear HK; clear HB; clear HI0; have HO_7 := n0_; have HK := n1_; have HB := n2_; have HI0 := n3_; clear n0_ n1_ n2_ n3_; (try clear hb); (try clear hb2); (try clear hk); (try clear hi)) | (go_at_call 60; (with_reducible refine (spec_l20Rd_pick.calls k2 g s0_0 t186 4 t187 t188 w0 _ ?side1 ?side2 A32.out).mono ?_); (case side1 => repeat (first | (with_reducible first | exact HI0.out | apply IsS103.alloc | apply IsS103.drewN | apply IsS103.drew | apply IsS103.set_1) | exact HI0.out)); (case side2 => repeat (first | (with_reducible first | exact HB.out | apply below_alloc | apply pw_below_drewN | apply below_drew1 | refine below_set ?_ (IsS103.ge HI0.out)) | exact HB.out)); rintro e w66 ⟨rfl, hi, hb, hk⟩; have n0_ := Aside0.mk (Kd.R_mono (Kd.R_keep (IsS103.apart (show IsS103 w0 _ g s0_0 t186 from by repeat (first | (with_reducible first | exact HI0.out | apply IsS103.alloc | apply IsS103.drewN | apply IsS103.drew | apply IsS103.set_1) | exact HI0.out)) pwd_ (by decide)) hk (fun _ h => h.2)) (fun _ h => h.1)); have n1_ := Aside0.mk (KeepBut.trans pwj_ hk (.inl rfl)); have n2_ := Aside0.mk (hb); have n3_ := Aside0.mk (hi); clear HO_7; clear HK; clear HB; clear HI0; have HO_7 := n0_; have HK := n1_; have HB := n2_; have HI0 := n3_; clear n0_ n1_ n2_ n3_; (try clear hb); (try clear hb2); (try clear hk); (try clear hi)))
                      have n0_ := Aside0.mk (Kd.R_drew HO_7.out)
                      have n1_ := Aside0.mk (IsS103.drew HI0.out)
                      have n2_ := Aside0.mk (keep_drew HK.out)
                      have n3_ := Aside0.mk (below_drew1 HB.out)
                      clear HO_7
                      clear HI0
                      clear HK
                      clear HB
                      have HO_7 := n0_
                      have HI0 := n1_
                      have HK := n2_
                      have HB := n3_
                      clear n0_ n1_ n2_ n3_
                      have p203 : 0 ≤ (t185 : Int) := of_decide_eq_true pwb_
                      have q203 : t185 < (x7_2.length : Int) := of_decide_eq_true pwb_
                      obtain ⟨ad203, A203_0, c203_0, e203, hx203_0, hl203_0, hi203_0⟩ := at_L3 (Kd.R_reads' HO_7.out).2.2 t185 p203 q203
                      cases e203
                      obtain ⟨ce203, hce203, hMe203, hcc203⟩ := Kd.R_get HO_7.out [] t185 p203 (by first | exact q203 | exact of_decide_eq_true pwb_ | (have e_ := (Kd.R_reads' HO_7.out).1; omega))
                      obtain ⟨ve203_0, rfl, ge203_0⟩ := hMe203
                      have hv203_0 := hcc203 0 _ rfl
                      rw [Nat.add_zero, show ((Kd.slice 62 k62)).sz = 1 from rfl, Nat.mul_one] at hv203_0
                      replace hv203_0 := Option.some.inj (hv203_0.symm.trans hx203_0)
                      rw [hv203_0] at ge203_0
                      have HL203_0 := Aside0.mk (show Kd.R k62 62 _ _ _ _ (rd_L3 x7_2 t185) from ge203_0)
                      clear hv203_0 ge203_0
                      clear hcc203 hce203
                      have HR203_0 := Aside0.mk hi203_0
                      have HC203_0 := Aside0.mk hl203_0
                      clear hi203_0 hl203_0
                      replace p203 := eq_true p203
                      replace q203 := eq_true q203
                      have p207 : 0 ≤ ((ji51) : Int) := of_decide_eq_true pwb_
                      have q207 : (ji51) < (x7_2.length : Int) := of_decide_eq_true pwb_
                      obtain ⟨ad207, A207_0, c207_0, e207, hx207_0, hl207_0, hi207_0⟩ := at_L3 (Kd.R_reads' HO_7.out).2.2 (ji51) p207 q207
                      obtain rfl : ad203 = ad207 := (by injection e207)
                      obtain ⟨ce207, hce207, hMe207, hcc207⟩ := Kd.R_get HO_7.out [] (ji51) p207 (by first | exact q207 | exact of_decide_eq_true pwb_ | (have e_ := (Kd.R_reads' HO_7.out).1; omega))
                      obtain ⟨ve207_0, rfl, ge207_0⟩ := hMe207
                      have hv207_0 := hcc207 0 _ rfl
                      rw [Nat.add_zero, show ((Kd.slice 62 k62)).sz = 1 from rfl, Nat.mul_one] at hv207_0
                      replace hv207_0 := Option.some.inj (hv207_0.symm.trans hx207_0)
                      rw [hv207_0] at ge207_0
                      have HL207_0 := Aside0.mk (show Kd.R k62 62 _ _ _ _ (rd_L3 x7_2 (ji51)) from ge207_0)
                      clear hv207_0 ge207_0
                      clear hcc207 hce207
                      have HR207_0 := Aside0.mk hi207_0
                      have HC207_0 := Aside0.mk hl207_0
                      clear hi207_0 hl207_0
                      replace p207 := eq_true p207
                      replace q207 := eq_true q207
                      refine start_ (n := 19) (S := fun w' => w'.cell? (ad203.add (t185).toNat) = some (.slice A203_0 (rd_L3 x7_2 t185).length c203_0) ∧ w'.cell? (ad203.add ((ji51)).toNat) = some (.slice A207_0 (rd_L3 x7_2 (ji51)).length c207_0)) (ds := [16]) #[false, false, false, false, false, false, false, false, false, false, false, false, false, false, false, false, false, false, false] (by kernel_rfl) rfl rfl ⟨hx203_0, hx207_0⟩ (fun hHeld => ?_); refine with_tabW spec_l20Term.tab15 spec_l20Term.bits15 (fun HT_ HW_ => ?_)
                      generalize w66.drew = w67 at HO_7 HI0 HK HB HL203_0 HL207_0 HR203_0 HR207_0 hx203_0 hx207_0 hHeld ⊢
                      refine pure_ (i := 1) (N := some 75) (v := ?_) (a' := ?_) #[false, true, false, false, false, false, false, false, false, false, false, false, false, false, false, false, false, false, false] rfl rfl (any_of HT_.out (by kernel_rfl)) (fun _ _ _ h => h) (Or.inl ⟨by rfl, ?_⟩) ?_ ?_
                      rotate_left
                      ·intro w'
                       go_simp
                       with_reducible rfl
                      rotate_left
                      ·simp only [Act.put, List.setIfInBounds_toArray, List.set_cons_zero, List.set_cons_succ, i64_w, i32_w]
                       rfl
                      refine pure_ (i := 2) (N := some 76) (v := ?_) (a' := ?_) #[false, true, true, false, false, false, false, false, false, false, false, false, false, false, false, false, false, false, false] rfl rfl (any_of HT_.out (by kernel_rfl)) (fun _ _ _ h => h) (Or.inl ⟨by rfl, ?_⟩) ?_ ?_
                      rotate_left
                      ·intro w'
                       go_simp
                       with_reducible rfl
                      rotate_left
                      ·simp only [Act.put, List.setIfInBounds_toArray, List.set_cons_zero, List.set_cons_succ, i64_w, i32_w]
                       rfl
                      refine pure_ (i := 3) (N := some 77) (v := ?_) (a' := ?_) #[false, true, true, true, false, false, false, false, false, false, false, false, false, false, false, false, false, false, false] rfl rfl (any_of HT_.out (by kernel_rfl)) (fun _ _ _ h => h) (Or.inl ⟨by rfl, ?_⟩) ?_ ?_
                      rotate_left
                      ·intro w'
                       go_simp
                       with_reducible rfl
                      rotate_left
                      ·simp only [Act.put, List.setIfInBounds_toArray, List.set_cons_zero, List.set_cons_succ, i64_w, i32_w]
                       rfl
                      refine pure_ (i := 6) (N := some 80) (v := ?_) (a' := ?_) #[false, true, true, true, false, false, true, false, false, false, false, false, false, false, false, false, false, false, false] rfl rfl (any_of HT_.out (by kernel_rfl)) (fun _ _ _ h => h) (Or.inl ⟨by rfl, ?_⟩) ?_ ?_
                      rotate_left
                      ·intro w'
                       go_simp
                       with_reducible rfl
                      rotate_left
                      ·simp only [Act.put, List.setIfInBounds_toArray, List.set_cons_zero, List.set_cons_succ, i64_w, i32_w]
                       rfl
                      refine pure_ (i := 7) (N := some 81) (v := ?_) (a' := ?_) #[false, true, true, true, false, false, true, true, false, false, false, false, false, false, false, false, false, false, false] rfl rfl (any_of HT_.out (by kernel_rfl)) (fun _ _ _ h => h) (Or.inl ⟨by rfl, ?_⟩) ?_ ?_
                      rotate_left
                      ·intro w'
                       go_simp
                       with_reducible rfl
                      rotate_left
                      ·simp only [Act.put, List.setIfInBounds_toArray, List.set_cons_zero, List.set_cons_succ, i64_w, i32_w]
                       rfl
                      refine pure_ (i := 8) (N := some 82) (v := ?_) (a' := ?_) #[false, true, true, true, false, false, true, true, true, false, false, false, false, false, false, false, false, false, false] rfl rfl (any_of HT_.out (by kernel_rfl)) (fun _ _ _ h => h) (Or.inl ⟨by rfl, ?_⟩) ?_ ?_
                      rotate_left
                      ·intro w'
                       go_simp
                       with_reducible rfl
                      rotate_left
                      ·simp only [Act.put, List.setIfInBounds_toArray, List.set_cons_zero, List.set_cons_succ, i64_w, i32_w]
                       rfl
                      refine pure_ (i := 9) (N := some 83) (v := ?_) (a' := ?_) #[false, true, true, true, false, false, true, true, true, true, false, false, false, false, false, false, false, false, false] rfl rfl (any_of HT_.out (by kernel_rfl)) (fun _ _ _ h => h) (Or.inl ⟨by rfl, ?_⟩) ?_ ?_
                      rotate_left
                      ·intro w'
                       go_simp
                       with_reducible rfl
                      rotate_left
                      ·simp only [Act.put, List.setIfInBounds_toArray, List.set_cons_zero, List.set_cons_succ, i64_w, i32_w]
                       rfl
                      refine pure_ (i := 12) (N := some 86) (v := ?_) (a' := ?_) #[false, true, true, true, false, false, true, true, true, true, false, false, true, false, false, false, false, false, false] rfl rfl (any_of HT_.out (by kernel_rfl)) (fun _ _ _ h => h) (Or.inl ⟨by rfl, ?_⟩) ?_ ?_
                      rotate_left
                      ·intro w'
                       go_simp
                       with_reducible rfl
                      rotate_left
                      ·simp only [Act.put, List.setIfInBounds_toArray, List.set_cons_zero, List.set_cons_succ, i64_w, i32_w]
                       rfl
                      refine take_ (i := 4) (N := some 78) (v := ?_) (a' := ?_) #[false, true, true, true, true, false, true, true, true, true, false, false, true, false, false, false, false, false, false] rfl rfl (take_ofW HT_.out HW_.out (by kernel_rfl)) (fun _ _ _ h => h) (Or.inl ⟨by rfl, ?_⟩) hHeld ?_ ?_
                      rotate_left
                      ·rintro w' ⟨s0, s1⟩
                       go_simp
                       with_reducible rfl
                      rotate_left
                      ·simp only [Act.put, List.setIfInBounds_toArray, List.set_cons_zero, List.set_cons_succ, i64_w, i32_w]
                       rfl
                      refine take_ (i := 10) (N := some 84) (v := ?_) (a' := ?_) #[false, true, true, true, true, false, true, true, true, true, true, false, true, false, false, false, false, false, false] rfl rfl (take_ofW HT_.out HW_.out (by kernel_rfl)) (fun _ _ _ h => h) (Or.inl ⟨by rfl, ?_⟩) hHeld ?_ ?_
                      rotate_left
                      ·rintro w' ⟨s0, s1⟩
                       go_simp
                       with_reducible rfl
                      rotate_left
                      ·simp only [Act.put, List.setIfInBounds_toArray, List.set_cons_zero, List.set_cons_succ, i64_w, i32_w]
                       rfl
                      refine one_ (i := 0) (N := some 74) #[true, true, true, true, true, false, true, true, true, true, true, false, true, false, false, false, false, false, false] rfl rfl (one_of HT_.out (by kernel_rfl)) (by decide) (fun K hK => ?_)
                      refine Kd.R_lit_step k62 _ 62 ?hg (N := 74) ?hd (xs := ([] : List (S62))) (inner := []) (ok := fun _ => True) (okp := fun _ => True) ?hr ?hp (fun _ hk => hk) trivial (Below.refl _ _) (Nat.le_refl _) (by simp) ?_; (case hd => rfl); (case hg => rfl); (case hr => first | (go_simp; done) | (go_simp; rfl)); (case hp => exact (Reps.none _ _))
                      intro v201 w68 ho69 hb hg_ hnew_
                      have HS0_ := (hb.cell (World.block_lt_of_cell? _ _ (hHeld.1))).trans (hHeld.1)
                      have HS1_ := (hb.cell (World.block_lt_of_cell? _ _ (hHeld.2))).trans (hHeld.2)
                      clear hg_ hnew_
                      (first | rw [← Ny200.out] at ho69 | (simp only [Int.reduceToNat] at ho69; rw [← Ny200.out] at ho69))
                      have n0_ := Aside0.mk (Kd.R_elder' pwd_ (Kd.R_base ho69) hb)
                      have n1_ := Aside0.mk (Kd.R_elder' (by (with_reducible repeat apply Kd.R_alloc); exact HL203_0.out) (Kd.R_base ho69) hb)
                      have n2_ := Aside0.mk (Kd.R_elder' (by (with_reducible repeat apply Kd.R_alloc); exact HL207_0.out) (Kd.R_base ho69) hb)
                      have n3_ := Aside0.mk (Kd.R_lower (Kd.R_new' (Kd.R_new' ho69 (Kd.R_lt (by (with_reducible repeat apply Kd.R_alloc); exact HL203_0.out))) (Kd.R_lt (by (with_reducible repeat apply Kd.R_alloc); exact HL207_0.out))) (keep_size (w := w) (g := g) (row := none) pwj_))
                      have n4_ := Aside0.mk (IsS103.below pwk_ hb)
                      have n5_ := Aside0.mk (Kd.C_below (by repeat (first | (with_reducible exact HR203_0.out) | (with_reducible refine Kd.C_alloc ?_ _) | (with_reducible refine Kd.C_drewN ?_ _) | (with_reducible refine Kd.C_drew ?_) | exact HR203_0.out)) hb)
                      have n6_ := Aside0.mk (Kd.C_below (by repeat (first | (with_reducible exact HR207_0.out) | (with_reducible refine Kd.C_alloc ?_ _) | (with_reducible refine Kd.C_drewN ?_ _) | (with_reducible refine Kd.C_drew ?_) | exact HR207_0.out)) hb)
                      have n7_ := Aside0.mk (KeepBut.trans pwj_ (KeepBut.of_below hb g none) (.inl rfl))
                      have n8_ := Aside0.mk (below_step pwm_ hb)
                      clear HO_7
                      clear HL203_0
                      clear HL207_0
                      clear HI0
                      clear HR203_0
                      clear HR207_0
                      clear HK
                      clear HB
                      have HO_7 := n0_
                      have HL203_0 := n1_
                      have HL207_0 := n2_
                      have HO202 := n3_
                      have HI0 := n4_
                      have HR203_0 := n5_
                      have HR207_0 := n6_
                      have HK := n7_
                      have HB := n8_
                      clear n0_ n1_ n2_ n3_ n4_ n5_ n6_ n7_ n8_
                      clear hb ho69
                      refine hK.out _ _ ⟨HS0_, HS1_⟩ (fun hHeld => ?_)
                      clear hK K
                      refine norm_ (a' := ?_) ?_ ?_
                      rotate_left
                      ·show Act.put _ (some 74) _ = _
                       simp only [Act.put, List.setIfInBounds_toArray, List.set_cons_zero, List.set_cons_succ, i64_w, i32_w]
                       rfl
                      refine one_ (i := 5) (N := some 79) #[true, true, true, true, true, true, true, true, true, true, true, false, true, false, false, false, false, false, false] rfl rfl (one_of HT_.out (by kernel_rfl)) (by decide) (fun K hK => ?_)
                      refine Kd.R_append_rows_step k62 w.heap.size (by rfl) (.tmp 74) (.tmp 78) 25 62 (.agg #[(.int .i64 0), (.int .i64 0)]) 16 rfl Try.underlying25 info62 rfl (by decide) (by omega) v201 y200 (rd_L3 x7_2 t185) _ _ _ (fun k_ => some k_ ≠ (.slice A203_0 (rd_L3 x7_2 t185).length c203_0 : Value).ownBlock ∧ some k_ ≠ (.slice A207_0 (rd_L3 x7_2 (ji51)).length c207_0 : Value).ownBlock) (fun _ => False) rfl rfl ?aO ?aR (fun _ _ h => h) (fun _ h => h.elim) ?aF (Below.refl _ _) ?aS ?aL ?_
                      (case aR => repeat (first | exact (by repeat (first | (with_reducible exact HR203_0.out) | (with_reducible refine Kd.C_alloc ?_ _) | (with_reducible refine Kd.C_drewN ?_ _) | (with_reducible refine Kd.C_drew ?_) | exact HR203_0.out)) | (with_reducible refine Kd.C_alloc ?_ _) | (with_reducible refine Kd.C_drewN ?_ _) | (with_reducible refine Kd.C_drew ?_)))
                      (case aF => exact (fun k_ hk => ⟨Kd.fresh' (Kd.R_lt (by (with_reducible repeat apply Kd.R_alloc); exact HL203_0.out)) k_ hk, Kd.fresh' (Kd.R_lt (by (with_reducible repeat apply Kd.R_alloc); exact HL207_0.out)) k_ hk⟩))
                      (case aO => exact (by (with_reducible repeat apply Kd.R_alloc); exact Kd.R_mono HO202.out (fun _ hk => ⟨hk.1.2, hk.2⟩)))
                      (case aS => exact (keep_size (w := w) (g := g) (row := none) pwj_))
                      (case aL => have := LMc50.out; omega)
                      intro v205 w70 ho hb hg hat
                      have HS0_ := cell_grown hg (hHeld.1) (by first | (rw [add_block]; exact ((HO_7.out.1 _ rfl).2)) | (show some (Addr.add _ _).block ≠ _; rw [add_block]; exact ((HO_7.out.1 _ rfl).2)) | exact ((HO_7.out.1 _ rfl).2))
                      have HS1_ := cell_grown hg (hHeld.2) (by first | (rw [add_block]; exact ((HO_7.out.1 _ rfl).2)) | (show some (Addr.add _ _).block ≠ _; rw [add_block]; exact ((HO_7.out.1 _ rfl).2)) | exact ((HO_7.out.1 _ rfl).2))
                      rw [← Ny204.out] at ho
                      have n0_ := Aside0.mk (Kd.R_after (ok := (fun _ => True)) pwd_ hg hat)
                      have n1_ := Aside0.mk (IsS103.grown pwk_ hg (IsS103.own_ne HI0.out HO202.out (by decide)))
                      have n2_ := Aside0.mk (Kd.R_after (ok := (fun k_ => some k_ ≠ (.slice (some ad203) x7_2.length co64 : Value).ownBlock)) (by (with_reducible repeat apply Kd.R_alloc); exact Kd.R_mono HL203_0.out (fun _ hk => ⟨hk.1.2, hk.2⟩)) hg hat)
                      have n3_ := Aside0.mk (Kd.R_after (ok := (fun k_ => some k_ ≠ (.slice (some ad203) x7_2.length co64 : Value).ownBlock)) (by (with_reducible repeat apply Kd.R_alloc); exact Kd.R_mono HL207_0.out (fun _ hk => ⟨hk.1.2, hk.2⟩)) hg hat)
                      have n4_ := Aside0.mk (below_weaken pwm_ HL.out hb)
                      have n5_ := Aside0.mk (KeepBut.trans pwj_ (KeepBut.of_grown hg g) (Kd.R_base2 HO202.out))
                      have n6_ := Aside0.mk (ho)
                      clear HO_7
                      clear HI0
                      clear HL203_0
                      clear HL207_0
                      clear HB
                      clear HK
                      clear HO202
                      have HO_7 := n0_
                      have HI0 := n1_
                      have HL203_0 := n2_
                      have HL207_0 := n3_
                      have HB := n4_
                      have HK := n5_
                      have HO206 := n6_
                      clear n0_ n1_ n2_ n3_ n4_ n5_ n6_
                      clear ho hb hg hat
                      refine hK.out _ _ ⟨HS0_, HS1_⟩ (fun hHeld => ?_)
                      clear hK K
                      refine norm_ (a' := ?_) ?_ ?_
                      rotate_left
                      ·show Act.put _ (some 79) _ = _
                       simp only [Act.put, List.setIfInBounds_toArray, List.set_cons_zero, List.set_cons_succ, i64_w, i32_w]
                       rfl
                      refine one_ (i := 11) (N := some 85) #[true, true, true, true, true, true, true, true, true, true, true, true, true, false, false, false, false, false, false] rfl rfl (one_of HT_.out (by kernel_rfl)) (by decide) (fun K hK => ?_)
                      refine Kd.R_append_rows_step k62 w.heap.size (by rfl) (.tmp 79) (.tmp 84) 25 62 (.agg #[(.int .i64 0), (.int .i64 0)]) 16 rfl Try.underlying25 info62 rfl (by decide) (by omega) v205 y204 (rd_L3 x7_2 (ji51)) _ _ _ (fun k_ => some k_ ≠ (.slice A203_0 (rd_L3 x7_2 t185).length c203_0 : Value).ownBlock ∧ some k_ ≠ (.slice A207_0 (rd_L3 x7_2 (ji51)).length c207_0 : Value).ownBlock) (fun _ => False) rfl rfl ?aO ?aR (fun _ _ h => h) (fun _ h => h.elim) ?aF (Below.refl _ _) ?aS ?aL ?_
                      (case aR => repeat (first | exact ((Kd.R_reads' (by (with_reducible repeat apply Kd.R_alloc); exact HL207_0.out)).2.2) | (with_reducible refine Kd.C_alloc ?_ _) | (with_reducible refine Kd.C_drewN ?_ _) | (with_reducible refine Kd.C_drew ?_)))
                      (case aF => exact (fun k_ hk => ⟨Kd.fresh' (Kd.R_lt (by (with_reducible repeat apply Kd.R_alloc); exact HL203_0.out)) k_ hk, Kd.fresh' (Kd.R_lt (by (with_reducible repeat apply Kd.R_alloc); exact HL207_0.out)) k_ hk⟩))
                      (case aO => exact (by (with_reducible repeat apply Kd.R_alloc); exact HO206.out))
                      (case aS => exact (keep_size (w := w) (g := g) (row := none) pwj_))
                      (case aL => have := LMc54.out; omega)
                      intro v209 w71 ho hb hg hat
                      have HS0_ := cell_grown hg (hHeld.1) (by first | (rw [add_block]; exact ((HO_7.out.1 _ rfl).2)) | (show some (Addr.add _ _).block ≠ _; rw [add_block]; exact ((HO_7.out.1 _ rfl).2)) | exact ((HO_7.out.1 _ rfl).2))
                      have HS1_ := cell_grown hg (hHeld.2) (by first | (rw [add_block]; exact ((HO_7.out.1 _ rfl).2)) | (show some (Addr.add _ _).block ≠ _; rw [add_block]; exact ((HO_7.out.1 _ rfl).2)) | exact ((HO_7.out.1 _ rfl).2))
                      rw [← Ny208.out] at ho
                      have n0_ := Aside0.mk (Kd.R_after (ok := (fun _ => True)) pwd_ hg hat)
                      have n1_ := Aside0.mk (IsS103.grown pwk_ hg (IsS103.own_ne HI0.out HO206.out (by decide)))
                      have n2_ := Aside0.mk (Kd.R_after (ok := (fun k_ => some k_ ≠ (.slice (some ad203) x7_2.length co64 : Value).ownBlock)) (by (with_reducible repeat apply Kd.R_alloc); exact HL203_0.out) hg hat)
                      have n3_ := Aside0.mk (Kd.R_after (ok := (fun k_ => some k_ ≠ (.slice (some ad203) x7_2.length co64 : Value).ownBlock)) (by (with_reducible repeat apply Kd.R_alloc); exact HL207_0.out) hg hat)
                      have n4_ := Aside0.mk (below_weaken pwm_ HL.out hb)
                      have n5_ := Aside0.mk (KeepBut.trans pwj_ (KeepBut.of_grown hg g) (Kd.R_base2 HO206.out))
                      have n6_ := Aside0.mk (ho)
                      clear HO_7
                      clear HI0
                      clear HL203_0
                      clear HL207_0
                      clear HB
                      clear HK
                      clear HO206
                      have HO_7 := n0_
                      have HI0 := n1_
                      have HL203_0 := n2_
                      have HL207_0 := n3_
                      have HB := n4_
                      have HK := n5_
                      have HO210 := n6_
                      clear n0_ n1_ n2_ n3_ n4_ n5_ n6_
                      clear ho hb hg hat
                      refine hK.out _ _ ⟨HS0_, HS1_⟩ (fun hHeld => ?_)
                      clear hK K
                      refine norm_ (a' := ?_) ?_ ?_
                      rotate_left
                      ·show Act.put _ (some 85) _ = _
                       simp only [Act.put, List.setIfInBounds_toArray, List.set_cons_zero, List.set_cons_succ, i64_w, i32_w]
                       rfl
                      refine one_ (i := 13) (N := some 87) #[true, true, true, true, true, true, true, true, true, true, true, true, true, true, false, false, false, false, false] rfl rfl (one_of HT_.out (by kernel_rfl)) (by decide) (fun K hK => ?_)
                      refine goes_ Try.func60 (by kernel_rfl) rfl #[.pointer (some ⟨g, 0, none⟩), .int .i64 3] (by rfl) rfl rfl pwi_ ?_
                      with_reducible refine (spec_l20Rd_pick.calls k2 g s0_0 t188 3 t211 t212 w0 _ ?side1 ?side2 A55.out).mono ?_
                      (case side1 => repeat (first | (with_reducible first | exact HI0.out | apply IsS103.alloc | apply IsS103.drewN | apply IsS103.drew | apply IsS103.set_1) | exact HI0.out))
                      (case side2 => repeat (first | (with_reducible first | exact HB.out | apply below_alloc | apply pw_below_drewN | apply below_drew1 | refine below_set ?_ (IsS103.ge HI0.out)) | exact HB.out))
                      rintro e w72 ⟨rfl, hi, hb, hk⟩
                      have HS0_ := keep_cell hk (hHeld.1) (by first | (rw [add_block]; exact Kd.own_blk (IsS103.own_ne HI0.out HO_7.out (by decide))) | (show (Addr.add _ _).block ≠ _; rw [add_block]; exact Kd.own_blk (IsS103.own_ne HI0.out HO_7.out (by decide))) | exact Kd.own_blk (IsS103.own_ne HI0.out HO_7.out (by decide)))
                      have HS1_ := keep_cell hk (hHeld.2) (by first | (rw [add_block]; exact Kd.own_blk (IsS103.own_ne HI0.out HO_7.out (by decide))) | (show (Addr.add _ _).block ≠ _; rw [add_block]; exact Kd.own_blk (IsS103.own_ne HI0.out HO_7.out (by decide))) | exact Kd.own_blk (IsS103.own_ne HI0.out HO_7.out (by decide)))
                      refine ⟨_, rfl, ?_⟩
                      have n0_ := Aside0.mk (Kd.R_mono (Kd.R_keep (IsS103.apart (show IsS103 w0 _ g s0_0 t188 from by repeat (first | (with_reducible first | exact HI0.out | apply IsS103.alloc | apply IsS103.drewN | apply IsS103.drew | apply IsS103.set_1) | exact HI0.out)) pwd_ (by decide)) hk (fun _ h => h.2)) (fun _ h => h.1))
                      have n1_ := Aside0.mk (Kd.R_mono (Kd.R_keep (IsS103.apart (show IsS103 w0 _ g s0_0 t188 from by repeat (first | (with_reducible first | exact HI0.out | apply IsS103.alloc | apply IsS103.drewN | apply IsS103.drew | apply IsS103.set_1) | exact HI0.out)) (by (with_reducible repeat apply Kd.R_alloc); exact HL203_0.out) (by decide)) hk (fun _ h => h.2)) (fun _ h => h.1))
                      have n2_ := Aside0.mk (Kd.R_mono (Kd.R_keep (IsS103.apart (show IsS103 w0 _ g s0_0 t188 from by repeat (first | (with_reducible first | exact HI0.out | apply IsS103.alloc | apply IsS103.drewN | apply IsS103.drew | apply IsS103.set_1) | exact HI0.out)) (by (with_reducible repeat apply Kd.R_alloc); exact HL207_0.out) (by decide)) hk (fun _ h => h.2)) (fun _ h => h.1))
                      have n3_ := Aside0.mk (Kd.R_mono (Kd.R_keep (IsS103.apart (show IsS103 w0 _ g s0_0 t188 from by repeat (first | (with_reducible first | exact HI0.out | apply IsS103.alloc | apply IsS103.drewN | apply IsS103.drew | apply IsS103.set_1) | exact HI0.out)) (by (with_reducible repeat apply Kd.R_alloc); exact HO210.out) (by decide)) hk (fun _ h => h.2)) (fun _ h => h.1))
                      have n4_ := Aside0.mk (KeepBut.trans pwj_ hk (.inl rfl))
                      have n5_ := Aside0.mk (hb)
                      have n6_ := Aside0.mk (hi)
                      clear HO_7
                      clear HL203_0
                      clear HL207_0
                      clear HO210
                      clear HK
                      clear HB
                      clear HI0
                      have HO_7 := n0_
                      have HL203_0 := n1_
                      have HL207_0 := n2_
                      have HO210 := n3_
                      have HK := n4_
                      have HB := n5_
                      have HI0 := n6_
                      clear n0_ n1_ n2_ n3_ n4_ n5_ n6_
                      (try clear hb)
                      (try clear hb2)
                      (try clear hk)
                      (try clear hi)
                      refine hK.out _ _ ⟨HS0_, HS1_⟩ (fun hHeld => ?_)
                      clear hK K
                      refine norm_ (a' := ?_) ?_ ?_
                      rotate_left
                      ·show Act.put _ (some 87) _ = _
                       simp only [Act.put, List.setIfInBounds_toArray, List.set_cons_zero, List.set_cons_succ, i64_w, i32_w]
                       rfl
                      refine pure_ (i := 14) (N := some 88) (v := ?_) (a' := ?_) #[true, true, true, true, true, true, true, true, true, true, true, true, true, true, true, false, false, false, false] rfl rfl (any_of HT_.out (by kernel_rfl)) (fun _ _ _ h => h) (Or.inl ⟨by rfl, ?_⟩) ?_ ?_
                      rotate_left
                      ·intro w'
                       go_simp
                       with_reducible rfl
                      rotate_left
                      ·simp only [Act.put, List.setIfInBounds_toArray, List.set_cons_zero, List.set_cons_succ, i64_w, i32_w]
                       rfl
                      refine pure_ (i := 15) (N := some 89) (v := ?_) (a' := ?_) #[true, true, true, true, true, true, true, true, true, true, true, true, true, true, true, true, false, false, false] rfl rfl (any_of HT_.out (by kernel_rfl)) (fun _ _ _ h => h) (Or.inl ⟨by rfl, ?_⟩) ?_ ?_
                      rotate_left
                      ·intro w'
                       go_simp
                       with_reducible rfl
                      rotate_left
                      ·simp only [Act.put, List.setIfInBounds_toArray, List.set_cons_zero, List.set_cons_succ, i64_w, i32_w]
                       rfl
                      refine last_ (i := 16) (N := some 90) #[true, true, true, true, true, true, true, true, true, true, true, true, true, true, true, true, true, false, false] rfl rfl (one_of HT_.out (by kernel_rfl)) (by decide) (fun K hK => ?_)
                      refine value_ (w1 := ?_) (v := ?_) (by rfl) rfl ?_ ?_
                      rotate_left 2
                      ·go_simp
                       constructor
                       ·rfl
                       ·rfl
                      refine hK.out _ _ ?_
                      clear hK K
                      refine norm_ (a' := ?_) ?_ ?_
                      rotate_left
                      ·show Act.put _ (some 90) _ = _
                       simp only [Act.put, List.setIfInBounds_toArray, List.set_cons_zero, List.set_cons_succ, i64_w, i32_w]
                       rfl
                      refine one_ (i := 17) (N := some 91) #[true, true, true, true, true, true, true, true, true, true, true, true, true, true, true, true, true, true, false] rfl rfl (one_of HT_.out (by kernel_rfl)) (by decide) (fun K hK => ?_)
                      refine Kd.R_append_step k62 w.heap.size (by rfl) (.tmp 85) (.tmp 90) 25 62 (.agg #[(.int .i64 0), (.int .i64 0)]) 16 rfl Try.underlying25 info62 rfl (by decide) (by omega) v209 y208 (⟨wrap64 (3 + t211), 0⟩ : S62) [.int .i64 (wrap64 (3 + t211)), .int .i64 0] (fun k_ => some k_ ≠ (.slice A203_0 (rd_L3 x7_2 t185).length c203_0 : Value).ownBlock ∧ some k_ ≠ (.slice A207_0 (rd_L3 x7_2 (ji51)).length c207_0 : Value).ownBlock) (fun _ => False) rfl rfl ?aP (fun _ hk => hk.elim) ?aF ?aO (Below.refl _ _) ?aS ?aL ?_
                      (case aP => exact k62_mkM _ _ _ (⟨wrap64 (3 + t211), 0⟩ : S62))
                      (case aF => exact (fun k_ hk => ⟨Kd.fresh' (Kd.R_lt (by (with_reducible repeat apply Kd.R_alloc); exact HL203_0.out)) k_ hk, Kd.fresh' (Kd.R_lt (by (with_reducible repeat apply Kd.R_alloc); exact HL207_0.out)) k_ hk⟩))
                      (case aO => exact (by (with_reducible repeat apply Kd.R_alloc); exact HO210.out))
                      (case aS => exact (keep_size (w := w) (g := g) (row := none) pwj_))
                      (case aL => have := LMc56.out; omega)
                      intro v214 w73 ho hb hg hat
                      have HS0_ := cell_grown hg (hHeld.1) (by first | (rw [add_block]; exact ((HO_7.out.1 _ rfl).2)) | (show some (Addr.add _ _).block ≠ _; rw [add_block]; exact ((HO_7.out.1 _ rfl).2)) | exact ((HO_7.out.1 _ rfl).2))
                      have HS1_ := cell_grown hg (hHeld.2) (by first | (rw [add_block]; exact ((HO_7.out.1 _ rfl).2)) | (show some (Addr.add _ _).block ≠ _; rw [add_block]; exact ((HO_7.out.1 _ rfl).2)) | exact ((HO_7.out.1 _ rfl).2))
                      rw [← Ny213.out] at ho
                      have n0_ := Aside0.mk (Kd.R_after (ok := (fun _ => True)) pwd_ hg hat)
                      have n1_ := Aside0.mk (IsS103.grown pwk_ hg (IsS103.own_ne HI0.out HO210.out (by decide)))
                      have n2_ := Aside0.mk (Kd.R_after (ok := (fun k_ => some k_ ≠ (.slice (some ad203) x7_2.length co64 : Value).ownBlock)) (by (with_reducible repeat apply Kd.R_alloc); exact HL203_0.out) hg hat)
                      have n3_ := Aside0.mk (Kd.R_after (ok := (fun k_ => some k_ ≠ (.slice (some ad203) x7_2.length co64 : Value).ownBlock)) (by (with_reducible repeat apply Kd.R_alloc); exact HL207_0.out) hg hat)
                      have n4_ := Aside0.mk (below_weaken pwm_ HL.out hb)
                      have n5_ := Aside0.mk (KeepBut.trans pwj_ (KeepBut.of_grown hg g) (Kd.R_base2 HO210.out))
                      have n6_ := Aside0.mk (ho)
                      clear HO_7
                      clear HI0
                      clear HL203_0
                      clear HL207_0
                      clear HB
                      clear HK
                      clear HO210
                      have HO_7 := n0_
                      have HI0 := n1_
                      have HL203_0 := n2_
                      have HL207_0 := n3_
                      have HB := n4_
                      have HK := n5_
                      have HO215 := n6_
                      clear n0_ n1_ n2_ n3_ n4_ n5_ n6_
                      clear ho hb hg hat
                      refine hK.out _ _ ⟨HS0_, HS1_⟩ (fun hHeld => ?_)
                      clear hK K
                      refine norm_ (a' := ?_) ?_ ?_
                      rotate_left
                      ·show Act.put _ (some 91) _ = _
                       simp only [Act.put, List.setIfInBounds_toArray, List.set_cons_zero, List.set_cons_succ, i64_w, i32_w]
                       rfl
                      refine pure_ (i := 18) (N := some 11) (v := ?_) (a' := ?_) #[true, true, true, true, true, true, true, true, true, true, true, true, true, true, true, true, true, true, true] rfl rfl (any_of HT_.out (by kernel_rfl)) (fun _ _ _ h => h) (Or.inl ⟨by rfl, ?_⟩) ?_ ?_
                      rotate_left
                      ·intro w'
                       go_simp
                       with_reducible rfl
                      rotate_left
                      ·simp only [Act.put, List.setIfInBounds_toArray, List.set_cons_zero, List.set_cons_succ, i64_w, i32_w]
                       rfl
                      refine done_ (done_of HT_.out (by kernel_rfl)) ?_
                      try go_wp2_with (first | ((with_reducible refine gate_dst (N := 92) rfl ?_); refine Kd.R_lit (Kd.slice 62 k62) _ 25 ?hg (N := 92) ?hd (xs := ([] : List (List (S62)))) (inner := []) (ok := fun _ => True) (okp := fun _ => True) ?hr ?hp (fun _ hk => hk) trivial (Below.refl _ _) (Nat.le_refl _) (by simp) ?_; (case hd => rfl); (case hg => rfl); (case hr => first | (go_simp; done) | (go_simp; rfl)); (case hp => exact (Reps.none _ _)); intro v217 w74 ho75 hb hg_ hnew_; clear hg_ hnew_; (first | rw [← Ny216.out] at ho75 | (simp only [Int.reduceToNat] at ho75; rw [← Ny216.out] at ho75)); have n0_ := Aside0.mk (Kd.R_elder' pwd_ (Kd.R_base ho75) hb); have n1_ := Aside0.mk (Kd.R_below (by (with_reducible repeat apply Kd.R_alloc); exact HL203_0.out) hb); have n2_ := Aside0.mk (Kd.R_below (by (with_reducible repeat apply Kd.R_alloc); exact HL207_0.out) hb); have n3_ := Aside0.mk (Kd.R_below (by (with_reducible repeat apply Kd.R_alloc); exact HO215.out) hb); have n4_ := Aside0.mk (Kd.R_lower (Kd.R_new' (Kd.R_new' (Kd.R_new' (Kd.R_new' ho75 (Kd.R_lt pwd_)) (Kd.R_lt (by (with_reducible repeat apply Kd.R_alloc); exact HL203_0.out))) (Kd.R_lt (by (with_reducible repeat apply Kd.R_alloc); exact HL207_0.out))) (Kd.R_lt (by (with_reducible repeat apply Kd.R_alloc); exact HO215.out))) (keep_size (w := w) (g := g) (row := none) pwj_)); have n5_ := Aside0.mk (IsS103.below pwk_ hb); have n6_ := Aside0.mk (KeepBut.trans pwj_ (KeepBut.of_below hb g none) (.inl rfl)); have n7_ := Aside0.mk (below_step pwm_ hb); clear HO_7; clear HL203_0; clear HL207_0; clear HO215; clear HI0; clear HK; clear HB; have HO_7 := n0_; have HL203_0 := n1_; have HL207_0 := n2_; have HO215 := n3_; have HO218 := n4_; have HI0 := n5_; have HK := n6_; have HB := n7_; clear n0_ n1_ n2_ n3_ n4_ n5_ n6_ n7_; clear hb ho75; have q76 : (t185 : Int) ≤ ((x7_2.length : Int) : Int) := of_decide_eq_true pwb_; obtain ⟨i076, hi076, _, hsz76, _⟩ := info_parts info25; have hroom76 : x7_2.length ≤ co64 := (Kd.R_reads' HO_7.out).2.1; have hC76 : Kd.C (Kd.slice 62 k62) _ (some ad203) x7_2.length x7_2 := (Kd.R_reads' HO_7.out).2.2; have hcut76 := cut_to (P := Try.prog) 104 25 .i64 Try.underlying104 hi076 (some ad203) x7_2.length co64 t185 (of_decide_eq_true pwb_) q76 hroom76; have hr76 := Kd.C_take (m := (t185 : Int).toNat) hC76 (by omega); have hy76 : y219.length = (t185 : Int).toNat := (by rw [Ny219.out, List.length_take]; omega); rw [← Ny219.out] at hr76; rw [← hy76] at hcut76; have HR222 := Aside0.mk hr76; have HC222 := Aside0.mk (show y219.length ≤ co64 from by omega); clear hr76 hC76 hroom76 hi076 hsz76; have KY76 := Aside0.mk hy76; clear hy76; have KL76 := Aside0.mk (show (t185 : Int).toNat ≤ x7_2.length from by omega); replace q76 := eq_true q76) | ((with_reducible refine gate_builtin (b := .append) (xs := #[.tmp 92, .tmp 95]) rfl ?_); at_builtin; refine Kd.R_append_rows (Kd.slice 62 k62) w.heap.size rfl (.tmp 92) (.tmp 95) 104 25 (.slice none 0 0) 24 rfl Try.underlying104 info25 rfl (by decide) (by omega) v217 y216 y219 _ _ _ (fun k_ => some k_ ≠ (.slice (some ad203) x7_2.length co64 : Value).ownBlock ∧ some k_ ≠ (v214 : Value).ownBlock) (fun k_ => ((fun k_ => some k_ ≠ (.slice (some ad203) x7_2.length co64 : Value).ownBlock ∧ some k_ ≠ (v214 : Value).ownBlock)) k_ ∧ some k_ ≠ (v217 : Value).ownBlock) rfl rfl ?aO ?aR (fun _ _ h => h) (fun _ hk => hk) ?aF (Below.refl _ _) ?aS ?aL ?_; (case aR => rw [Ny219.out]; exact Kd.C_take (m := (t185 : Int).toNat) (Kd.R_frozen (okp := (fun k_ => ((fun k_ => some k_ ≠ (.slice (some ad203) x7_2.length co64 : Value).ownBlock ∧ some k_ ≠ (v214 : Value).ownBlock)) k_ ∧ some k_ ≠ (v217 : Value).ownBlock)) (HO_7.out) (fun k_ hk => ⟨⟨hk.2, hk.1.1.2⟩, hk.1.2⟩)).2.2 KL76.out); (case aF => exact (fun k_ hk => ⟨Kd.fresh' (Kd.R_lt pwd_) k_ hk, Kd.fresh' (Kd.R_lt (by (with_reducible repeat apply Kd.R_alloc); exact HO215.out)) k_ hk⟩)); (case aO => exact (by (with_reducible repeat apply Kd.R_alloc); exact Kd.R_mono HO218.out (fun _ hk => ⟨hk.1.1.1.2, hk.2⟩))); (case aS => exact (keep_size (w := w) (g := g) (row := none) pwj_)); (case aL => have := LMc59.out; omega); intro v224 w77 ho hb hg hat; rw [← Ny223.out] at ho; have n0_ := Aside0.mk (Kd.R_after (ok := (fun k_ => some k_ ≠ (v214 : Value).ownBlock)) (by (with_reducible repeat apply Kd.R_alloc); exact Kd.R_mono HO_7.out (fun _ hk => ⟨hk.1.2, hk.2⟩)) hg hat); have n1_ := Aside0.mk (IsS103.grown pwk_ hg (IsS103.own_ne HI0.out HO218.out (by decide))); have n2_ := Aside0.mk (Kd.R_over' (by (with_reducible repeat apply Kd.R_alloc); exact HO215.out) (Kd.R_typed (by (with_reducible repeat apply Kd.R_alloc); exact HO218.out)) (by decide) hg); have n3_ := Aside0.mk (below_weaken pwm_ HL.out hb); have n4_ := Aside0.mk (KeepBut.trans pwj_ (KeepBut.of_grown hg g) (Kd.R_base2 HO218.out)); have n5_ := Aside0.mk ((show Kd.C (Kd.slice 62 k62) w77 (some ad203) y219.length y219 from by rw [Ny219.out]; exact Kd.C_take (m := (t185 : Int).toNat) ((Kd.R_reads' (Kd.R_after (ok := (fun k_ => some k_ ≠ (v214 : Value).ownBlock)) (by (with_reducible repeat apply Kd.R_alloc); exact Kd.R_mono HO_7.out (fun _ hk => ⟨hk.1.2, hk.2⟩)) hg hat)).2.2) KL76.out)); have n6_ := Aside0.mk (ho); clear HO_7; clear HI0; clear HO215; clear HB; clear HK; clear HR222; clear HO218; have HO_7 := n0_; have HI0 := n1_; have HO215 := n2_; have HB := n3_; have HK := n4_; have HR222 := n5_; have HO225 := n6_; clear n0_ n1_ n2_ n3_ n4_ n5_ n6_; clear ho hb hg hat; obtain ⟨Ao79, co79, eo79⟩ := Kd.R_slice HO215.out; subst eo79) | ((with_reducible refine gate_builtin (b := .append) (xs := #[.tmp 97, .tmp 99]) rfl ?_); at_builtin; refine Kd.R_append (Kd.slice 62 k62) w.heap.size rfl (.tmp 97) (.tmp 99) 104 25 (.slice none 0 0) 24 rfl Try.underlying104 info25 rfl (by decide) (by omega) v224 y223 y213 [.slice Ao79 y213.length co79] (fun k_ => some k_ ≠ (.slice (some ad203) x7_2.length co64 : Value).ownBlock) (fun k_ => ((fun k_ => some k_ ≠ (.slice (some ad203) x7_2.length co64 : Value).ownBlock)) k_ ∧ some k_ ≠ (v224 : Value).ownBlock) rfl rfl ?aP (fun _ hk => hk) ?aF ?aO (Below.refl _ _) ?aS ?aL ?_; (case aP => exact Kd.M_row (Kd.R_mono (Kd.R_apart' (Kd.R_apart' (HO215.out) (Kd.R_typed HO_7.out) (by decide)) (Kd.R_typed HO225.out) (by decide)) (fun k_ hk => ⟨hk.1.2, hk.2⟩))); (case aF => exact (fun k_ hk => Kd.fresh' (Kd.R_lt pwd_) k_ hk)); (case aO => exact (by (with_reducible repeat apply Kd.R_alloc); exact Kd.R_mono HO225.out (fun _ hk => hk.1))); (case aS => exact (keep_size (w := w) (g := g) (row := none) pwj_)); (case aL => have := LMc60.out; omega); intro v227 w78 ho hb hg hat; rw [← Ny226.out] at ho; have n0_ := Aside0.mk (Kd.R_after (ok := (fun k_ => some k_ ≠ (.slice Ao79 y213.length co79 : Value).ownBlock)) pwd_ hg hat); have n1_ := Aside0.mk (IsS103.grown pwk_ hg (IsS103.own_ne HI0.out HO225.out (by decide))); have n2_ := Aside0.mk (below_weaken pwm_ HL.out hb); have n3_ := Aside0.mk (KeepBut.trans pwj_ (KeepBut.of_grown hg g) (Kd.R_base2 HO225.out)); have n4_ := Aside0.mk ((show Kd.C (Kd.slice 62 k62) w78 (some ad203) y219.length y219 from by rw [Ny219.out]; exact Kd.C_take (m := (t185 : Int).toNat) ((Kd.R_reads' (Kd.R_after (ok := (fun k_ => some k_ ≠ (.slice Ao79 y213.length co79 : Value).ownBlock)) pwd_ hg hat)).2.2) KL76.out)); have n5_ := Aside0.mk (ho); clear HO_7; clear HI0; clear HB; clear HK; clear HR222; clear HO225; clear HO215; have HO_7 := n0_; have HI0 := n1_; have HB := n2_; have HK := n3_; have HR222 := n4_; have HO228 := n5_; clear n0_ n1_ n2_ n3_ n4_ n5_; clear ho hb hg hat; have q80 : ((wrap64 (t185 + 2)) : Int) ≤ ((x7_2.length : Int) : Int) := of_decide_eq_true pwb_; obtain ⟨i080, hi080, _, hsz80, _⟩ := info_parts info25; have hroom80 : x7_2.length ≤ co64 := (Kd.R_reads' HO_7.out).2.1; have hC80 : Kd.C (Kd.slice 62 k62) _ (some ad203) x7_2.length x7_2 := (Kd.R_reads' HO_7.out).2.2; have q080 : (0 : Int) ≤ ((wrap64 (t185 + 2)) : Int) := of_decide_eq_true pwb_; have hcut80 := cut_from (P := Try.prog) 104 25 .i64 Try.underlying104 hi080 1 hsz80 (some ad203) x7_2.length co64 (wrap64 (t185 + 2)) q080 q80; have hr80 := Kd.C_drop (m := ((wrap64 (t185 + 2)) : Int).toNat) (c := co64) hC80 (by omega) hroom80; obtain ⟨A80, hA80⟩ : ∃ A1, A1 = (if co64 = ((wrap64 (t185 + 2)) : Int).toNat then (some ad203) else ((some ad203) : Option Addr).map (·.add (((wrap64 (t185 + 2)) : Int).toNat * 1))) := ⟨_, rfl⟩; obtain ⟨c80, hc80⟩ : ∃ c1, c1 = co64 - ((wrap64 (t185 + 2)) : Int).toNat := ⟨_, rfl⟩; have hy80 : y229.length = x7_2.length - ((wrap64 (t185 + 2)) : Int).toNat := (by rw [Ny229.out, List.length_drop] <;> omega); rw [show (x7_2).drop ((wrap64 (t185 + 2)) : Int).toNat = y229 from Ny229.out.symm] at hr80; replace hr80 : Kd.C (Kd.slice 62 k62) _ A80 y229.length y229 := (by rw [hA80]; exact hr80); rw [← hy80, ← hA80, ← hc80] at hcut80; have HR232 := Aside0.mk hr80; have HC232 := Aside0.mk (show y229.length ≤ c80 from by rw [hy80, hc80]; exact Nat.sub_le_sub_right hroom80 _); clear hr80 hC80 hroom80 hi080 hsz80 hc80; have KY80 := Aside0.mk hy80; have KA80 := Aside0.mk hA80; clear hy80 hA80; have KL80 := Aside0.mk (show ((wrap64 (t185 + 2)) : Int).toNat ≤ x7_2.length from by omega); replace q80 := eq_true q80) | ((with_reducible refine gate_builtin (b := .append) (xs := #[.tmp 101, .tmp 105]) rfl ?_); at_builtin; refine Kd.R_append_rows (Kd.slice 62 k62) w.heap.size rfl (.tmp 101) (.tmp 105) 104 25 (.slice none 0 0) 24 rfl Try.underlying104 info25 rfl (by decide) (by omega) v227 y226 y229 _ _ _ (fun k_ => some k_ ≠ (.slice (some ad203) x7_2.length co64 : Value).ownBlock) (fun k_ => ((fun k_ => some k_ ≠ (.slice (some ad203) x7_2.length co64 : Value).ownBlock)) k_ ∧ some k_ ≠ (v227 : Value).ownBlock) rfl rfl ?aO ?aR (fun _ _ h => h) (fun _ hk => hk) ?aF (Below.refl _ _) ?aS ?aL ?_; (case aR => rw [Ny229.out, KA80.out]; exact Kd.C_drop (m := ((wrap64 (t185 + 2)) : Int).toNat) (c := co64) (Kd.R_frozen (okp := (fun k_ => ((fun k_ => some k_ ≠ (.slice (some ad203) x7_2.length co64 : Value).ownBlock)) k_ ∧ some k_ ≠ (v227 : Value).ownBlock)) (HO_7.out) (fun k_ hk => ⟨hk.2, hk.1.2⟩)).2.2 KL80.out (Kd.R_frozen (okp := (fun k_ => ((fun k_ => some k_ ≠ (.slice (some ad203) x7_2.length co64 : Value).ownBlock)) k_ ∧ some k_ ≠ (v227 : Value).ownBlock)) (HO_7.out) (fun k_ hk => ⟨hk.2, hk.1.2⟩)).2.1); (case aF => exact (fun k_ hk => Kd.fresh' (Kd.R_lt pwd_) k_ hk)); (case aO => exact (by (with_reducible repeat apply Kd.R_alloc); exact HO228.out)); (case aS => exact (keep_size (w := w) (g := g) (row := none) pwj_)); (case aL => have := LMc63.out; omega); intro v234 w81 ho hb hg hat; rw [← Ny233.out] at ho; have n0_ := Aside0.mk (Kd.R_after (ok := (fun _ => True)) (by (with_reducible repeat apply Kd.R_alloc); exact Kd.R_mono HO_7.out (fun _ hk => ⟨trivial, hk.2⟩)) hg hat); have n1_ := Aside0.mk (IsS103.grown pwk_ hg (IsS103.own_ne HI0.out HO228.out (by decide))); have n2_ := Aside0.mk (below_weaken pwm_ HL.out hb); have n3_ := Aside0.mk (KeepBut.trans pwj_ (KeepBut.of_grown hg g) (Kd.R_base2 HO228.out)); have n4_ := Aside0.mk ((show Kd.C (Kd.slice 62 k62) w81 (some ad203) y219.length y219 from by rw [Ny219.out]; exact Kd.C_take (m := (t185 : Int).toNat) ((Kd.R_reads' (Kd.R_after (ok := (fun _ => True)) (by (with_reducible repeat apply Kd.R_alloc); exact Kd.R_mono HO_7.out (fun _ hk => ⟨trivial, hk.2⟩)) hg hat)).2.2) KL76.out)); have n5_ := Aside0.mk ((show Kd.C (Kd.slice 62 k62) w81 A80 y229.length y229 from by rw [Ny229.out, KA80.out]; exact Kd.C_drop (m := ((wrap64 (t185 + 2)) : Int).toNat) (c := co64) ((Kd.R_reads' (Kd.R_after (ok := (fun _ => True)) (by (with_reducible repeat apply Kd.R_alloc); exact Kd.R_mono HO_7.out (fun _ hk => ⟨trivial, hk.2⟩)) hg hat)).2.2) KL80.out ((Kd.R_reads' (Kd.R_after (ok := (fun _ => True)) (by (with_reducible repeat apply Kd.R_alloc); exact Kd.R_mono HO_7.out (fun _ hk => ⟨trivial, hk.2⟩)) hg hat)).2.1))); have n6_ := Aside0.mk (ho); clear HO_7; clear HI0; clear HB; clear HK; clear HR222; clear HR232; clear HO228; have HO_7 := n0_; have HI0 := n1_; have HB := n2_; have HK := n3_; have HR222 := n4_; have HR232 := n5_; have HO235 := n6_; clear n0_ n1_ n2_ n3_ n4_ n5_ n6_; clear ho hb hg hat))
                      go_roundg k2
                      case measure => have := HK1.out; have := HK2.out; omega
                      case rel => exact ⟨(y233), (x9_2), (t212), pwa_, H', ⟨by have := HK1.out; have := HK2.out; omega⟩, ⟨by (with_reducible repeat apply Kd.R_alloc); exact Kd.R_mono HO235.out (fun _ hk => trivial)⟩, ⟨pwk_⟩, ⟨pwj_⟩, ⟨pwm_⟩⟩
                     ·rw [if_neg c63] at H
                      exact absurd H (by simp)
                    ·rw [if_neg c62] at H
                     exact absurd H (by simp)
                   ·rw [if_neg c61] at H
                    exact absurd H (by simp)
                  ·rw [if_neg c60] at H
                   exact absurd H (by simp)
                 ·rw [if_neg c59] at H
                  exact absurd H (by simp)
                ·rw [if_neg c58] at H
                 exact absurd H (by simp)
               ·rw [if_neg c56] at H
                exact absurd H (by simp)
              ·rw [if_neg c54] at H
               exact absurd H (by simp)
             ·rw [if_neg c53] at H
              exact absurd H (by simp)
            ·rw [if_neg c52] at H
             exact absurd H (by simp)
           ·rw [if_neg c50] at H
            exact absurd H (by simp)
          ·rw [if_neg c49] at H
           exact absurd H (by simp)
         ·rw [if_neg c48] at H
          exact absurd H (by simp)
       ·rw [if_neg c31] at H
        have c31b0 : decide (0 < x9_2) = false := decide_eq_false c31
        clear c31
        obtain ⟨y236, hy236⟩ : ∃ y_ : List (S62), y_ = (([] : List (S62))) := ⟨_, rfl⟩
        replace H : (if 0 ≤ t185 then (if t185 < (x7_2.length : Int) then (if y236.length + (rd_L3 x7_2 t185).length < 8796093022208 then ((some (y236 ++ (rd_L3 x7_2 t185) : List (S62))).bind fun y240 => (if 0 ≤ (wrap64 (t185 + 1)) then (if (wrap64 (t185 + 1)) < (x7_2.length : Int) then (if y240.length + (rd_L3 x7_2 (wrap64 (t185 + 1))).length < 8796093022208 then ((some (y240 ++ (rd_L3 x7_2 (wrap64 (t185 + 1))) : List (S62))).bind fun y244 => ((spec_l20Rd_pick.f k2 s0_0 t186 3).bind fun bt247 => (if y244.length < 8796093022208 then ((some (([] : List (List (S62))) : List (List (S62)))).bind fun y252 => (if t185 ≤ (x7_2.length : Int) then ((some (x7_2.take (t185 : Int).toNat : List (List (S62)))).bind fun y255 => (if y252.length + y255.length < 5864062014805 then ((some (y252 ++ y255 : List (List (S62)))).bind fun y259 => (if y259.length < 5864062014805 then ((some (y259 ++ [(y244 ++ [(⟨wrap64 (3 + bt247.1), 0⟩ : S62)])] : List (List (S62)))).bind fun y262 => (if 0 ≤ (wrap64 (t185 + 2)) then (if (wrap64 (t185 + 2)) ≤ (x7_2.length : Int) then ((some (x7_2.drop ((wrap64 (t185 + 2)) : Int).toNat : List (List (S62)))).bind fun y265 => (if y262.length + y265.length < 5864062014805 then (spec_l20Term.l1 k2 a2 (y262 ++ y265) x9_2 s0_0 bt247.2) else (none))) else (none)) else (none))) else (none))) else (none))) else (none))) else (none)))) else (none)) else (none)) else (none))) else (none)) else (none)) else (none)) = some (r1, r2) := by first | (rw [hy236]; with_reducible exact H) | (have H2_ := (Option.bind_some _ _).symm.trans H; rw [hy236]; with_reducible exact H2_) | (have H2_ := (Option.bind_some _ _).symm.trans H; with_reducible exact H2_) | with_reducible exact H | (rw [hy236]; exact H) | exact H
        have Ny236 := Aside0.mk hy236
        clear hy236
        by_cases c82 : 0 ≤ t185
        ·rw [if_pos c82] at H
         have c82b0 : decide (0 ≤ t185) = true := decide_eq_true c82
         clear c82
         by_cases c83 : t185 < (x7_2.length : Int)
         ·rw [if_pos c83] at H
          have c83b0 : decide (t185 < (x7_2.length : Int)) = true := decide_eq_true c83
          clear c83
          by_cases c84 : y236.length + (rd_L3 x7_2 t185).length < 8796093022208
          ·rw [if_pos c84] at H
           have LMc84 := Aside0.mk c84
           clear c84
           obtain ⟨y240, hy240⟩ : ∃ y_ : List (S62), y_ = (y236 ++ (rd_L3 x7_2 t185)) := ⟨_, rfl⟩
           replace H : (if 0 ≤ (wrap64 (t185 + 1)) then (if (wrap64 (t185 + 1)) < (x7_2.length : Int) then (if y240.length + (rd_L3 x7_2 (wrap64 (t185 + 1))).length < 8796093022208 then ((some (y240 ++ (rd_L3 x7_2 (wrap64 (t185 + 1))) : List (S62))).bind fun y244 => ((spec_l20Rd_pick.f k2 s0_0 t186 3).bind fun bt247 => (if y244.length < 8796093022208 then ((some (([] : List (List (S62))) : List (List (S62)))).bind fun y252 => (if t185 ≤ (x7_2.length : Int) then ((some (x7_2.take (t185 : Int).toNat : List (List (S62)))).bind fun y255 => (if y252.length + y255.length < 5864062014805 then ((some (y252 ++ y255 : List (List (S62)))).bind fun y259 => (if y259.length < 5864062014805 then ((some (y259 ++ [(y244 ++ [(⟨wrap64 (3 + bt247.1), 0⟩ : S62)])] : List (List (S62)))).bind fun y262 => (if 0 ≤ (wrap64 (t185 + 2)) then (if (wrap64 (t185 + 2)) ≤ (x7_2.length : Int) then ((some (x7_2.drop ((wrap64 (t185 + 2)) : Int).toNat : List (List (S62)))).bind fun y265 => (if y262.length + y265.length < 5864062014805 then (spec_l20Term.l1 k2 a2 (y262 ++ y265) x9_2 s0_0 bt247.2) else (none))) else (none)) else (none))) else (none))) else (none))) else (none))) else (none)))) else (none)) else (none)) else (none)) = some (r1, r2) := by first | (rw [hy240]; with_reducible exact H) | (have H2_ := (Option.bind_some _ _).symm.trans H; rw [hy240]; with_reducible exact H2_) | (have H2_ := (Option.bind_some _ _).symm.trans H; with_reducible exact H2_) | with_reducible exact H | (rw [hy240]; exact H) | exact H
           have Ny240 := Aside0.mk hy240
           clear hy240
           obtain ⟨ji85, hji85⟩ : ∃ j_ : Int, (wrap64 (t185 + 1)) = j_ := ⟨_, rfl⟩
           replace H : (if 0 ≤ (ji85) then (if (ji85) < (x7_2.length : Int) then (if y240.length + (rd_L3 x7_2 (ji85)).length < 8796093022208 then ((some (y240 ++ (rd_L3 x7_2 (ji85)) : List (S62))).bind fun y244 => ((spec_l20Rd_pick.f k2 s0_0 t186 3).bind fun bt247 => (if y244.length < 8796093022208 then ((some (([] : List (List (S62))) : List (List (S62)))).bind fun y252 => (if t185 ≤ (x7_2.length : Int) then ((some (x7_2.take (t185 : Int).toNat : List (List (S62)))).bind fun y255 => (if y252.length + y255.length < 5864062014805 then ((some (y252 ++ y255 : List (List (S62)))).bind fun y259 => (if y259.length < 5864062014805 then ((some (y259 ++ [(y244 ++ [(⟨wrap64 (3 + bt247.1), 0⟩ : S62)])] : List (List (S62)))).bind fun y262 => (if 0 ≤ (wrap64 (t185 + 2)) then (if (wrap64 (t185 + 2)) ≤ (x7_2.length : Int) then ((some (x7_2.drop ((wrap64 (t185 + 2)) : Int).toNat : List (List (S62)))).bind fun y265 => (if y262.length + y265.length < 5864062014805 then (spec_l20Term.l1 k2 a2 (y262 ++ y265) x9_2 s0_0 bt247.2) else (none))) else (none)) else (none))) else (none))) else (none))) else (none))) else (none)))) else (none)) else (none)) else (none)) = some (r1, r2) := by first | (rw [hji85] at H; exact H) | (simp only [hji85] at H ⊢; exact H)
           (try rw [hji85] at A30)
           have hji85w : (IntKind.i64.wrap (t185 + 1)) = ji85 := (i64_w _).trans hji85
           by_cases c86 : 0 ≤ (ji85)
           ·rw [if_pos c86] at H
            have c86b0 : decide (0 ≤ (ji85)) = true := decide_eq_true c86
            clear c86
            by_cases c87 : (ji85) < (x7_2.length : Int)
            ·rw [if_pos c87] at H
             have c87b0 : decide ((ji85) < (x7_2.length : Int)) = true := decide_eq_true c87
             clear c87
             by_cases c88 : y240.length + (rd_L3 x7_2 (ji85)).length < 8796093022208
             ·rw [if_pos c88] at H
              have LMc88 := Aside0.mk c88
              clear c88
              obtain ⟨y244, hy244⟩ : ∃ y_ : List (S62), y_ = (y240 ++ (rd_L3 x7_2 (ji85))) := ⟨_, rfl⟩
              replace H : ((spec_l20Rd_pick.f k2 s0_0 t186 3).bind fun bt247 => (if y244.length < 8796093022208 then ((some (([] : List (List (S62))) : List (List (S62)))).bind fun y252 => (if t185 ≤ (x7_2.length : Int) then ((some (x7_2.take (t185 : Int).toNat : List (List (S62)))).bind fun y255 => (if y252.length + y255.length < 5864062014805 then ((some (y252 ++ y255 : List (List (S62)))).bind fun y259 => (if y259.length < 5864062014805 then ((some (y259 ++ [(y244 ++ [(⟨wrap64 (3 + bt247.1), 0⟩ : S62)])] : List (List (S62)))).bind fun y262 => (if 0 ≤ (wrap64 (t185 + 2)) then (if (wrap64 (t185 + 2)) ≤ (x7_2.length : Int) then ((some (x7_2.drop ((wrap64 (t185 + 2)) : Int).toNat : List (List (S62)))).bind fun y265 => (if y262.length + y265.length < 5864062014805 then (spec_l20Term.l1 k2 a2 (y262 ++ y265) x9_2 s0_0 bt247.2) else (none))) else (none)) else (none))) else (none))) else (none))) else (none))) else (none))) = some (r1, r2) := by first | (rw [hy244]; with_reducible exact H) | (have H2_ := (Option.bind_some _ _).symm.trans H; rw [hy244]; with_reducible exact H2_) | (have H2_ := (Option.bind_some _ _).symm.trans H; with_reducible exact H2_) | with_reducible exact H | (rw [hy244]; exact H) | exact H
              have Ny244 := Aside0.mk hy244
              clear hy244
              replace H := Option.bind_eq_some_iff.mp H
              obtain ⟨⟨t247, t248⟩, A890, H⟩ := H
              replace H : (if y244.length < 8796093022208 then ((some (([] : List (List (S62))) : List (List (S62)))).bind fun y252 => (if t185 ≤ (x7_2.length : Int) then ((some (x7_2.take (t185 : Int).toNat : List (List (S62)))).bind fun y255 => (if y252.length + y255.length < 5864062014805 then ((some (y252 ++ y255 : List (List (S62)))).bind fun y259 => (if y259.length < 5864062014805 then ((some (y259 ++ [(y244 ++ [(⟨wrap64 (3 + t247), 0⟩ : S62)])] : List (List (S62)))).bind fun y262 => (if 0 ≤ (wrap64 (t185 + 2)) then (if (wrap64 (t185 + 2)) ≤ (x7_2.length : Int) then ((some (x7_2.drop ((wrap64 (t185 + 2)) : Int).toNat : List (List (S62)))).bind fun y265 => (if y262.length + y265.length < 5864062014805 then (spec_l20Term.l1 k2 a2 (y262 ++ y265) x9_2 s0_0 t248) else (none))) else (none)) else (none))) else (none))) else (none))) else (none))) else (none)) = some (r1, r2) := H
              have A89 := Aside0.mk A890
              clear A890
              by_cases c90 : y244.length < 8796093022208
              ·rw [if_pos c90] at H
               have LMc90 := Aside0.mk c90
               clear c90
               obtain ⟨y249, hy249⟩ : ∃ y_ : List (S62), y_ = (y244 ++ [(⟨wrap64 (3 + t247), 0⟩ : S62)]) := ⟨_, rfl⟩
               replace H : ((some (([] : List (List (S62))) : List (List (S62)))).bind fun y252 => (if t185 ≤ (x7_2.length : Int) then ((some (x7_2.take (t185 : Int).toNat : List (List (S62)))).bind fun y255 => (if y252.length + y255.length < 5864062014805 then ((some (y252 ++ y255 : List (List (S62)))).bind fun y259 => (if y259.length < 5864062014805 then ((some (y259 ++ [y249] : List (List (S62)))).bind fun y262 => (if 0 ≤ (wrap64 (t185 + 2)) then (if (wrap64 (t185 + 2)) ≤ (x7_2.length : Int) then ((some (x7_2.drop ((wrap64 (t185 + 2)) : Int).toNat : List (List (S62)))).bind fun y265 => (if y262.length + y265.length < 5864062014805 then (spec_l20Term.l1 k2 a2 (y262 ++ y265) x9_2 s0_0 t248) else (none))) else (none)) else (none))) else (none))) else (none))) else (none))) = some (r1, r2) := by first | (rw [hy249]; with_reducible exact H) | (have H2_ := (Option.bind_some _ _).symm.trans H; rw [hy249]; with_reducible exact H2_) | (have H2_ := (Option.bind_some _ _).symm.trans H; with_reducible exact H2_) | with_reducible exact H | (rw [hy249]; exact H) | exact H
               have Ny249 := Aside0.mk hy249
               clear hy249
               obtain ⟨y252, hy252⟩ : ∃ y_ : List (List (S62)), y_ = (([] : List (List (S62)))) := ⟨_, rfl⟩
               replace H : (if t185 ≤ (x7_2.length : Int) then ((some (x7_2.take (t185 : Int).toNat : List (List (S62)))).bind fun y255 => (if y252.length + y255.length < 5864062014805 then ((some (y252 ++ y255 : List (List (S62)))).bind fun y259 => (if y259.length < 5864062014805 then ((some (y259 ++ [y249] : List (List (S62)))).bind fun y262 => (if 0 ≤ (wrap64 (t185 + 2)) then (if (wrap64 (t185 + 2)) ≤ (x7_2.length : Int) then ((some (x7_2.drop ((wrap64 (t185 + 2)) : Int).toNat : List (List (S62)))).bind fun y265 => (if y262.length + y265.length < 5864062014805 then (spec_l20Term.l1 k2 a2 (y262 ++ y265) x9_2 s0_0 t248) else (none))) else (none)) else (none))) else (none))) else (none))) else (none)) = some (r1, r2) := by first | (rw [hy252]; with_reducible exact H) | (have H2_ := (Option.bind_some _ _).symm.trans H; rw [hy252]; with_reducible exact H2_) | (have H2_ := (Option.bind_some _ _).symm.trans H; with_reducible exact H2_) | with_reducible exact H | (rw [hy252]; exact H) | exact H
               have Ny252 := Aside0.mk hy252
               clear hy252
               have c91b0 := eq_true (of_decide_eq_true pwb_ : 0 ≤ t185)
               by_cases c92 : t185 ≤ (x7_2.length : Int)
               ·rw [if_pos c92] at H
                have c92b0 := eq_true c92
                have c92b1 : decide (t185 ≤ (x7_2.length : Int)) = true := decide_eq_true c92
                clear c92
                obtain ⟨y255, hy255⟩ : ∃ y_ : List (List (S62)), y_ = (x7_2.take (t185 : Int).toNat) := ⟨_, rfl⟩
                replace H : (if y252.length + y255.length < 5864062014805 then ((some (y252 ++ y255 : List (List (S62)))).bind fun y259 => (if y259.length < 5864062014805 then ((some (y259 ++ [y249] : List (List (S62)))).bind fun y262 => (if 0 ≤ (wrap64 (t185 + 2)) then (if (wrap64 (t185 + 2)) ≤ (x7_2.length : Int) then ((some (x7_2.drop ((wrap64 (t185 + 2)) : Int).toNat : List (List (S62)))).bind fun y265 => (if y262.length + y265.length < 5864062014805 then (spec_l20Term.l1 k2 a2 (y262 ++ y265) x9_2 s0_0 t248) else (none))) else (none)) else (none))) else (none))) else (none)) = some (r1, r2) := by first | (rw [hy255]; with_reducible exact H) | (have H2_ := (Option.bind_some _ _).symm.trans H; rw [hy255]; with_reducible exact H2_) | (have H2_ := (Option.bind_some _ _).symm.trans H; with_reducible exact H2_) | with_reducible exact H | (rw [hy255]; exact H) | exact H
                have Ny255 := Aside0.mk hy255
                clear hy255
                by_cases c93 : y252.length + y255.length < 5864062014805
                ·rw [if_pos c93] at H
                 have LMc93 := Aside0.mk c93
                 clear c93
                 obtain ⟨y259, hy259⟩ : ∃ y_ : List (List (S62)), y_ = (y252 ++ y255) := ⟨_, rfl⟩
                 replace H : (if y259.length < 5864062014805 then ((some (y259 ++ [y249] : List (List (S62)))).bind fun y262 => (if 0 ≤ (wrap64 (t185 + 2)) then (if (wrap64 (t185 + 2)) ≤ (x7_2.length : Int) then ((some (x7_2.drop ((wrap64 (t185 + 2)) : Int).toNat : List (List (S62)))).bind fun y265 => (if y262.length + y265.length < 5864062014805 then (spec_l20Term.l1 k2 a2 (y262 ++ y265) x9_2 s0_0 t248) else (none))) else (none)) else (none))) else (none)) = some (r1, r2) := by first | (rw [hy259]; with_reducible exact H) | (have H2_ := (Option.bind_some _ _).symm.trans H; rw [hy259]; with_reducible exact H2_) | (have H2_ := (Option.bind_some _ _).symm.trans H; with_reducible exact H2_) | with_reducible exact H | (rw [hy259]; exact H) | exact H
                 have Ny259 := Aside0.mk hy259
                 clear hy259
                 by_cases c94 : y259.length < 5864062014805
                 ·rw [if_pos c94] at H
                  have LMc94 := Aside0.mk c94
                  clear c94
                  obtain ⟨y262, hy262⟩ : ∃ y_ : List (List (S62)), y_ = (y259 ++ [y249]) := ⟨_, rfl⟩
                  replace H : (if 0 ≤ (wrap64 (t185 + 2)) then (if (wrap64 (t185 + 2)) ≤ (x7_2.length : Int) then ((some (x7_2.drop ((wrap64 (t185 + 2)) : Int).toNat : List (List (S62)))).bind fun y265 => (if y262.length + y265.length < 5864062014805 then (spec_l20Term.l1 k2 a2 (y262 ++ y265) x9_2 s0_0 t248) else (none))) else (none)) else (none)) = some (r1, r2) := by first | (rw [hy262]; with_reducible exact H) | (have H2_ := (Option.bind_some _ _).symm.trans H; rw [hy262]; with_reducible exact H2_) | (have H2_ := (Option.bind_some _ _).symm.trans H; with_reducible exact H2_) | with_reducible exact H | (rw [hy262]; exact H) | exact H
                  have Ny262 := Aside0.mk hy262
                  clear hy262
                  by_cases c95 : 0 ≤ (wrap64 (t185 + 2))
                  ·rw [if_pos c95] at H
                   have c95b0 := eq_true c95
                   have c95b1 : decide (0 ≤ (wrap64 (t185 + 2))) = true := decide_eq_true c95
                   by_cases c96 : (wrap64 (t185 + 2)) ≤ (x7_2.length : Int)
                   ·rw [if_pos c96] at H
                    have c96b0 := eq_true c96
                    have c96b1 : decide ((wrap64 (t185 + 2)) ≤ (x7_2.length : Int)) = true := decide_eq_true c96
                    obtain ⟨y265, hy265⟩ : ∃ y_ : List (List (S62)), y_ = (x7_2.drop ((wrap64 (t185 + 2)) : Int).toNat) := ⟨_, rfl⟩
                    replace H : (if y262.length + y265.length < 5864062014805 then (spec_l20Term.l1 k2 a2 (y262 ++ y265) x9_2 s0_0 t248) else (none)) = some (r1, r2) := by first | (rw [hy265]; with_reducible exact H) | (have H2_ := (Option.bind_some _ _).symm.trans H; rw [hy265]; with_reducible exact H2_) | (have H2_ := (Option.bind_some _ _).symm.trans H; with_reducible exact H2_) | with_reducible exact H | (rw [hy265]; exact H) | exact H
                    have Ny265 := Aside0.mk hy265
                    clear hy265
                    by_cases c97 : y262.length + y265.length < 5864062014805
                    ·rw [if_pos c97] at H
                     have LMc97 := Aside0.mk c97
                     clear c97
                     obtain ⟨y269, hy269⟩ : ∃ y_ : List (List (S62)), y_ = (y262 ++ y265) := ⟨_, rfl⟩
                     replace H : (spec_l20Term.l1 k2 a2 y269 x9_2 s0_0 t248) = some (r1, r2) := by first | (rw [hy269]; with_reducible exact H) | (have H2_ := (Option.bind_some _ _).symm.trans H; rw [hy269]; with_reducible exact H2_) | (have H2_ := (Option.bind_some _ _).symm.trans H; with_reducible exact H2_) | with_reducible exact H | (rw [hy269]; exact H) | exact H
                     have Ny269 := Aside0.mk hy269
                     clear hy269
                     have H' := Aside0.mk H
                     clear H
                     obtain ⟨Ao98, co98, eo98⟩ := Kd.R_slice HO_7.out
                     subst eo98
                     try go_wp2_with (first | ((with_reducible refine gate_callee (f := 60) rfl ?_); refine goesL_ (some 52) rfl rfl Try.func60 (by kernel_rfl) rfl #[.pointer (some ⟨g, 0, none⟩), .int .i64 (wrap64 ((x7_2.length : Int) - 1))] rfl pwi_ ?_; (with_reducible refine (spec_l20Rd_pick.calls k2 g s0_0 x1001_2 (wrap64 ((x7_2.length : Int) - 1)) t185 t186 w0 _ ?side1 ?side2 A30.out).mono ?_); (case side1 => repeat (first | (with_reducible first | exact HI0.out | apply IsS103.alloc | apply IsS103.drewN | apply IsS103.drew | apply IsS103.set_1) | exact HI0.out)); (case side2 => repeat (first | (with_reducible first | exact HB.out | apply below_alloc | apply pw_below_drewN | apply below_drew1 | refine below_set ?_ (IsS103.ge HI0.out)) | exact HB.out)); rintro e w99 ⟨rfl, hi, hb, hk⟩; refine ⟨_, rfl, ?_⟩; have n0_ := Aside0.mk (Kd.R_mono (Kd.R_keep (IsS103.apart (show IsS103 w0 _ g s0_0 x1001_2 from by repeat (first | (with_reducible first | exact HI0.out | apply IsS103.alloc | apply IsS103.drewN | apply IsS103.drew | apply IsS103.set_1) | exact HI0.out)) pwd_ (by decide)) hk (fun _ h => h.2)) (fun _ h => h.1)); have n1_ := Aside0.mk (KeepBut.trans pwj_ hk (.inl rfl)); have n2_ := Aside0.mk (hb); have n3_ := Aside0.mk (hi); clear HO_7; clear HK; clear HB; clear HI0; have HO_7 := n0_; have HK := n1_; have HB := n2_; have HI0 := n3_; clear n0_ n1_ n2_ n3_; (try clear hb); (try clear hb2); (try clear hk); (try clear hi)))
                     have n0_ := Aside0.mk (Kd.R_drew HO_7.out)
                     have n1_ := Aside0.mk (IsS103.drew HI0.out)
                     have n2_ := Aside0.mk (keep_drew HK.out)
                     have n3_ := Aside0.mk (below_drew1 HB.out)
                     clear HO_7
                     clear HI0
                     clear HK
                     clear HB
                     have HO_7 := n0_
                     have HI0 := n1_
                     have HK := n2_
                     have HB := n3_
                     clear n0_ n1_ n2_ n3_
                     have p239 : 0 ≤ (t185 : Int) := of_decide_eq_true pwb_
                     have q239 : t185 < (x7_2.length : Int) := of_decide_eq_true pwb_
                     obtain ⟨ad239, A239_0, c239_0, e239, hx239_0, hl239_0, hi239_0⟩ := at_L3 (Kd.R_reads' HO_7.out).2.2 t185 p239 q239
                     cases e239
                     obtain ⟨ce239, hce239, hMe239, hcc239⟩ := Kd.R_get HO_7.out [] t185 p239 (by first | exact q239 | exact of_decide_eq_true pwb_ | (have e_ := (Kd.R_reads' HO_7.out).1; omega))
                     obtain ⟨ve239_0, rfl, ge239_0⟩ := hMe239
                     have hv239_0 := hcc239 0 _ rfl
                     rw [Nat.add_zero, show ((Kd.slice 62 k62)).sz = 1 from rfl, Nat.mul_one] at hv239_0
                     replace hv239_0 := Option.some.inj (hv239_0.symm.trans hx239_0)
                     rw [hv239_0] at ge239_0
                     have HL239_0 := Aside0.mk (show Kd.R k62 62 _ _ _ _ (rd_L3 x7_2 t185) from ge239_0)
                     clear hv239_0 ge239_0
                     clear hcc239 hce239
                     have HR239_0 := Aside0.mk hi239_0
                     have HC239_0 := Aside0.mk hl239_0
                     clear hi239_0 hl239_0
                     replace p239 := eq_true p239
                     replace q239 := eq_true q239
                     have p243 : 0 ≤ ((ji85) : Int) := of_decide_eq_true pwb_
                     have q243 : (ji85) < (x7_2.length : Int) := of_decide_eq_true pwb_
                     obtain ⟨ad243, A243_0, c243_0, e243, hx243_0, hl243_0, hi243_0⟩ := at_L3 (Kd.R_reads' HO_7.out).2.2 (ji85) p243 q243
                     obtain rfl : ad239 = ad243 := (by injection e243)
                     obtain ⟨ce243, hce243, hMe243, hcc243⟩ := Kd.R_get HO_7.out [] (ji85) p243 (by first | exact q243 | exact of_decide_eq_true pwb_ | (have e_ := (Kd.R_reads' HO_7.out).1; omega))
                     obtain ⟨ve243_0, rfl, ge243_0⟩ := hMe243
                     have hv243_0 := hcc243 0 _ rfl
                     rw [Nat.add_zero, show ((Kd.slice 62 k62)).sz = 1 from rfl, Nat.mul_one] at hv243_0
                     replace hv243_0 := Option.some.inj (hv243_0.symm.trans hx243_0)
                     rw [hv243_0] at ge243_0
                     have HL243_0 := Aside0.mk (show Kd.R k62 62 _ _ _ _ (rd_L3 x7_2 (ji85)) from ge243_0)
                     clear hv243_0 ge243_0
                     clear hcc243 hce243
                     have HR243_0 := Aside0.mk hi243_0
                     have HC243_0 := Aside0.mk hl243_0
                     clear hi243_0 hl243_0
                     replace p243 := eq_true p243
                     replace q243 := eq_true q243
                     refine start_ (n := 19) (S := fun w' => w'.cell? (ad239.add (t185).toNat) = some (.slice A239_0 (rd_L3 x7_2 t185).length c239_0) ∧ w'.cell? (ad239.add ((ji85)).toNat) = some (.slice A243_0 (rd_L3 x7_2 (ji85)).length c243_0)) (ds := [16]) #[false, false, false, false, false, false, false, false, false, false, false, false, false, false, false, false, false, false, false] (by kernel_rfl) rfl rfl ⟨hx239_0, hx243_0⟩ (fun hHeld => ?_); refine with_tabW spec_l20Term.tab15 spec_l20Term.bits15 (fun HT_ HW_ => ?_)
                     generalize w99.drew = w100 at HO_7 HI0 HK HB HL239_0 HL243_0 HR239_0 HR243_0 hx239_0 hx243_0 hHeld ⊢
                     refine pure_ (i := 1) (N := some 75) (v := ?_) (a' := ?_) #[false, true, false, false, false, false, false, false, false, false, false, false, false, false, false, false, false, false, false] rfl rfl (any_of HT_.out (by kernel_rfl)) (fun _ _ _ h => h) (Or.inl ⟨by rfl, ?_⟩) ?_ ?_
                     rotate_left
                     ·intro w'
                      go_simp
                      with_reducible rfl
                     rotate_left
                     ·simp only [Act.put, List.setIfInBounds_toArray, List.set_cons_zero, List.set_cons_succ, i64_w, i32_w]
                      rfl
                     refine pure_ (i := 2) (N := some 76) (v := ?_) (a' := ?_) #[false, true, true, false, false, false, false, false, false, false, false, false, false, false, false, false, false, false, false] rfl rfl (any_of HT_.out (by kernel_rfl)) (fun _ _ _ h => h) (Or.inl ⟨by rfl, ?_⟩) ?_ ?_
                     rotate_left
                     ·intro w'
                      go_simp
                      with_reducible rfl
                     rotate_left
                     ·simp only [Act.put, List.setIfInBounds_toArray, List.set_cons_zero, List.set_cons_succ, i64_w, i32_w]
                      rfl
                     refine pure_ (i := 3) (N := some 77) (v := ?_) (a' := ?_) #[false, true, true, true, false, false, false, false, false, false, false, false, false, false, false, false, false, false, false] rfl rfl (any_of HT_.out (by kernel_rfl)) (fun _ _ _ h => h) (Or.inl ⟨by rfl, ?_⟩) ?_ ?_
                     rotate_left
                     ·intro w'
                      go_simp
                      with_reducible rfl
                     rotate_left
                     ·simp only [Act.put, List.setIfInBounds_toArray, List.set_cons_zero, List.set_cons_succ, i64_w, i32_w]
                      rfl
                     refine pure_ (i := 6) (N := some 80) (v := ?_) (a' := ?_) #[false, true, true, true, false, false, true, false, false, false, false, false, false, false, false, false, false, false, false] rfl rfl (any_of HT_.out (by kernel_rfl)) (fun _ _ _ h => h) (Or.inl ⟨by rfl, ?_⟩) ?_ ?_
                     rotate_left
                     ·intro w'
                      go_simp
                      with_reducible rfl
                     rotate_left
                     ·simp only [Act.put, List.setIfInBounds_toArray, List.set_cons_zero, List.set_cons_succ, i64_w, i32_w]
                      rfl
                     refine pure_ (i := 7) (N := some 81) (v := ?_) (a' := ?_) #[false, true, true, true, false, false, true, true, false, false, false, false, false, false, false, false, false, false, false] rfl rfl (any_of HT_.out (by kernel_rfl)) (fun _ _ _ h => h) (Or.inl ⟨by rfl, ?_⟩) ?_ ?_
                     rotate_left
                     ·intro w'
                      go_simp
                      with_reducible rfl
                     rotate_left
                     ·simp only [Act.put, List.setIfInBounds_toArray, List.set_cons_zero, List.set_cons_succ, i64_w, i32_w]
                      rfl
                     refine pure_ (i := 8) (N := some 82) (v := ?_) (a' := ?_) #[false, true, true, true, false, false, true, true, true, false, false, false, false, false, false, false, false, false, false] rfl rfl (any_of HT_.out (by kernel_rfl)) (fun _ _ _ h => h) (Or.inl ⟨by rfl, ?_⟩) ?_ ?_
                     rotate_left
                     ·intro w'
                      go_simp
                      with_reducible rfl
                     rotate_left
                     ·simp only [Act.put, List.setIfInBounds_toArray, List.set_cons_zero, List.set_cons_succ, i64_w, i32_w]
                      rfl
                     refine pure_ (i := 9) (N := some 83) (v := ?_) (a' := ?_) #[false, true, true, true, false, false, true, true, true, true, false, false, false, false, false, false, false, false, false] rfl rfl (any_of HT_.out (by kernel_rfl)) (fun _ _ _ h => h) (Or.inl ⟨by rfl, ?_⟩) ?_ ?_
                     rotate_left
                     ·intro w'
                      go_simp
                      with_reducible rfl
                     rotate_left
                     ·simp only [Act.put, List.setIfInBounds_toArray, List.set_cons_zero, List.set_cons_succ, i64_w, i32_w]
                      rfl
                     refine pure_ (i := 12) (N := some 86) (v := ?_) (a' := ?_) #[false, true, true, true, false, false, true, true, true, true, false, false, true, false, false, false, false, false, false] rfl rfl (any_of HT_.out (by kernel_rfl)) (fun _ _ _ h => h) (Or.inl ⟨by rfl, ?_⟩) ?_ ?_
                     rotate_left
                     ·intro w'
                      go_simp
                      with_reducible rfl
                     rotate_left
                     ·simp only [Act.put, List.setIfInBounds_toArray, List.set_cons_zero, List.set_cons_succ, i64_w, i32_w]
                      rfl
                     refine take_ (i := 4) (N := some 78) (v := ?_) (a' := ?_) #[false, true, true, true, true, false, true, true, true, true, false, false, true, false, false, false, false, false, false] rfl rfl (take_ofW HT_.out HW_.out (by kernel_rfl)) (fun _ _ _ h => h) (Or.inl ⟨by rfl, ?_⟩) hHeld ?_ ?_
                     rotate_left
                     ·rintro w' ⟨s0, s1⟩
                      go_simp
                      with_reducible rfl
                     rotate_left
                     ·simp only [Act.put, List.setIfInBounds_toArray, List.set_cons_zero, List.set_cons_succ, i64_w, i32_w]
                      rfl
                     refine take_ (i := 10) (N := some 84) (v := ?_) (a' := ?_) #[false, true, true, true, true, false, true, true, true, true, true, false, true, false, false, false, false, false, false] rfl rfl (take_ofW HT_.out HW_.out (by kernel_rfl)) (fun _ _ _ h => h) (Or.inl ⟨by rfl, ?_⟩) hHeld ?_ ?_
                     rotate_left
                     ·rintro w' ⟨s0, s1⟩
                      go_simp
                      with_reducible rfl
                     rotate_left
                     ·simp only [Act.put, List.setIfInBounds_toArray, List.set_cons_zero, List.set_cons_succ, i64_w, i32_w]
                      rfl
                     refine one_ (i := 0) (N := some 74) #[true, true, true, true, true, false, true, true, true, true, true, false, true, false, false, false, false, false, false] rfl rfl (one_of HT_.out (by kernel_rfl)) (by decide) (fun K hK => ?_)
                     refine Kd.R_lit_step k62 _ 62 ?hg (N := 74) ?hd (xs := ([] : List (S62))) (inner := []) (ok := fun _ => True) (okp := fun _ => True) ?hr ?hp (fun _ hk => hk) trivial (Below.refl _ _) (Nat.le_refl _) (by simp) ?_; (case hd => rfl); (case hg => rfl); (case hr => first | (go_simp; done) | (go_simp; rfl)); (case hp => exact (Reps.none _ _))
                     intro v237 w101 ho102 hb hg_ hnew_
                     have HS0_ := (hb.cell (World.block_lt_of_cell? _ _ (hHeld.1))).trans (hHeld.1)
                     have HS1_ := (hb.cell (World.block_lt_of_cell? _ _ (hHeld.2))).trans (hHeld.2)
                     clear hg_ hnew_
                     (first | rw [← Ny236.out] at ho102 | (simp only [Int.reduceToNat] at ho102; rw [← Ny236.out] at ho102))
                     have n0_ := Aside0.mk (Kd.R_elder' pwd_ (Kd.R_base ho102) hb)
                     have n1_ := Aside0.mk (Kd.R_elder' (by (with_reducible repeat apply Kd.R_alloc); exact HL239_0.out) (Kd.R_base ho102) hb)
                     have n2_ := Aside0.mk (Kd.R_elder' (by (with_reducible repeat apply Kd.R_alloc); exact HL243_0.out) (Kd.R_base ho102) hb)
                     have n3_ := Aside0.mk (Kd.R_lower (Kd.R_new' (Kd.R_new' ho102 (Kd.R_lt (by (with_reducible repeat apply Kd.R_alloc); exact HL239_0.out))) (Kd.R_lt (by (with_reducible repeat apply Kd.R_alloc); exact HL243_0.out))) (keep_size (w := w) (g := g) (row := none) pwj_))
                     have n4_ := Aside0.mk (IsS103.below pwk_ hb)
                     have n5_ := Aside0.mk (Kd.C_below (by repeat (first | (with_reducible exact HR239_0.out) | (with_reducible refine Kd.C_alloc ?_ _) | (with_reducible refine Kd.C_drewN ?_ _) | (with_reducible refine Kd.C_drew ?_) | exact HR239_0.out)) hb)
                     have n6_ := Aside0.mk (Kd.C_below (by repeat (first | (with_reducible exact HR243_0.out) | (with_reducible refine Kd.C_alloc ?_ _) | (with_reducible refine Kd.C_drewN ?_ _) | (with_reducible refine Kd.C_drew ?_) | exact HR243_0.out)) hb)
                     have n7_ := Aside0.mk (KeepBut.trans pwj_ (KeepBut.of_below hb g none) (.inl rfl))
                     have n8_ := Aside0.mk (below_step pwm_ hb)
                     clear HO_7
                     clear HL239_0
                     clear HL243_0
                     clear HI0
                     clear HR239_0
                     clear HR243_0
                     clear HK
                     clear HB
                     have HO_7 := n0_
                     have HL239_0 := n1_
                     have HL243_0 := n2_
                     have HO238 := n3_
                     have HI0 := n4_
                     have HR239_0 := n5_
                     have HR243_0 := n6_
                     have HK := n7_
                     have HB := n8_
                     clear n0_ n1_ n2_ n3_ n4_ n5_ n6_ n7_ n8_
                     clear hb ho102
                     refine hK.out _ _ ⟨HS0_, HS1_⟩ (fun hHeld => ?_)
                     clear hK K
                     refine norm_ (a' := ?_) ?_ ?_
                     rotate_left
                     ·show Act.put _ (some 74) _ = _
                      simp only [Act.put, List.setIfInBounds_toArray, List.set_cons_zero, List.set_cons_succ, i64_w, i32_w]
                      rfl
                     refine one_ (i := 5) (N := some 79) #[true, true, true, true, true, true, true, true, true, true, true, false, true, false, false, false, false, false, false] rfl rfl (one_of HT_.out (by kernel_rfl)) (by decide) (fun K hK => ?_)
                     refine Kd.R_append_rows_step k62 w.heap.size (by rfl) (.tmp 74) (.tmp 78) 25 62 (.agg #[(.int .i64 0), (.int .i64 0)]) 16 rfl Try.underlying25 info62 rfl (by decide) (by omega) v237 y236 (rd_L3 x7_2 t185) _ _ _ (fun k_ => some k_ ≠ (.slice A239_0 (rd_L3 x7_2 t185).length c239_0 : Value).ownBlock ∧ some k_ ≠ (.slice A243_0 (rd_L3 x7_2 (ji85)).length c243_0 : Value).ownBlock) (fun _ => False) rfl rfl ?aO ?aR (fun _ _ h => h) (fun _ h => h.elim) ?aF (Below.refl _ _) ?aS ?aL ?_
                     (case aR => repeat (first | exact (by repeat (first | (with_reducible exact HR239_0.out) | (with_reducible refine Kd.C_alloc ?_ _) | (with_reducible refine Kd.C_drewN ?_ _) | (with_reducible refine Kd.C_drew ?_) | exact HR239_0.out)) | (with_reducible refine Kd.C_alloc ?_ _) | (with_reducible refine Kd.C_drewN ?_ _) | (with_reducible refine Kd.C_drew ?_)))
                     (case aF => exact (fun k_ hk => ⟨Kd.fresh' (Kd.R_lt (by (with_reducible repeat apply Kd.R_alloc); exact HL239_0.out)) k_ hk, Kd.fresh' (Kd.R_lt (by (with_reducible repeat apply Kd.R_alloc); exact HL243_0.out)) k_ hk⟩))
                     (case aO => exact (by (with_reducible repeat apply Kd.R_alloc); exact Kd.R_mono HO238.out (fun _ hk => ⟨hk.1.2, hk.2⟩)))
                     (case aS => exact (keep_size (w := w) (g := g) (row := none) pwj_))
                     (case aL => have := LMc84.out; omega)
                     intro v241 w103 ho hb hg hat
                     have HS0_ := cell_grown hg (hHeld.1) (by first | (rw [add_block]; exact ((HO_7.out.1 _ rfl).2)) | (show some (Addr.add _ _).block ≠ _; rw [add_block]; exact ((HO_7.out.1 _ rfl).2)) | exact ((HO_7.out.1 _ rfl).2))
                     have HS1_ := cell_grown hg (hHeld.2) (by first | (rw [add_block]; exact ((HO_7.out.1 _ rfl).2)) | (show some (Addr.add _ _).block ≠ _; rw [add_block]; exact ((HO_7.out.1 _ rfl).2)) | exact ((HO_7.out.1 _ rfl).2))
                     rw [← Ny240.out] at ho
                     have n0_ := Aside0.mk (Kd.R_after (ok := (fun _ => True)) pwd_ hg hat)
                     have n1_ := Aside0.mk (IsS103.grown pwk_ hg (IsS103.own_ne HI0.out HO238.out (by decide)))
                     have n2_ := Aside0.mk (Kd.R_after (ok := (fun k_ => some k_ ≠ (.slice (some ad239) x7_2.length co98 : Value).ownBlock)) (by (with_reducible repeat apply Kd.R_alloc); exact Kd.R_mono HL239_0.out (fun _ hk => ⟨hk.1.2, hk.2⟩)) hg hat)
                     have n3_ := Aside0.mk (Kd.R_after (ok := (fun k_ => some k_ ≠ (.slice (some ad239) x7_2.length co98 : Value).ownBlock)) (by (with_reducible repeat apply Kd.R_alloc); exact Kd.R_mono HL243_0.out (fun _ hk => ⟨hk.1.2, hk.2⟩)) hg hat)
                     have n4_ := Aside0.mk (below_weaken pwm_ HL.out hb)
                     have n5_ := Aside0.mk (KeepBut.trans pwj_ (KeepBut.of_grown hg g) (Kd.R_base2 HO238.out))
                     have n6_ := Aside0.mk (ho)
                     clear HO_7
                     clear HI0
                     clear HL239_0
                     clear HL243_0
                     clear HB
                     clear HK
                     clear HO238
                     have HO_7 := n0_
                     have HI0 := n1_
                     have HL239_0 := n2_
                     have HL243_0 := n3_
                     have HB := n4_
                     have HK := n5_
                     have HO242 := n6_
                     clear n0_ n1_ n2_ n3_ n4_ n5_ n6_
                     clear ho hb hg hat
                     refine hK.out _ _ ⟨HS0_, HS1_⟩ (fun hHeld => ?_)
                     clear hK K
                     refine norm_ (a' := ?_) ?_ ?_
                     rotate_left
                     ·show Act.put _ (some 79) _ = _
                      simp only [Act.put, List.setIfInBounds_toArray, List.set_cons_zero, List.set_cons_succ, i64_w, i32_w]
                      rfl
                     refine one_ (i := 11) (N := some 85) #[true, true, true, true, true, true, true, true, true, true, true, true, true, false, false, false, false, false, false] rfl rfl (one_of HT_.out (by kernel_rfl)) (by decide) (fun K hK => ?_)
                     refine Kd.R_append_rows_step k62 w.heap.size (by rfl) (.tmp 79) (.tmp 84) 25 62 (.agg #[(.int .i64 0), (.int .i64 0)]) 16 rfl Try.underlying25 info62 rfl (by decide) (by omega) v241 y240 (rd_L3 x7_2 (ji85)) _ _ _ (fun k_ => some k_ ≠ (.slice A239_0 (rd_L3 x7_2 t185).length c239_0 : Value).ownBlock ∧ some k_ ≠ (.slice A243_0 (rd_L3 x7_2 (ji85)).length c243_0 : Value).ownBlock) (fun _ => False) rfl rfl ?aO ?aR (fun _ _ h => h) (fun _ h => h.elim) ?aF (Below.refl _ _) ?aS ?aL ?_
                     (case aR => repeat (first | exact ((Kd.R_reads' (by (with_reducible repeat apply Kd.R_alloc); exact HL243_0.out)).2.2) | (with_reducible refine Kd.C_alloc ?_ _) | (with_reducible refine Kd.C_drewN ?_ _) | (with_reducible refine Kd.C_drew ?_)))
                     (case aF => exact (fun k_ hk => ⟨Kd.fresh' (Kd.R_lt (by (with_reducible repeat apply Kd.R_alloc); exact HL239_0.out)) k_ hk, Kd.fresh' (Kd.R_lt (by (with_reducible repeat apply Kd.R_alloc); exact HL243_0.out)) k_ hk⟩))
                     (case aO => exact (by (with_reducible repeat apply Kd.R_alloc); exact HO242.out))
                     (case aS => exact (keep_size (w := w) (g := g) (row := none) pwj_))
                     (case aL => have := LMc88.out; omega)
                     intro v245 w104 ho hb hg hat
                     have HS0_ := cell_grown hg (hHeld.1) (by first | (rw [add_block]; exact ((HO_7.out.1 _ rfl).2)) | (show some (Addr.add _ _).block ≠ _; rw [add_block]; exact ((HO_7.out.1 _ rfl).2)) | exact ((HO_7.out.1 _ rfl).2))
                     have HS1_ := cell_grown hg (hHeld.2) (by first | (rw [add_block]; exact ((HO_7.out.1 _ rfl).2)) | (show some (Addr.add _ _).block ≠ _; rw [add_block]; exact ((HO_7.out.1 _ rfl).2)) | exact ((HO_7.out.1 _ rfl).2))
                     rw [← Ny244.out] at ho
                     have n0_ := Aside0.mk (Kd.R_after (ok := (fun _ => True)) pwd_ hg hat)
                     have n1_ := Aside0.mk (IsS103.grown pwk_ hg (IsS103.own_ne HI0.out HO242.out (by decide)))
                     have n2_ := Aside0.mk (Kd.R_after (ok := (fun k_ => some k_ ≠ (.slice (some ad239) x7_2.length co98 : Value).ownBlock)) (by (with_reducible repeat apply Kd.R_alloc); exact HL239_0.out) hg hat)
                     have n3_ := Aside0.mk (Kd.R_after (ok := (fun k_ => some k_ ≠ (.slice (some ad239) x7_2.length co98 : Value).ownBlock)) (by (with_reducible repeat apply Kd.R_alloc); exact HL243_0.out) hg hat)
                     have n4_ := Aside0.mk (below_weaken pwm_ HL.out hb)
                     have n5_ := Aside0.mk (KeepBut.trans pwj_ (KeepBut.of_grown hg g) (Kd.R_base2 HO242.out))
                     have n6_ := Aside0.mk (ho)
                     clear HO_7
                     clear HI0
                     clear HL239_0
                     clear HL243_0
                     clear HB
                     clear HK
                     clear HO242
                     have HO_7 := n0_
                     have HI0 := n1_
                     have HL239_0 := n2_
                     have HL243_0 := n3_
                     have HB := n4_
                     have HK := n5_
                     have HO246 := n6_
                     clear n0_ n1_ n2_ n3_ n4_ n5_ n6_
                     clear ho hb hg hat
                     refine hK.out _ _ ⟨HS0_, HS1_⟩ (fun hHeld => ?_)
                     clear hK K
                     refine norm_ (a' := ?_) ?_ ?_
                     rotate_left
                     ·show Act.put _ (some 85) _ = _
                      simp only [Act.put, List.setIfInBounds_toArray, List.set_cons_zero, List.set_cons_succ, i64_w, i32_w]
                      rfl
                     refine one_ (i := 13) (N := some 87) #[true, true, true, true, true, true, true, true, true, true, true, true, true, true, false, false, false, false, false] rfl rfl (one_of HT_.out (by kernel_rfl)) (by decide) (fun K hK => ?_)
                     refine goes_ Try.func60 (by kernel_rfl) rfl #[.pointer (some ⟨g, 0, none⟩), .int .i64 3] (by rfl) rfl rfl pwi_ ?_
                     with_reducible refine (spec_l20Rd_pick.calls k2 g s0_0 t186 3 t247 t248 w0 _ ?side1 ?side2 A89.out).mono ?_
                     (case side1 => repeat (first | (with_reducible first | exact HI0.out | apply IsS103.alloc | apply IsS103.drewN | apply IsS103.drew | apply IsS103.set_1) | exact HI0.out))
                     (case side2 => repeat (first | (with_reducible first | exact HB.out | apply below_alloc | apply pw_below_drewN | apply below_drew1 | refine below_set ?_ (IsS103.ge HI0.out)) | exact HB.out))
                     rintro e w105 ⟨rfl, hi, hb, hk⟩
                     have HS0_ := keep_cell hk (hHeld.1) (by first | (rw [add_block]; exact Kd.own_blk (IsS103.own_ne HI0.out HO_7.out (by decide))) | (show (Addr.add _ _).block ≠ _; rw [add_block]; exact Kd.own_blk (IsS103.own_ne HI0.out HO_7.out (by decide))) | exact Kd.own_blk (IsS103.own_ne HI0.out HO_7.out (by decide)))
                     have HS1_ := keep_cell hk (hHeld.2) (by first | (rw [add_block]; exact Kd.own_blk (IsS103.own_ne HI0.out HO_7.out (by decide))) | (show (Addr.add _ _).block ≠ _; rw [add_block]; exact Kd.own_blk (IsS103.own_ne HI0.out HO_7.out (by decide))) | exact Kd.own_blk (IsS103.own_ne HI0.out HO_7.out (by decide)))
                     refine ⟨_, rfl, ?_⟩
                     have n0_ := Aside0.mk (Kd.R_mono (Kd.R_keep (IsS103.apart (show IsS103 w0 _ g s0_0 t186 from by repeat (first | (with_reducible first | exact HI0.out | apply IsS103.alloc | apply IsS103.drewN | apply IsS103.drew | apply IsS103.set_1) | exact HI0.out)) pwd_ (by decide)) hk (fun _ h => h.2)) (fun _ h => h.1))
                     have n1_ := Aside0.mk (Kd.R_mono (Kd.R_keep (IsS103.apart (show IsS103 w0 _ g s0_0 t186 from by repeat (first | (with_reducible first | exact HI0.out | apply IsS103.alloc | apply IsS103.drewN | apply IsS103.drew | apply IsS103.set_1) | exact HI0.out)) (by (with_reducible repeat apply Kd.R_alloc); exact HL239_0.out) (by decide)) hk (fun _ h => h.2)) (fun _ h => h.1))
                     have n2_ := Aside0.mk (Kd.R_mono (Kd.R_keep (IsS103.apart (show IsS103 w0 _ g s0_0 t186 from by repeat (first | (with_reducible first | exact HI0.out | apply IsS103.alloc | apply IsS103.drewN | apply IsS103.drew | apply IsS103.set_1) | exact HI0.out)) (by (with_reducible repeat apply Kd.R_alloc); exact HL243_0.out) (by decide)) hk (fun _ h => h.2)) (fun _ h => h.1))
                     have n3_ := Aside0.mk (Kd.R_mono (Kd.R_keep (IsS103.apart (show IsS103 w0 _ g s0_0 t186 from by repeat (first | (with_reducible first | exact HI0.out | apply IsS103.alloc | apply IsS103.drewN | apply IsS103.drew | apply IsS103.set_1) | exact HI0.out)) (by (with_reducible repeat apply Kd.R_alloc); exact HO246.out) (by decide)) hk (fun _ h => h.2)) (fun _ h => h.1))
                     have n4_ := Aside0.mk (KeepBut.trans pwj_ hk (.inl rfl))
                     have n5_ := Aside0.mk (hb)
                     have n6_ := Aside0.mk (hi)
                     clear HO_7
                     clear HL239_0
                     clear HL243_0
                     clear HO246
                     clear HK
                     clear HB
                     clear HI0
                     have HO_7 := n0_
                     have HL239_0 := n1_
                     have HL243_0 := n2_
                     have HO246 := n3_
                     have HK := n4_
                     have HB := n5_
                     have HI0 := n6_
                     clear n0_ n1_ n2_ n3_ n4_ n5_ n6_
                     (try clear hb)
                     (try clear hb2)
                     (try clear hk)
                     (try clear hi)
                     refine hK.out _ _ ⟨HS0_, HS1_⟩ (fun hHeld => ?_)
                     clear hK K
                     refine norm_ (a' := ?_) ?_ ?_
                     rotate_left
                     ·show Act.put _ (some 87) _ = _
                      simp only [Act.put, List.setIfInBounds_toArray, List.set_cons_zero, List.set_cons_succ, i64_w, i32_w]
                      rfl
                     refine pure_ (i := 14) (N := some 88) (v := ?_) (a' := ?_) #[true, true, true, true, true, true, true, true, true, true, true, true, true, true, true, false, false, false, false] rfl rfl (any_of HT_.out (by kernel_rfl)) (fun _ _ _ h => h) (Or.inl ⟨by rfl, ?_⟩) ?_ ?_
                     rotate_left
                     ·intro w'
                      go_simp
                      with_reducible rfl
                     rotate_left
                     ·simp only [Act.put, List.setIfInBounds_toArray, List.set_cons_zero, List.set_cons_succ, i64_w, i32_w]
                      rfl
                     refine pure_ (i := 15) (N := some 89) (v := ?_) (a' := ?_) #[true, true, true, true, true, true, true, true, true, true, true, true, true, true, true, true, false, false, false] rfl rfl (any_of HT_.out (by kernel_rfl)) (fun _ _ _ h => h) (Or.inl ⟨by rfl, ?_⟩) ?_ ?_
                     rotate_left
                     ·intro w'
                      go_simp
                      with_reducible rfl
                     rotate_left
                     ·simp only [Act.put, List.setIfInBounds_toArray, List.set_cons_zero, List.set_cons_succ, i64_w, i32_w]
                      rfl
                     refine last_ (i := 16) (N := some 90) #[true, true, true, true, true, true, true, true, true, true, true, true, true, true, true, true, true, false, false] rfl rfl (one_of HT_.out (by kernel_rfl)) (by decide) (fun K hK => ?_)
                     refine value_ (w1 := ?_) (v := ?_) (by rfl) rfl ?_ ?_
                     rotate_left 2
                     ·go_simp
                      constructor
                      ·rfl
                      ·rfl
                     refine hK.out _ _ ?_
                     clear hK K
                     refine norm_ (a' := ?_) ?_ ?_
                     rotate_left
                     ·show Act.put _ (some 90) _ = _
                      simp only [Act.put, List.setIfInBounds_toArray, List.set_cons_zero, List.set_cons_succ, i64_w, i32_w]
                      rfl
                     refine one_ (i := 17) (N := some 91) #[true, true, true, true, true, true, true, true, true, true, true, true, true, true, true, true, true, true, false] rfl rfl (one_of HT_.out (by kernel_rfl)) (by decide) (fun K hK => ?_)
                     refine Kd.R_append_step k62 w.heap.size (by rfl) (.tmp 85) (.tmp 90) 25 62 (.agg #[(.int .i64 0), (.int .i64 0)]) 16 rfl Try.underlying25 info62 rfl (by decide) (by omega) v245 y244 (⟨wrap64 (3 + t247), 0⟩ : S62) [.int .i64 (wrap64 (3 + t247)), .int .i64 0] (fun k_ => some k_ ≠ (.slice A239_0 (rd_L3 x7_2 t185).length c239_0 : Value).ownBlock ∧ some k_ ≠ (.slice A243_0 (rd_L3 x7_2 (ji85)).length c243_0 : Value).ownBlock) (fun _ => False) rfl rfl ?aP (fun _ hk => hk.elim) ?aF ?aO (Below.refl _ _) ?aS ?aL ?_
                     (case aP => exact k62_mkM _ _ _ (⟨wrap64 (3 + t247), 0⟩ : S62))
                     (case aF => exact (fun k_ hk => ⟨Kd.fresh' (Kd.R_lt (by (with_reducible repeat apply Kd.R_alloc); exact HL239_0.out)) k_ hk, Kd.fresh' (Kd.R_lt (by (with_reducible repeat apply Kd.R_alloc); exact HL243_0.out)) k_ hk⟩))
                     (case aO => exact (by (with_reducible repeat apply Kd.R_alloc); exact HO246.out))
                     (case aS => exact (keep_size (w := w) (g := g) (row := none) pwj_))
                     (case aL => have := LMc90.out; omega)
                     intro v250 w106 ho hb hg hat
                     have HS0_ := cell_grown hg (hHeld.1) (by first | (rw [add_block]; exact ((HO_7.out.1 _ rfl).2)) | (show some (Addr.add _ _).block ≠ _; rw [add_block]; exact ((HO_7.out.1 _ rfl).2)) | exact ((HO_7.out.1 _ rfl).2))
                     have HS1_ := cell_grown hg (hHeld.2) (by first | (rw [add_block]; exact ((HO_7.out.1 _ rfl).2)) | (show some (Addr.add _ _).block ≠ _; rw [add_block]; exact ((HO_7.out.1 _ rfl).2)) | exact ((HO_7.out.1 _ rfl).2))
                     rw [← Ny249.out] at ho
                     have n0_ := Aside0.mk (Kd.R_after (ok := (fun _ => True)) pwd_ hg hat)
                     have n1_ := Aside0.mk (IsS103.grown pwk_ hg (IsS103.own_ne HI0.out HO246.out (by decide)))
                     have n2_ := Aside0.mk (Kd.R_after (ok := (fun k_ => some k_ ≠ (.slice (some ad239) x7_2.length co98 : Value).ownBlock)) (by (with_reducible repeat apply Kd.R_alloc); exact HL239_0.out) hg hat)
                     have n3_ := Aside0.mk (Kd.R_after (ok := (fun k_ => some k_ ≠ (.slice (some ad239) x7_2.length co98 : Value).ownBlock)) (by (with_reducible repeat apply Kd.R_alloc); exact HL243_0.out) hg hat)
                     have n4_ := Aside0.mk (below_weaken pwm_ HL.out hb)
                     have n5_ := Aside0.mk (KeepBut.trans pwj_ (KeepBut.of_grown hg g) (Kd.R_base2 HO246.out))
                     have n6_ := Aside0.mk (ho)
                     clear HO_7
                     clear HI0
                     clear HL239_0
                     clear HL243_0
                     clear HB
                     clear HK
                     clear HO246
                     have HO_7 := n0_
                     have HI0 := n1_
                     have HL239_0 := n2_
                     have HL243_0 := n3_
                     have HB := n4_
                     have HK := n5_
                     have HO251 := n6_
                     clear n0_ n1_ n2_ n3_ n4_ n5_ n6_
                     clear ho hb hg hat
                     refine hK.out _ _ ⟨HS0_, HS1_⟩ (fun hHeld => ?_)
                     clear hK K
                     refine norm_ (a' := ?_) ?_ ?_
                     rotate_left
                     ·show Act.put _ (some 91) _ = _
                      simp only [Act.put, List.setIfInBounds_toArray, List.set_cons_zero, List.set_cons_succ, i64_w, i32_w]
                      rfl
                     refine pure_ (i := 18) (N := some 11) (v := ?_) (a' := ?_) #[true, true, true, true, true, true, true, true, true, true, true, true, true, true, true, true, true, true, true] rfl rfl (any_of HT_.out (by kernel_rfl)) (fun _ _ _ h => h) (Or.inl ⟨by rfl, ?_⟩) ?_ ?_
                     rotate_left
                     ·intro w'
                      go_simp
                      with_reducible rfl
                     rotate_left
                     ·simp only [Act.put, List.setIfInBounds_toArray, List.set_cons_zero, List.set_cons_succ, i64_w, i32_w]
                      rfl
                     refine done_ (done_of HT_.out (by kernel_rfl)) ?_
                     try go_wp2_with (first | ((with_reducible refine gate_dst (N := 92) rfl ?_); refine Kd.R_lit (Kd.slice 62 k62) _ 25 ?hg (N := 92) ?hd (xs := ([] : List (List (S62)))) (inner := []) (ok := fun _ => True) (okp := fun _ => True) ?hr ?hp (fun _ hk => hk) trivial (Below.refl _ _) (Nat.le_refl _) (by simp) ?_; (case hd => rfl); (case hg => rfl); (case hr => first | (go_simp; done) | (go_simp; rfl)); (case hp => exact (Reps.none _ _)); intro v253 w107 ho108 hb hg_ hnew_; clear hg_ hnew_; (first | rw [← Ny252.out] at ho108 | (simp only [Int.reduceToNat] at ho108; rw [← Ny252.out] at ho108)); have n0_ := Aside0.mk (Kd.R_elder' pwd_ (Kd.R_base ho108) hb); have n1_ := Aside0.mk (Kd.R_below (by (with_reducible repeat apply Kd.R_alloc); exact HL239_0.out) hb); have n2_ := Aside0.mk (Kd.R_below (by (with_reducible repeat apply Kd.R_alloc); exact HL243_0.out) hb); have n3_ := Aside0.mk (Kd.R_below (by (with_reducible repeat apply Kd.R_alloc); exact HO251.out) hb); have n4_ := Aside0.mk (Kd.R_lower (Kd.R_new' (Kd.R_new' (Kd.R_new' (Kd.R_new' ho108 (Kd.R_lt pwd_)) (Kd.R_lt (by (with_reducible repeat apply Kd.R_alloc); exact HL239_0.out))) (Kd.R_lt (by (with_reducible repeat apply Kd.R_alloc); exact HL243_0.out))) (Kd.R_lt (by (with_reducible repeat apply Kd.R_alloc); exact HO251.out))) (keep_size (w := w) (g := g) (row := none) pwj_)); have n5_ := Aside0.mk (IsS103.below pwk_ hb); have n6_ := Aside0.mk (KeepBut.trans pwj_ (KeepBut.of_below hb g none) (.inl rfl)); have n7_ := Aside0.mk (below_step pwm_ hb); clear HO_7; clear HL239_0; clear HL243_0; clear HO251; clear HI0; clear HK; clear HB; have HO_7 := n0_; have HL239_0 := n1_; have HL243_0 := n2_; have HO251 := n3_; have HO254 := n4_; have HI0 := n5_; have HK := n6_; have HB := n7_; clear n0_ n1_ n2_ n3_ n4_ n5_ n6_ n7_; clear hb ho108; have q109 : (t185 : Int) ≤ ((x7_2.length : Int) : Int) := of_decide_eq_true pwb_; obtain ⟨i0109, hi0109, _, hsz109, _⟩ := info_parts info25; have hroom109 : x7_2.length ≤ co98 := (Kd.R_reads' HO_7.out).2.1; have hC109 : Kd.C (Kd.slice 62 k62) _ (some ad239) x7_2.length x7_2 := (Kd.R_reads' HO_7.out).2.2; have hcut109 := cut_to (P := Try.prog) 104 25 .i64 Try.underlying104 hi0109 (some ad239) x7_2.length co98 t185 (of_decide_eq_true pwb_) q109 hroom109; have hr109 := Kd.C_take (m := (t185 : Int).toNat) hC109 (by omega); have hy109 : y255.length = (t185 : Int).toNat := (by rw [Ny255.out, List.length_take]; omega); rw [← Ny255.out] at hr109; rw [← hy109] at hcut109; have HR258 := Aside0.mk hr109; have HC258 := Aside0.mk (show y255.length ≤ co98 from by omega); clear hr109 hC109 hroom109 hi0109 hsz109; have KY109 := Aside0.mk hy109; clear hy109; have KL109 := Aside0.mk (show (t185 : Int).toNat ≤ x7_2.length from by omega); replace q109 := eq_true q109) | ((with_reducible refine gate_builtin (b := .append) (xs := #[.tmp 92, .tmp 95]) rfl ?_); at_builtin; refine Kd.R_append_rows (Kd.slice 62 k62) w.heap.size rfl (.tmp 92) (.tmp 95) 104 25 (.slice none 0 0) 24 rfl Try.underlying104 info25 rfl (by decide) (by omega) v253 y252 y255 _ _ _ (fun k_ => some k_ ≠ (.slice (some ad239) x7_2.length co98 : Value).ownBlock ∧ some k_ ≠ (v250 : Value).ownBlock) (fun k_ => ((fun k_ => some k_ ≠ (.slice (some ad239) x7_2.length co98 : Value).ownBlock ∧ some k_ ≠ (v250 : Value).ownBlock)) k_ ∧ some k_ ≠ (v253 : Value).ownBlock) rfl rfl ?aO ?aR (fun _ _ h => h) (fun _ hk => hk) ?aF (Below.refl _ _) ?aS ?aL ?_; (case aR => rw [Ny255.out]; exact Kd.C_take (m := (t185 : Int).toNat) (Kd.R_frozen (okp := (fun k_ => ((fun k_ => some k_ ≠ (.slice (some ad239) x7_2.length co98 : Value).ownBlock ∧ some k_ ≠ (v250 : Value).ownBlock)) k_ ∧ some k_ ≠ (v253 : Value).ownBlock)) (HO_7.out) (fun k_ hk => ⟨⟨hk.2, hk.1.1.2⟩, hk.1.2⟩)).2.2 KL109.out); (case aF => exact (fun k_ hk => ⟨Kd.fresh' (Kd.R_lt pwd_) k_ hk, Kd.fresh' (Kd.R_lt (by (with_reducible repeat apply Kd.R_alloc); exact HO251.out)) k_ hk⟩)); (case aO => exact (by (with_reducible repeat apply Kd.R_alloc); exact Kd.R_mono HO254.out (fun _ hk => ⟨hk.1.1.1.2, hk.2⟩))); (case aS => exact (keep_size (w := w) (g := g) (row := none) pwj_)); (case aL => have := LMc93.out; omega); intro v260 w110 ho hb hg hat; rw [← Ny259.out] at ho; have n0_ := Aside0.mk (Kd.R_after (ok := (fun k_ => some k_ ≠ (v250 : Value).ownBlock)) (by (with_reducible repeat apply Kd.R_alloc); exact Kd.R_mono HO_7.out (fun _ hk => ⟨hk.1.2, hk.2⟩)) hg hat); have n1_ := Aside0.mk (IsS103.grown pwk_ hg (IsS103.own_ne HI0.out HO254.out (by decide))); have n2_ := Aside0.mk (Kd.R_over' (by (with_reducible repeat apply Kd.R_alloc); exact HO251.out) (Kd.R_typed (by (with_reducible repeat apply Kd.R_alloc); exact HO254.out)) (by decide) hg); have n3_ := Aside0.mk (below_weaken pwm_ HL.out hb); have n4_ := Aside0.mk (KeepBut.trans pwj_ (KeepBut.of_grown hg g) (Kd.R_base2 HO254.out)); have n5_ := Aside0.mk ((show Kd.C (Kd.slice 62 k62) w110 (some ad239) y255.length y255 from by rw [Ny255.out]; exact Kd.C_take (m := (t185 : Int).toNat) ((Kd.R_reads' (Kd.R_after (ok := (fun k_ => some k_ ≠ (v250 : Value).ownBlock)) (by (with_reducible repeat apply Kd.R_alloc); exact Kd.R_mono HO_7.out (fun _ hk => ⟨hk.1.2, hk.2⟩)) hg hat)).2.2) KL109.out)); have n6_ := Aside0.mk (ho); clear HO_7; clear HI0; clear HO251; clear HB; clear HK; clear HR258; clear HO254; have HO_7 := n0_; have HI0 := n1_; have HO251 := n2_; have HB := n3_; have HK := n4_; have HR258 := n5_; have HO261 := n6_; clear n0_ n1_ n2_ n3_ n4_ n5_ n6_; clear ho hb hg hat; obtain ⟨Ao112, co112, eo112⟩ := Kd.R_slice HO251.out; subst eo112) | ((with_reducible refine gate_builtin (b := .append) (xs := #[.tmp 97, .tmp 99]) rfl ?_); at_builtin; refine Kd.R_append (Kd.slice 62 k62) w.heap.size rfl (.tmp 97) (.tmp 99) 104 25 (.slice none 0 0) 24 rfl Try.underlying104 info25 rfl (by decide) (by omega) v260 y259 y249 [.slice Ao112 y249.length co112] (fun k_ => some k_ ≠ (.slice (some ad239) x7_2.length co98 : Value).ownBlock) (fun k_ => ((fun k_ => some k_ ≠ (.slice (some ad239) x7_2.length co98 : Value).ownBlock)) k_ ∧ some k_ ≠ (v260 : Value).ownBlock) rfl rfl ?aP (fun _ hk => hk) ?aF ?aO (Below.refl _ _) ?aS ?aL ?_; (case aP => exact Kd.M_row (Kd.R_mono (Kd.R_apart' (Kd.R_apart' (HO251.out) (Kd.R_typed HO_7.out) (by decide)) (Kd.R_typed HO261.out) (by decide)) (fun k_ hk => ⟨hk.1.2, hk.2⟩))); (case aF => exact (fun k_ hk => Kd.fresh' (Kd.R_lt pwd_) k_ hk)); (case aO => exact (by (with_reducible repeat apply Kd.R_alloc); exact Kd.R_mono HO261.out (fun _ hk => hk.1))); (case aS => exact (keep_size (w := w) (g := g) (row := none) pwj_)); (case aL => have := LMc94.out; omega); intro v263 w111 ho hb hg hat; rw [← Ny262.out] at ho; have n0_ := Aside0.mk (Kd.R_after (ok := (fun k_ => some k_ ≠ (.slice Ao112 y249.length co112 : Value).ownBlock)) pwd_ hg hat); have n1_ := Aside0.mk (IsS103.grown pwk_ hg (IsS103.own_ne HI0.out HO261.out (by decide))); have n2_ := Aside0.mk (below_weaken pwm_ HL.out hb); have n3_ := Aside0.mk (KeepBut.trans pwj_ (KeepBut.of_grown hg g) (Kd.R_base2 HO261.out)); have n4_ := Aside0.mk ((show Kd.C (Kd.slice 62 k62) w111 (some ad239) y255.length y255 from by rw [Ny255.out]; exact Kd.C_take (m := (t185 : Int).toNat) ((Kd.R_reads' (Kd.R_after (ok := (fun k_ => some k_ ≠ (.slice Ao112 y249.length co112 : Value).ownBlock)) pwd_ hg hat)).2.2) KL109.out)); have n5_ := Aside0.mk (ho); clear HO_7; clear HI0; clear HB; clear HK; clear HR258; clear HO261; clear HO251; have HO_7 := n0_; have HI0 := n1_; have HB := n2_; have HK := n3_; have HR258 := n4_; have HO264 := n5_; clear n0_ n1_ n2_ n3_ n4_ n5_; clear ho hb hg hat; have q113 : ((wrap64 (t185 + 2)) : Int) ≤ ((x7_2.length : Int) : Int) := of_decide_eq_true pwb_; obtain ⟨i0113, hi0113, _, hsz113, _⟩ := info_parts info25; have hroom113 : x7_2.length ≤ co98 := (Kd.R_reads' HO_7.out).2.1; have hC113 : Kd.C (Kd.slice 62 k62) _ (some ad239) x7_2.length x7_2 := (Kd.R_reads' HO_7.out).2.2; have q0113 : (0 : Int) ≤ ((wrap64 (t185 + 2)) : Int) := of_decide_eq_true pwb_; have hcut113 := cut_from (P := Try.prog) 104 25 .i64 Try.underlying104 hi0113 1 hsz113 (some ad239) x7_2.length co98 (wrap64 (t185 + 2)) q0113 q113; have hr113 := Kd.C_drop (m := ((wrap64 (t185 + 2)) : Int).toNat) (c := co98) hC113 (by omega) hroom113; obtain ⟨A113, hA113⟩ : ∃ A1, A1 = (if co98 = ((wrap64 (t185 + 2)) : Int).toNat then (some ad239) else ((some ad239) : Option Addr).map (·.add (((wrap64 (t185 + 2)) : Int).toNat * 1))) := ⟨_, rfl⟩; obtain ⟨c113, hc113⟩ : ∃ c1, c1 = co98 - ((wrap64 (t185 + 2)) : Int).toNat := ⟨_, rfl⟩; have hy113 : y265.length = x7_2.length - ((wrap64 (t185 + 2)) : Int).toNat := (by rw [Ny265.out, List.length_drop] <;> omega); rw [show (x7_2).drop ((wrap64 (t185 + 2)) : Int).toNat = y265 from Ny265.out.symm] at hr113; replace hr113 : Kd.C (Kd.slice 62 k62) _ A113 y265.length y265 := (by rw [hA113]; exact hr113); rw [← hy113, ← hA113, ← hc113] at hcut113; have HR268 := Aside0.mk hr113; have HC268 := Aside0.mk (show y265.length ≤ c113 from by rw [hy113, hc113]; exact Nat.sub_le_sub_right hroom113 _); clear hr113 hC113 hroom113 hi0113 hsz113 hc113; have KY113 := Aside0.mk hy113; have KA113 := Aside0.mk hA113; clear hy113 hA113; have KL113 := Aside0.mk (show ((wrap64 (t185 + 2)) : Int).toNat ≤ x7_2.length from by omega); replace q113 := eq_true q113) | ((with_reducible refine gate_builtin (b := .append) (xs := #[.tmp 101, .tmp 105]) rfl ?_); at_builtin; refine Kd.R_append_rows (Kd.slice 62 k62) w.heap.size rfl (.tmp 101) (.tmp 105) 104 25 (.slice none 0 0) 24 rfl Try.underlying104 info25 rfl (by decide) (by omega) v263 y262 y265 _ _ _ (fun k_ => some k_ ≠ (.slice (some ad239) x7_2.length co98 : Value).ownBlock) (fun k_ => ((fun k_ => some k_ ≠ (.slice (some ad239) x7_2.length co98 : Value).ownBlock)) k_ ∧ some k_ ≠ (v263 : Value).ownBlock) rfl rfl ?aO ?aR (fun _ _ h => h) (fun _ hk => hk) ?aF (Below.refl _ _) ?aS ?aL ?_; (case aR => rw [Ny265.out, KA113.out]; exact Kd.C_drop (m := ((wrap64 (t185 + 2)) : Int).toNat) (c := co98) (Kd.R_frozen (okp := (fun k_ => ((fun k_ => some k_ ≠ (.slice (some ad239) x7_2.length co98 : Value).ownBlock)) k_ ∧ some k_ ≠ (v263 : Value).ownBlock)) (HO_7.out) (fun k_ hk => ⟨hk.2, hk.1.2⟩)).2.2 KL113.out (Kd.R_frozen (okp := (fun k_ => ((fun k_ => some k_ ≠ (.slice (some ad239) x7_2.length co98 : Value).ownBlock)) k_ ∧ some k_ ≠ (v263 : Value).ownBlock)) (HO_7.out) (fun k_ hk => ⟨hk.2, hk.1.2⟩)).2.1); (case aF => exact (fun k_ hk => Kd.fresh' (Kd.R_lt pwd_) k_ hk)); (case aO => exact (by (with_reducible repeat apply Kd.R_alloc); exact HO264.out)); (case aS => exact (keep_size (w := w) (g := g) (row := none) pwj_)); (case aL => have := LMc97.out; omega); intro v270 w114 ho hb hg hat; rw [← Ny269.out] at ho; have n0_ := Aside0.mk (Kd.R_after (ok := (fun _ => True)) (by (with_reducible repeat apply Kd.R_alloc); exact Kd.R_mono HO_7.out (fun _ hk => ⟨trivial, hk.2⟩)) hg hat); have n1_ := Aside0.mk (IsS103.grown pwk_ hg (IsS103.own_ne HI0.out HO264.out (by decide))); have n2_ := Aside0.mk (below_weaken pwm_ HL.out hb); have n3_ := Aside0.mk (KeepBut.trans pwj_ (KeepBut.of_grown hg g) (Kd.R_base2 HO264.out)); have n4_ := Aside0.mk ((show Kd.C (Kd.slice 62 k62) w114 (some ad239) y255.length y255 from by rw [Ny255.out]; exact Kd.C_take (m := (t185 : Int).toNat) ((Kd.R_reads' (Kd.R_after (ok := (fun _ => True)) (by (with_reducible repeat apply Kd.R_alloc); exact Kd.R_mono HO_7.out (fun _ hk => ⟨trivial, hk.2⟩)) hg hat)).2.2) KL109.out)); have n5_ := Aside0.mk ((show Kd.C (Kd.slice 62 k62) w114 A113 y265.length y265 from by rw [Ny265.out, KA113.out]; exact Kd.C_drop (m := ((wrap64 (t185 + 2)) : Int).toNat) (c := co98) ((Kd.R_reads' (Kd.R_after (ok := (fun _ => True)) (by (with_reducible repeat apply Kd.R_alloc); exact Kd.R_mono HO_7.out (fun _ hk => ⟨trivial, hk.2⟩)) hg hat)).2.2) KL113.out ((Kd.R_reads' (Kd.R_after (ok := (fun _ => True)) (by (with_reducible repeat apply Kd.R_alloc); exact Kd.R_mono HO_7.out (fun _ hk => ⟨trivial, hk.2⟩)) hg hat)).2.1))); have n6_ := Aside0.mk (ho); clear HO_7; clear HI0; clear HB; clear HK; clear HR258; clear HR268; clear HO264; have HO_7 := n0_; have HI0 := n1_; have HB := n2_; have HK := n3_; have HR258 := n4_; have HR268 := n5_; have HO271 := n6_; clear n0_ n1_ n2_ n3_ n4_ n5_ n6_; clear ho hb hg hat))
                     go_roundg k2
                     case measure => have := HK1.out; have := HK2.out; omega
                     case rel => exact ⟨(y269), (x9_2), (t248), pwa_, H', ⟨by have := HK1.out; have := HK2.out; omega⟩, ⟨by (with_reducible repeat apply Kd.R_alloc); exact Kd.R_mono HO271.out (fun _ hk => trivial)⟩, ⟨pwk_⟩, ⟨pwj_⟩, ⟨pwm_⟩⟩
                    ·rw [if_neg c97] at H
                     exact absurd H (by simp)
                   ·rw [if_neg c96] at H
                    exact absurd H (by simp)
                  ·rw [if_neg c95] at H
                   exact absurd H (by simp)
                 ·rw [if_neg c94] at H
                  exact absurd H (by simp)
                ·rw [if_neg c93] at H
                 exact absurd H (by simp)
               ·rw [if_neg c92] at H
                exact absurd H (by simp)
              ·rw [if_neg c90] at H
               exact absurd H (by simp)
             ·rw [if_neg c88] at H
              exact absurd H (by simp)
            ·rw [if_neg c87] at H
             exact absurd H (by simp)
           ·rw [if_neg c86] at H
            exact absurd H (by simp)
          ·rw [if_neg c84] at H
           exact absurd H (by simp)
         ·rw [if_neg c83] at H
          exact absurd H (by simp)
        ·rw [if_neg c82] at H
         exact absurd H (by simp)
      ·rw [if_neg c29] at H
       have c29b0 : decide (1 < (x7_2.length : Int)) = false := decide_eq_false c29
       have c29b1 : decide (1 < x7_2.length) = false := decide_eq_false (by omega)
       clear c29
       by_cases c115 : 0 < (x7_2.length : Int)
       ·rw [if_pos c115] at H
        have c115b0 : decide (0 < (x7_2.length : Int)) = true := decide_eq_true c115
        have c115b1 : decide (0 < x7_2.length) = true := decide_eq_true (by omega)
        clear c115
        replace H := Option.bind_eq_some_iff.mp H
        obtain ⟨⟨t273, t274⟩, A1160, H⟩ := H
        replace H : (if t273 = 0 then (if (rd_L3 x7_2 0).length < 8796093022208 then (spec_l20Term.j2 k2 a2 ((rd_L3 x7_2 0) ++ [(⟨2, 0⟩ : S62)]) s0_0 t274) else (none)) else (spec_l20Term.j2 k2 a2 (rd_L3 x7_2 0) s0_0 t274)) = some (r1, r2) := H
        have A116 := Aside0.mk A1160
        clear A1160
        have HC117 := Aside0.mk H
        clear H
        obtain ⟨Ao118, co118, eo118⟩ := Kd.R_slice HO_7.out
        subst eo118
        have p272 : 0 ≤ (0 : Int) := (by omega)
        have q272 : 0 < (x7_2.length : Int) := of_decide_eq_true pwb_
        obtain ⟨ad272, A272_0, c272_0, e272, hx272_0, hl272_0, hi272_0⟩ := at_L3 (Kd.R_reads' HO_7.out).2.2 0 p272 q272
        cases e272
        obtain ⟨ce272, hce272, hMe272, hcc272⟩ := Kd.R_get HO_7.out [] 0 p272 (by first | exact q272 | exact of_decide_eq_true pwb_ | (have e_ := (Kd.R_reads' HO_7.out).1; omega))
        obtain ⟨ve272_0, rfl, ge272_0⟩ := hMe272
        have hv272_0 := hcc272 0 _ rfl
        rw [Nat.add_zero, show ((Kd.slice 62 k62)).sz = 1 from rfl, Nat.mul_one] at hv272_0
        replace hv272_0 := Option.some.inj (hv272_0.symm.trans hx272_0)
        rw [hv272_0] at ge272_0
        have HL272_0 := Aside0.mk (show Kd.R k62 62 _ _ _ _ (rd_L3 x7_2 0) from ge272_0)
        clear hv272_0 ge272_0
        clear hcc272 hce272
        have qi272 : (0 < x7_2.length) = True := eq_true (by omega)
        (try rw [show ((0 : Int)).toNat = 0 from rfl] at hx272_0)
        (try rw [Addr.add_zero'] at hx272_0)
        have HR272_0 := Aside0.mk hi272_0
        have HC272_0 := Aside0.mk hl272_0
        clear hi272_0 hl272_0
        replace p272 := eq_true p272
        replace q272 := eq_true q272
        replace HL272_0 := Aside0.mk (show Kd.R k62 62 _ _ (fun _ => True) _ (rd_L3 x7_2 0) from Kd.R_mono HL272_0.out (fun _ hk => trivial))
        go_upto_if 112 with (first | ((with_reducible refine gate_callee (f := 60) rfl ?_); refine goesL_ (some 111) rfl rfl Try.func60 (by kernel_rfl) rfl #[.pointer (some ⟨g, 0, none⟩), .int .i64 5] rfl pwi_ ?_; (with_reducible refine (spec_l20Rd_pick.calls k2 g s0_0 x1001_2 5 t273 t274 w0 _ ?side1 ?side2 A116.out).mono ?_); (case side1 => repeat (first | (with_reducible first | exact HI0.out | apply IsS103.alloc | apply IsS103.drewN | apply IsS103.drew | apply IsS103.set_1) | exact HI0.out)); (case side2 => repeat (first | (with_reducible first | exact HB.out | apply below_alloc | apply pw_below_drewN | apply below_drew1 | refine below_set ?_ (IsS103.ge HI0.out)) | exact HB.out)); rintro e w119 ⟨rfl, hi, hb, hk⟩; refine ⟨_, rfl, ?_⟩; have n0_ := Aside0.mk (Kd.R_mono (Kd.R_keep (IsS103.apart (show IsS103 w0 _ g s0_0 x1001_2 from by repeat (first | (with_reducible first | exact HI0.out | apply IsS103.alloc | apply IsS103.drewN | apply IsS103.drew | apply IsS103.set_1) | exact HI0.out)) (by (with_reducible repeat apply Kd.R_alloc); exact HL272_0.out) (by decide)) hk (fun _ h => h.2)) (fun _ h => h.1)); have n1_ := Aside0.mk (KeepBut.trans pwj_ hk (.inl rfl)); have n2_ := Aside0.mk (hb); have n3_ := Aside0.mk (hi); clear HL272_0; clear HK; clear HB; clear HI0; have HL272_0 := n0_; have HK := n1_; have HB := n2_; have HI0 := n3_; clear n0_ n1_ n2_ n3_; (try clear hb); (try clear hb2); (try clear hk); (try clear hi)))
        (try simp only [Act.put, List.setIfInBounds_toArray, List.set_cons_zero, List.set_cons_succ])
        go_cut [13] (fun v13 wc => ∃ (kq : Nat) (x13_116 : List (S62)), Aside0 (spec_l20Term.j2 kq a2 x13_116 s0_0 t274 = some (r1, r2)) ∧ Aside0 (kq ≤ k2) ∧ Aside0 (Kd.R k62 62 wc w.heap.size (fun _ => True) v13 x13_116) ∧ Aside0 (IsS103 w0 wc g s0_0 t274) ∧ Aside0 (KeepBut w wc g none) ∧ Aside0 (Below w0.heap.size w0 wc))
        case first =>
         have H := HC117.out
         clear HC117
         by_cases c120 : t273 = 0
         ·rw [if_pos c120] at H
          have c120b0 : (t273 == 0) = true := beq_iff_eq.mpr c120
          have c120b1 : (t273 != 0) = false := bne_eq_false_iff_eq.mpr c120
          clear c120
          (first | rw [c120b0] | (simp only [i64_w, i32_w]; rw [c120b0]) | skip)
          by_cases c121 : (rd_L3 x7_2 0).length < 8796093022208
          ·rw [if_pos c121] at H
           have LMc121 := Aside0.mk c121
           clear c121
           obtain ⟨y275, hy275⟩ : ∃ y_ : List (S62), y_ = ((rd_L3 x7_2 0) ++ [(⟨2, 0⟩ : S62)]) := ⟨_, rfl⟩
           replace H : (spec_l20Term.j2 k2 a2 y275 s0_0 t274) = some (r1, r2) := by first | (rw [hy275]; with_reducible exact H) | (have H2_ := (Option.bind_some _ _).symm.trans H; rw [hy275]; with_reducible exact H2_) | (have H2_ := (Option.bind_some _ _).symm.trans H; with_reducible exact H2_) | with_reducible exact H | (rw [hy275]; exact H) | exact H
           have Ny275 := Aside0.mk hy275
           clear hy275
           have H' := Aside0.mk H
           clear H
           go_wp2_with (first | ((with_reducible refine gate_builtin (b := .append) (xs := #[.tmp 113, .tmp 115]) rfl ?_); at_builtin; refine Kd.R_append k62 w.heap.size rfl (.tmp 113) (.tmp 115) 25 62 (.agg #[(.int .i64 0), (.int .i64 0)]) 16 rfl Try.underlying25 info62 rfl (by decide) (by omega) (.slice A272_0 (rd_L3 x7_2 0).length c272_0) (rd_L3 x7_2 0) (⟨2, 0⟩ : S62) [.int .i64 2, .int .i64 0] (fun _ => True) (fun _ => False) rfl rfl ?aP (fun _ hk => hk.elim) ?aF ?aO (Below.refl _ _) ?aS ?aL ?_; (case aP => exact k62_mkM _ _ _ (⟨2, 0⟩ : S62)); (case aF => exact (fun _ _ => trivial)); (case aO => exact (by (with_reducible repeat apply Kd.R_alloc); exact HL272_0.out)); (case aS => exact (keep_size (w := w) (g := g) (row := none) pwj_)); (case aL => have := LMc121.out; omega); intro v276 w122 ho hb hg hat; rw [← Ny275.out] at ho; have n0_ := Aside0.mk (IsS103.grown pwk_ hg (IsS103.own_ne HI0.out HL272_0.out (by decide))); have n1_ := Aside0.mk (below_weaken pwm_ HL.out hb); have n2_ := Aside0.mk (KeepBut.trans pwj_ (KeepBut.of_grown hg g) (Kd.R_base2 HL272_0.out)); have n3_ := Aside0.mk (ho); clear HI0; clear HB; clear HK; clear HL272_0; have HI0 := n0_; have HB := n1_; have HK := n2_; have HO277 := n3_; clear n0_ n1_ n2_ n3_; clear ho hb hg hat))
           go_meet
           case rel => exact ⟨_, (y275), H', ⟨by have := HK1.out; have := HK2.out; first | omega | exact Nat.le_refl _⟩, ⟨by (with_reducible repeat apply Kd.R_alloc); exact HO277.out⟩, ⟨pwk_⟩, ⟨pwj_⟩, ⟨pwm_⟩⟩
          ·rw [if_neg c121] at H
           exact absurd H (by simp)
         ·rw [if_neg c120] at H
          have c120b0 : (t273 == 0) = false := beq_eq_false_iff_ne.mpr c120
          have c120b1 : (t273 != 0) = true := bne_iff_ne.mpr c120
          (first | rw [c120b0] | (simp only [i64_w, i32_w]; rw [c120b0]) | skip)
          have H' := Aside0.mk H
          clear H
          go_wp2
          go_meet
          case rel => exact ⟨_, (rd_L3 x7_2 0), H', ⟨by have := HK1.out; have := HK2.out; first | omega | exact Nat.le_refl _⟩, ⟨by (with_reducible repeat apply Kd.R_alloc); exact HL272_0.out⟩, ⟨pwk_⟩, ⟨pwj_⟩, ⟨pwm_⟩⟩
        case rest =>
         clear HC117
         try clear c1
         try clear q1
         try clear c2
         try clear p2
         try clear q2
         try clear hx2
         try clear qi2
         try clear c3
         try clear c4
         try clear c6
         try clear p6
         try clear c8
         try clear c9
         try clear q10
         try clear c11
         try clear q11
         try clear c12
         try clear c23
         try clear p23
         try clear q23
         try clear hx23
         try clear c24
         try clear p24
         try clear q24
         try clear hx24
         try clear c27
         try clear p27
         try clear q27
         try clear hx27
         try clear qi27
         try clear c29
         try clear c29b0
         try clear c29b1
         try clear c31
         try clear c31b0
         try clear c48
         try clear c49
         try clear c60
         try clear p64
         try clear c82
         try clear c82b0
         try clear c83
         try clear c83b0
         try clear c84
         try clear c86
         try clear c86b0
         try clear c87
         try clear c87b0
         try clear c88
         try clear c90
         try clear c91
         try clear c91b0
         try clear c92
         try clear c92b0
         try clear c92b1
         try clear c93
         try clear c94
         try clear c95
         try clear c95b0
         try clear c95b1
         try clear c96
         try clear c96b0
         try clear c96b1
         try clear c97
         try clear q109
         try clear c113
         try clear q113
         try clear c115
         try clear c115b0
         try clear c115b1
         try clear c120
         try clear c120b0
         try clear c120b1
         try clear c121
         try clear hx239_0
         try clear hx243_0
         try clear hx272_0
         try clear p239
         try clear p243
         try clear p272
         try clear q0113
         try clear q109
         try clear q113
         try clear q239
         try clear q243
         try clear q272
         obtain ⟨kq, x13_116, HA, HJ116, HO_13, HI0, HK, HB⟩ := hcut
         cases kq with
         | zero => exact absurd HA.out (by simp [spec_l20Term.j2])
         | succ kj116 =>
          have H := HA.out
          clear HA
          simp only [spec_l20Term.j2] at H
          replace H := Option.bind_eq_some_iff.mp H
          obtain ⟨⟨t278, t279⟩, A1230, H⟩ := H
          replace H : (if t278 = true then ((spec_l20Rd_pick.f kj116 s0_0 t279 3).bind fun bt280 => (if bt280.1 = 0 then (some ((([] : List (S62))), bt280.2)) else (if bt280.1 = 1 then (if x13_116.length < 8796093022208 then (some ((x13_116 ++ [(⟨5, 0⟩ : S62)]), bt280.2)) else (none)) else ((spec_l20Rd_pick.f kj116 s0_0 bt280.2 2).bind fun bt288 => (if 0 < (x13_116.length : Int) then (some ((x13_116.set (0 : Int).toNat (⟨bt288.1, 6⟩ : S62)), bt288.2)) else (none)))))) else (some (x13_116, t279))) = some (r1, r2) := H
          have A123 := Aside0.mk A1230
          clear A1230
          by_cases c124 : t278 = true
          ·subst c124
           have H1 : ((spec_l20Rd_pick.f kj116 s0_0 t279 3).bind fun bt280 => (if bt280.1 = 0 then (some ((([] : List (S62))), bt280.2)) else (if bt280.1 = 1 then (if x13_116.length < 8796093022208 then (some ((x13_116 ++ [(⟨5, 0⟩ : S62)]), bt280.2)) else (none)) else ((spec_l20Rd_pick.f kj116 s0_0 bt280.2 2).bind fun bt288 => (if 0 < (x13_116.length : Int) then (some ((x13_116.set (0 : Int).toNat (⟨bt288.1, 6⟩ : S62)), bt288.2)) else (none)))))) = some (r1, r2) := by rw [if_pos rfl] at H; exact H
           clear H
           have H := H1
           clear H1
           replace H := Option.bind_eq_some_iff.mp H
           obtain ⟨⟨t280, t281⟩, A1250, H⟩ := H
           replace H : (if t280 = 0 then (some ((([] : List (S62))), t281)) else (if t280 = 1 then (if x13_116.length < 8796093022208 then (some ((x13_116 ++ [(⟨5, 0⟩ : S62)]), t281)) else (none)) else ((spec_l20Rd_pick.f kj116 s0_0 t281 2).bind fun bt288 => (if 0 < (x13_116.length : Int) then (some ((x13_116.set (0 : Int).toNat (⟨bt288.1, 6⟩ : S62)), bt288.2)) else (none))))) = some (r1, r2) := H
           have A125 := Aside0.mk A1250
           clear A1250
           by_cases c126 : t280 = 0
           ·rw [if_pos c126] at H
            have c126b0 : (t280 == 0) = true := beq_iff_eq.mpr c126
            have c126b1 : (t280 != 0) = false := bne_eq_false_iff_eq.mpr c126
            clear c126
            obtain ⟨y282, hy282⟩ : ∃ y_ : List (S62), y_ = (([] : List (S62))) := ⟨_, rfl⟩
            replace H : (some (y282, t281)) = some (r1, r2) := by first | (rw [hy282]; with_reducible exact H) | (have H2_ := (Option.bind_some _ _).symm.trans H; rw [hy282]; with_reducible exact H2_) | (have H2_ := (Option.bind_some _ _).symm.trans H; with_reducible exact H2_) | with_reducible exact H | (rw [hy282]; exact H) | exact H
            have Ny282 := Aside0.mk hy282
            clear hy282
            simp only [Option.some.injEq, Prod.mk.injEq] at H
            obtain ⟨rfl, rfl⟩ := H
            go_wp2_with (first | ((with_reducible refine gate_callee (f := 88) rfl ?_); refine goesL_ (some 119) rfl rfl Try.func88 (by kernel_rfl) rfl #[.pointer (some ⟨g, 0, none⟩), .int .i64 a2] rfl pwi_ ?_; (with_reducible refine (spec_l20Rd_odd.calls kj116 g s0_0 t274 a2 true t279 w0 _ ?side1 ?side2 A123.out).mono ?_); (case side1 => repeat (first | (with_reducible first | exact HI0.out | apply IsS103.alloc | apply IsS103.drewN | apply IsS103.drew | apply IsS103.set_1) | exact HI0.out)); (case side2 => repeat (first | (with_reducible first | exact HB.out | apply below_alloc | apply pw_below_drewN | apply below_drew1 | refine below_set ?_ (IsS103.ge HI0.out)) | exact HB.out)); rintro e w127 ⟨rfl, hi, hb, hk⟩; refine ⟨_, rfl, ?_⟩; have n0_ := Aside0.mk (Kd.R_mono (Kd.R_keep (IsS103.apart (show IsS103 w0 _ g s0_0 t274 from by repeat (first | (with_reducible first | exact HI0.out | apply IsS103.alloc | apply IsS103.drewN | apply IsS103.drew | apply IsS103.set_1) | exact HI0.out)) pwe_ (by decide)) hk (fun _ h => h.2)) (fun _ h => h.1)); have n1_ := Aside0.mk (KeepBut.trans pwj_ hk (.inl rfl)); have n2_ := Aside0.mk (hb); have n3_ := Aside0.mk (hi); clear HO_13; clear HK; clear HB; clear HI0; have HO_13 := n0_; have HK := n1_; have HB := n2_; have HI0 := n3_; clear n0_ n1_ n2_ n3_; (try clear hb); (try clear hb2); (try clear hk); (try clear hi)) | ((with_reducible refine gate_callee (f := 60) rfl ?_); refine goesL_ (some 121) rfl rfl Try.func60 (by kernel_rfl) rfl #[.pointer (some ⟨g, 0, none⟩), .int .i64 3] rfl pwi_ ?_; (with_reducible refine (spec_l20Rd_pick.calls kj116 g s0_0 t279 3 t280 t281 w0 _ ?side1 ?side2 A125.out).mono ?_); (case side1 => repeat (first | (with_reducible first | exact HI0.out | apply IsS103.alloc | apply IsS103.drewN | apply IsS103.drew | apply IsS103.set_1) | exact HI0.out)); (case side2 => repeat (first | (with_reducible first | exact HB.out | apply below_alloc | apply pw_below_drewN | apply below_drew1 | refine below_set ?_ (IsS103.ge HI0.out)) | exact HB.out)); rintro e w128 ⟨rfl, hi, hb, hk⟩; refine ⟨_, rfl, ?_⟩; have n0_ := Aside0.mk (Kd.R_mono (Kd.R_keep (IsS103.apart (show IsS103 w0 _ g s0_0 t279 from by repeat (first | (with_reducible first | exact HI0.out | apply IsS103.alloc | apply IsS103.drewN | apply IsS103.drew | apply IsS103.set_1) | exact HI0.out)) pwe_ (by decide)) hk (fun _ h => h.2)) (fun _ h => h.1)); have n1_ := Aside0.mk (KeepBut.trans pwj_ hk (.inl rfl)); have n2_ := Aside0.mk (hb); have n3_ := Aside0.mk (hi); clear HO_13; clear HK; clear HB; clear HI0; have HO_13 := n0_; have HK := n1_; have HB := n2_; have HI0 := n3_; clear n0_ n1_ n2_ n3_; (try clear hb); (try clear hb2); (try clear hk); (try clear hi)) | ((with_reducible refine gate_dst (N := 129) rfl ?_); refine Kd.R_lit k62 _ 62 ?hg (N := 129) ?hd (xs := ([] : List (S62))) (inner := []) (ok := fun _ => True) (okp := fun _ => True) ?hr ?hp (fun _ hk => hk) trivial (Below.refl _ _) (Nat.le_refl _) (by simp) ?_; (case hd => rfl); (case hg => rfl); (case hr => first | (go_simp; done) | (go_simp; rfl)); (case hp => exact (Reps.none _ _)); intro v283 w129 ho130 hb hg_ hnew_; clear hg_ hnew_; (first | rw [← Ny282.out] at ho130 | (simp only [Int.reduceToNat] at ho130; rw [← Ny282.out] at ho130)); have n0_ := Aside0.mk (Kd.R_elder' pwe_ (Kd.R_base ho130) hb); have n1_ := Aside0.mk (Kd.R_lower (Kd.R_new' ho130 (Kd.R_lt pwe_)) (keep_size (w := w) (g := g) (row := none) pwj_)); have n2_ := Aside0.mk (IsS103.below pwk_ hb); have n3_ := Aside0.mk (KeepBut.trans pwj_ (KeepBut.of_below hb g none) (.inl rfl)); have n4_ := Aside0.mk (below_step pwm_ hb); clear HO_13; clear HI0; clear HK; clear HB; have HO_13 := n0_; have HO284 := n1_; have HI0 := n2_; have HK := n3_; have HB := n4_; clear n0_ n1_ n2_ n3_ n4_; clear hb ho130))
            go_ret
            exact ⟨_, by first | rfl | (simp [errW_none, errW_some] <;> rfl) | (simp only [← hji4, ← hji5]; first | rfl | (simp [errW_none, errW_some] <;> rfl)) | (simp [*, errW_none, errW_some] <;> rfl), by (with_reducible repeat apply Kd.R_alloc); exact Kd.R_mono HO284.out (fun _ hk => trivial), pwk_, pwm_, pwj_⟩
           ·rw [if_neg c126] at H
            have c126b0 : (t280 == 0) = false := beq_eq_false_iff_ne.mpr c126
            have c126b1 : (t280 != 0) = true := bne_iff_ne.mpr c126
            by_cases c131 : t280 = 1
            ·rw [if_pos c131] at H
             have c131b0 : (t280 == 1) = true := beq_iff_eq.mpr c131
             have c131b1 : (t280 != 1) = false := bne_eq_false_iff_eq.mpr c131
             clear c131
             by_cases c132 : x13_116.length < 8796093022208
             ·rw [if_pos c132] at H
              have LMc132 := Aside0.mk c132
              clear c132
              obtain ⟨y285, hy285⟩ : ∃ y_ : List (S62), y_ = (x13_116 ++ [(⟨5, 0⟩ : S62)]) := ⟨_, rfl⟩
              replace H : (some (y285, t281)) = some (r1, r2) := by first | (rw [hy285]; with_reducible exact H) | (have H2_ := (Option.bind_some _ _).symm.trans H; rw [hy285]; with_reducible exact H2_) | (have H2_ := (Option.bind_some _ _).symm.trans H; with_reducible exact H2_) | with_reducible exact H | (rw [hy285]; exact H) | exact H
              have Ny285 := Aside0.mk hy285
              clear hy285
              simp only [Option.some.injEq, Prod.mk.injEq] at H
              obtain ⟨rfl, rfl⟩ := H
              go_wp2_with (first | ((with_reducible refine gate_callee (f := 88) rfl ?_); refine goesL_ (some 119) rfl rfl Try.func88 (by kernel_rfl) rfl #[.pointer (some ⟨g, 0, none⟩), .int .i64 a2] rfl pwi_ ?_; (with_reducible refine (spec_l20Rd_odd.calls kj116 g s0_0 t274 a2 true t279 w0 _ ?side1 ?side2 A123.out).mono ?_); (case side1 => repeat (first | (with_reducible first | exact HI0.out | apply IsS103.alloc | apply IsS103.drewN | apply IsS103.drew | apply IsS103.set_1) | exact HI0.out)); (case side2 => repeat (first | (with_reducible first | exact HB.out | apply below_alloc | apply pw_below_drewN | apply below_drew1 | refine below_set ?_ (IsS103.ge HI0.out)) | exact HB.out)); rintro e w133 ⟨rfl, hi, hb, hk⟩; refine ⟨_, rfl, ?_⟩; have n0_ := Aside0.mk (Kd.R_mono (Kd.R_keep (IsS103.apart (show IsS103 w0 _ g s0_0 t274 from by repeat (first | (with_reducible first | exact HI0.out | apply IsS103.alloc | apply IsS103.drewN | apply IsS103.drew | apply IsS103.set_1) | exact HI0.out)) pwe_ (by decide)) hk (fun _ h => h.2)) (fun _ h => h.1)); have n1_ := Aside0.mk (KeepBut.trans pwj_ hk (.inl rfl)); have n2_ := Aside0.mk (hb); have n3_ := Aside0.mk (hi); clear HO_13; clear HK; clear HB; clear HI0; have HO_13 := n0_; have HK := n1_; have HB := n2_; have HI0 := n3_; clear n0_ n1_ n2_ n3_; (try clear hb); (try clear hb2); (try clear hk); (try clear hi)) | ((with_reducible refine gate_callee (f := 60) rfl ?_); refine goesL_ (some 121) rfl rfl Try.func60 (by kernel_rfl) rfl #[.pointer (some ⟨g, 0, none⟩), .int .i64 3] rfl pwi_ ?_; (with_reducible refine (spec_l20Rd_pick.calls kj116 g s0_0 t279 3 t280 t281 w0 _ ?side1 ?side2 A125.out).mono ?_); (case side1 => repeat (first | (with_reducible first | exact HI0.out | apply IsS103.alloc | apply IsS103.drewN | apply IsS103.drew | apply IsS103.set_1) | exact HI0.out)); (case side2 => repeat (first | (with_reducible first | exact HB.out | apply below_alloc | apply pw_below_drewN | apply below_drew1 | refine below_set ?_ (IsS103.ge HI0.out)) | exact HB.out)); rintro e w134 ⟨rfl, hi, hb, hk⟩; refine ⟨_, rfl, ?_⟩; have n0_ := Aside0.mk (Kd.R_mono (Kd.R_keep (IsS103.apart (show IsS103 w0 _ g s0_0 t279 from by repeat (first | (with_reducible first | exact HI0.out | apply IsS103.alloc | apply IsS103.drewN | apply IsS103.drew | apply IsS103.set_1) | exact HI0.out)) pwe_ (by decide)) hk (fun _ h => h.2)) (fun _ h => h.1)); have n1_ := Aside0.mk (KeepBut.trans pwj_ hk (.inl rfl)); have n2_ := Aside0.mk (hb); have n3_ := Aside0.mk (hi); clear HO_13; clear HK; clear HB; clear HI0; have HO_13 := n0_; have HK := n1_; have HB := n2_; have HI0 := n3_; clear n0_ n1_ n2_ n3_; (try clear hb); (try clear hb2); (try clear hk); (try clear hi)) | ((with_reducible refine gate_builtin (b := .append) (xs := #[.tmp 132, .tmp 134]) rfl ?_); at_builtin; refine Kd.R_append k62 w.heap.size rfl (.tmp 132) (.tmp 134) 25 62 (.agg #[(.int .i64 0), (.int .i64 0)]) 16 rfl Try.underlying25 info62 rfl (by decide) (by omega) u13 x13_116 (⟨5, 0⟩ : S62) [.int .i64 5, .int .i64 0] (fun _ => True) (fun _ => False) rfl rfl ?aP (fun _ hk => hk.elim) ?aF ?aO (Below.refl _ _) ?aS ?aL ?_; (case aP => exact k62_mkM _ _ _ (⟨5, 0⟩ : S62)); (case aF => exact (fun _ _ => trivial)); (case aO => exact pwe_); (case aS => exact (keep_size (w := w) (g := g) (row := none) pwj_)); (case aL => have := LMc132.out; omega); intro v286 w135 ho hb hg hat; rw [← Ny285.out] at ho; have n0_ := Aside0.mk (IsS103.grown pwk_ hg (IsS103.own_ne HI0.out HO_13.out (by decide))); have n1_ := Aside0.mk (below_weaken pwm_ HL.out hb); have n2_ := Aside0.mk (KeepBut.trans pwj_ (KeepBut.of_grown hg g) (Kd.R_base2 HO_13.out)); have n3_ := Aside0.mk (ho); clear HI0; clear HB; clear HK; clear HO_13; have HI0 := n0_; have HB := n1_; have HK := n2_; have HO287 := n3_; clear n0_ n1_ n2_ n3_; clear ho hb hg hat))
              go_ret
              exact ⟨_, by first | rfl | (simp [errW_none, errW_some] <;> rfl) | (simp only [← hji4, ← hji5]; first | rfl | (simp [errW_none, errW_some] <;> rfl)) | (simp [*, errW_none, errW_some] <;> rfl), by (with_reducible repeat apply Kd.R_alloc); exact HO287.out, pwk_, pwm_, pwj_⟩
             ·rw [if_neg c132] at H
              exact absurd H (by simp)
            ·rw [if_neg c131] at H
             have c131b0 : (t280 == 1) = false := beq_eq_false_iff_ne.mpr c131
             have c131b1 : (t280 != 1) = true := bne_iff_ne.mpr c131
             replace H := Option.bind_eq_some_iff.mp H
             obtain ⟨⟨t288, t289⟩, A1360, H⟩ := H
             replace H : (if 0 < (x13_116.length : Int) then (some ((x13_116.set (0 : Int).toNat (⟨t288, 6⟩ : S62)), t289)) else (none)) = some (r1, r2) := H
             have A136 := Aside0.mk A1360
             clear A1360
             by_cases c137 : 0 < (x13_116.length : Int)
             ·rw [if_pos c137] at H
              have c137b0 : decide (0 < (x13_116.length : Int)) = true := decide_eq_true c137
              have c137b1 : decide (0 < x13_116.length) = true := decide_eq_true (by omega)
              clear c137
              obtain ⟨y290, hy290⟩ : ∃ y_ : List (S62), y_ = (x13_116.set (0 : Int).toNat (⟨t288, 6⟩ : S62)) := ⟨_, rfl⟩
              replace H : (some (y290, t289)) = some (r1, r2) := by first | (rw [hy290]; with_reducible exact H) | (have H2_ := (Option.bind_some _ _).symm.trans H; rw [hy290]; with_reducible exact H2_) | (have H2_ := (Option.bind_some _ _).symm.trans H; with_reducible exact H2_) | with_reducible exact H | (rw [hy290]; exact H) | exact H
              have Ny290 := Aside0.mk hy290
              clear hy290
              simp only [Option.some.injEq, Prod.mk.injEq] at H
              obtain ⟨rfl, rfl⟩ := H
              go_wp2_with (first | ((with_reducible refine gate_callee (f := 88) rfl ?_); refine goesL_ (some 119) rfl rfl Try.func88 (by kernel_rfl) rfl #[.pointer (some ⟨g, 0, none⟩), .int .i64 a2] rfl pwi_ ?_; (with_reducible refine (spec_l20Rd_odd.calls kj116 g s0_0 t274 a2 true t279 w0 _ ?side1 ?side2 A123.out).mono ?_); (case side1 => repeat (first | (with_reducible first | exact HI0.out | apply IsS103.alloc | apply IsS103.drewN | apply IsS103.drew | apply IsS103.set_1) | exact HI0.out)); (case side2 => repeat (first | (with_reducible first | exact HB.out | apply below_alloc | apply pw_below_drewN | apply below_drew1 | refine below_set ?_ (IsS103.ge HI0.out)) | exact HB.out)); rintro e w139 ⟨rfl, hi, hb, hk⟩; refine ⟨_, rfl, ?_⟩; have n0_ := Aside0.mk (Kd.R_mono (Kd.R_keep (IsS103.apart (show IsS103 w0 _ g s0_0 t274 from by repeat (first | (with_reducible first | exact HI0.out | apply IsS103.alloc | apply IsS103.drewN | apply IsS103.drew | apply IsS103.set_1) | exact HI0.out)) pwe_ (by decide)) hk (fun _ h => h.2)) (fun _ h => h.1)); have n1_ := Aside0.mk (KeepBut.trans pwj_ hk (.inl rfl)); have n2_ := Aside0.mk (hb); have n3_ := Aside0.mk (hi); clear HO_13; clear HK; clear HB; clear HI0; have HO_13 := n0_; have HK := n1_; have HB := n2_; have HI0 := n3_; clear n0_ n1_ n2_ n3_; (try clear hb); (try clear hb2); (try clear hk); (try clear hi)) | ((with_reducible refine gate_callee (f := 60) rfl ?_); refine goesL_ (some 121) rfl rfl Try.func60 (by kernel_rfl) rfl #[.pointer (some ⟨g, 0, none⟩), .int .i64 3] rfl pwi_ ?_; (with_reducible refine (spec_l20Rd_pick.calls kj116 g s0_0 t279 3 t280 t281 w0 _ ?side1 ?side2 A125.out).mono ?_); (case side1 => repeat (first | (with_reducible first | exact HI0.out | apply IsS103.alloc | apply IsS103.drewN | apply IsS103.drew | apply IsS103.set_1) | exact HI0.out)); (case side2 => repeat (first | (with_reducible first | exact HB.out | apply below_alloc | apply pw_below_drewN | apply below_drew1 | refine below_set ?_ (IsS103.ge HI0.out)) | exact HB.out)); rintro e w140 ⟨rfl, hi, hb, hk⟩; refine ⟨_, rfl, ?_⟩; have n0_ := Aside0.mk (Kd.R_mono (Kd.R_keep (IsS103.apart (show IsS103 w0 _ g s0_0 t279 from by repeat (first | (with_reducible first | exact HI0.out | apply IsS103.alloc | apply IsS103.drewN | apply IsS103.drew | apply IsS103.set_1) | exact HI0.out)) pwe_ (by decide)) hk (fun _ h => h.2)) (fun _ h => h.1)); have n1_ := Aside0.mk (KeepBut.trans pwj_ hk (.inl rfl)); have n2_ := Aside0.mk (hb); have n3_ := Aside0.mk (hi); clear HO_13; clear HK; clear HB; clear HI0; have HO_13 := n0_; have HK := n1_; have HB := n2_; have HI0 := n3_; clear n0_ n1_ n2_ n3_; (try clear hb); (try clear hb2); (try clear hk); (try clear hi)) | ((with_reducible refine gate_callee (f := 60) rfl ?_); refine goesL_ (some 124) rfl rfl Try.func60 (by kernel_rfl) rfl #[.pointer (some ⟨g, 0, none⟩), .int .i64 2] rfl pwi_ ?_; (with_reducible refine (spec_l20Rd_pick.calls kj116 g s0_0 t281 2 t288 t289 w0 _ ?side1 ?side2 A136.out).mono ?_); (case side1 => repeat (first | (with_reducible first | exact HI0.out | apply IsS103.alloc | apply IsS103.drewN | apply IsS103.drew | apply IsS103.set_1) | exact HI0.out)); (case side2 => repeat (first | (with_reducible first | exact HB.out | apply below_alloc | apply pw_below_drewN | apply below_drew1 | refine below_set ?_ (IsS103.ge HI0.out)) | exact HB.out)); rintro e w141 ⟨rfl, hi, hb, hk⟩; refine ⟨_, rfl, ?_⟩; have n0_ := Aside0.mk (Kd.R_mono (Kd.R_keep (IsS103.apart (show IsS103 w0 _ g s0_0 t281 from by repeat (first | (with_reducible first | exact HI0.out | apply IsS103.alloc | apply IsS103.drewN | apply IsS103.drew | apply IsS103.set_1) | exact HI0.out)) pwe_ (by decide)) hk (fun _ h => h.2)) (fun _ h => h.1)); have n1_ := Aside0.mk (KeepBut.trans pwj_ hk (.inl rfl)); have n2_ := Aside0.mk (hb); have n3_ := Aside0.mk (hi); clear HO_13; clear HK; clear HB; clear HI0; have HO_13 := n0_; have HK := n1_; have HB := n2_; have HI0 := n3_; clear n0_ n1_ n2_ n3_; (try clear hb); (try clear hb2); (try clear hk); (try clear hi); have p138 : 0 ≤ (0 : Int) := (by omega); have q138 : (0 : Int) < ((x13_116.length : Int) : Int) := of_decide_eq_true pwb_; have qi138 : (0 < x13_116.length) = True := eq_true (by omega); obtain ⟨go138, co138, eo138, gb138, gl138, cl138, HG138⟩ := Kd.R_form HO_13.out (by omega); (first | cases eo138 | (injection eo138 with ea_ en_ ec_; (first | subst ea_ | (injection ea_ with ea_; subst ea_)); subst ec_; clear en_)); have GB138 := Aside0.mk gb138; have GG138 := Aside0.mk HG138; clear gb138 gl138 HG138; obtain ⟨ce138, hcl138, hM138, hcc138, hfr138⟩ := Kd.R_elem HO_13.out z62 (0 : Int) p138 q138; obtain rfl := k62_openM hM138; have hx138_0 : w141.cell? ⟨go138, (0 : Int).toNat * 2, none⟩ = some (.int .i64 ((rd_T62 x13_116 0).f0)) := hcc138 0 _ rfl; have hx138_1 : w141.cell? ⟨go138, (0 : Int).toNat * 2 + 1, none⟩ = some (.int .i64 ((rd_T62 x13_116 0).f1)) := hcc138 1 _ rfl; have hf138_0 : w141.frozen? ⟨go138, (0 : Int).toNat * 2, none⟩ = false := hfr138 0; have hf138_1 : w141.frozen? ⟨go138, (0 : Int).toNat * 2 + 1, none⟩ = false := hfr138 1; clear hcl138 hcc138 hfr138; (try clear hM138); skip; (try rw [show ((0 : Int)).toNat = 0 from rfl] at hx138_0); (try simp only [Nat.reduceMul, Nat.zero_mul, Nat.zero_add, Nat.reduceAdd] at hx138_0); (try rw [show ((0 : Int)).toNat = 0 from rfl] at hf138_0); (try simp only [Nat.reduceMul, Nat.zero_mul, Nat.zero_add, Nat.reduceAdd] at hf138_0); (try rw [show ((0 : Int)).toNat = 0 from rfl] at hx138_1); (try simp only [Nat.reduceMul, Nat.zero_mul, Nat.zero_add, Nat.reduceAdd] at hx138_1); (try rw [show ((0 : Int)).toNat = 0 from rfl] at hf138_1); (try simp only [Nat.reduceMul, Nat.zero_mul, Nat.zero_add, Nat.reduceAdd] at hf138_1); replace p138 := eq_true p138; replace q138 := eq_true q138; have HX142 := Aside0.mk (show Kd.R k62 62 w141 w.heap.size (fun _ => True) (.slice (some ⟨go138, 0, none⟩) x13_116.length co138) x13_116 from pwe_); obtain ⟨ce142, hcl142, hM142, hcc142, hfr142⟩ := Kd.R_elem HX142.out z62 (0 : Int) (by omega) (by have h_ : (0 : Int) < ((x13_116.length : Int) : Int) := of_decide_eq_true pwb_; first | exact h_ | (have e_ := (Kd.R_reads' HO_13.out).1; omega) | simpa using h_); obtain rfl := k62_openM hM142; have HP142 := Kd.R_seg HX142.out (0 : Int) (by omega) (by have h_ : (0 : Int) < ((x13_116.length : Int) : Int) := of_decide_eq_true pwb_; first | exact h_ | (have e_ := (Kd.R_reads' HO_13.out).1; omega) | simpa using h_) (seg := [.int .i64 t288, .int .i64 6]) (j := 0) hcl142 hcc142 (show 2 ≤ 2 from by decide) (x' := (⟨t288, 6⟩ : S62)) (k62_mkM _ _ _ (⟨t288, 6⟩ : S62) ) (fun _ hk => hk); have hx142_0 := hcc142 0 _ rfl; (try simp only [show (k62).sz = 2 from rfl, Nat.mul_one, Nat.add_zero] at hx142_0); (try rw [show ((0 : Int)).toNat = 0 from rfl] at hx142_0); (try simp only [Nat.reduceMul, Nat.zero_mul, Nat.zero_add, Nat.reduceAdd] at hx142_0); have hf142_0 := hfr142 0; (try simp only [show (k62).sz = 2 from rfl, Nat.mul_one, Nat.add_zero] at hf142_0); (try rw [show ((0 : Int)).toNat = 0 from rfl] at hf142_0); (try simp only [Nat.reduceMul, Nat.zero_mul, Nat.zero_add, Nat.reduceAdd] at hf142_0); have hx142_1 := hcc142 1 _ rfl; (try simp only [show (k62).sz = 2 from rfl, Nat.mul_one, Nat.add_zero] at hx142_1); (try rw [show ((0 : Int)).toNat = 0 from rfl] at hx142_1); (try simp only [Nat.reduceMul, Nat.zero_mul, Nat.zero_add, Nat.reduceAdd] at hx142_1); have hf142_1 := hfr142 1; (try simp only [show (k62).sz = 2 from rfl, Nat.mul_one, Nat.add_zero] at hf142_1); (try rw [show ((0 : Int)).toNat = 0 from rfl] at hf142_1); (try simp only [Nat.reduceMul, Nat.zero_mul, Nat.zero_add, Nat.reduceAdd] at hf142_1); clear hcl142 hcc142 hfr142; (try clear hM142); skip) | ((with_reducible refine gate_store (t := 62) (p := 126) rfl ?_); refine store_event (t := 62) (p := 126) (v := ?vo_w143) (w1 := ((w141.setCell ⟨go138, 0, none⟩ (.int .i64 t288)).setCell ⟨go138, 1, none⟩ (.int .i64 6))) ?hg ?ho ?hn ?hr ?_; (case ho => rfl); (case hg => rfl); (case hn => rfl); (case hr => first | (go_simp; done) | (go_simp; rfl)); intro w143 hw; have hg : w141.grownBy w143 (some go138) := (by rw [hw]; exact HP142.2); have hp_ : Kd.R k62 62 w143 w.heap.size (fun _ => True) (.slice (some ⟨go138, 0, none⟩) x13_116.length co138) y290 := (by rw [hw, Ny290.out]; exact HP142.1); clear HP142; have n0_ := Aside0.mk (hp_); have n1_ := Aside0.mk (IsS103.grown pwk_ hg (IsS103.own_ne HI0.out HO_13.out (by decide))); have n2_ := Aside0.mk ((by rw [hw]; exact below_set (below_set (HB.out) (Nat.le_trans HL.out GB138.out)) (Nat.le_trans HL.out GB138.out) : Below w0.heap.size w0 w143)); have n3_ := Aside0.mk (KeepBut.trans pwj_ (KeepBut.of_grown hg g) (Kd.R_base2 HO_13.out)); clear HO_13; clear HI0; clear HB; clear HK; have HO_13 := n0_; have HI0 := n1_; have HB := n2_; have HK := n3_; clear n0_ n1_ n2_ n3_; clear hg hw hp_))
              go_ret
              exact ⟨_, by first | rfl | (simp [errW_none, errW_some] <;> rfl) | (simp only [← hji4, ← hji5]; first | rfl | (simp [errW_none, errW_some] <;> rfl)) | (simp [*, errW_none, errW_some] <;> rfl), pwe_, pwk_, pwm_, pwj_⟩
             ·rw [if_neg c137] at H
              exact absurd H (by simp)
          ·replace c124 := Bool.eq_false_iff.mpr c124
           subst c124
           have H1 : (some (x13_116, t279)) = some (r1, r2) := by rw [if_neg (show ¬ (false = true) by decide)] at H; exact H
           clear H
           have H := H1
           clear H1
           simp only [Option.some.injEq, Prod.mk.injEq] at H
           obtain ⟨rfl, rfl⟩ := H
           go_wp2_with (first | ((with_reducible refine gate_callee (f := 88) rfl ?_); refine goesL_ (some 119) rfl rfl Try.func88 (by kernel_rfl) rfl #[.pointer (some ⟨g, 0, none⟩), .int .i64 a2] rfl pwi_ ?_; (with_reducible refine (spec_l20Rd_odd.calls kj116 g s0_0 t274 a2 false t279 w0 _ ?side1 ?side2 A123.out).mono ?_); (case side1 => repeat (first | (with_reducible first | exact HI0.out | apply IsS103.alloc | apply IsS103.drewN | apply IsS103.drew | apply IsS103.set_1) | exact HI0.out)); (case side2 => repeat (first | (with_reducible first | exact HB.out | apply below_alloc | apply pw_below_drewN | apply below_drew1 | refine below_set ?_ (IsS103.ge HI0.out)) | exact HB.out)); rintro e w144 ⟨rfl, hi, hb, hk⟩; refine ⟨_, rfl, ?_⟩; have n0_ := Aside0.mk (Kd.R_mono (Kd.R_keep (IsS103.apart (show IsS103 w0 _ g s0_0 t274 from by repeat (first | (with_reducible first | exact HI0.out | apply IsS103.alloc | apply IsS103.drewN | apply IsS103.drew | apply IsS103.set_1) | exact HI0.out)) pwe_ (by decide)) hk (fun _ h => h.2)) (fun _ h => h.1)); have n1_ := Aside0.mk (KeepBut.trans pwj_ hk (.inl rfl)); have n2_ := Aside0.mk (hb); have n3_ := Aside0.mk (hi); clear HO_13; clear HK; clear HB; clear HI0; have HO_13 := n0_; have HK := n1_; have HB := n2_; have HI0 := n3_; clear n0_ n1_ n2_ n3_; (try clear hb); (try clear hb2); (try clear hk); (try clear hi)))
           go_ret
           exact ⟨_, by first | rfl | (simp [errW_none, errW_some] <;> rfl) | (simp only [← hji4, ← hji5]; first | rfl | (simp [errW_none, errW_some] <;> rfl)) | (simp [*, errW_none, errW_some] <;> rfl), pwe_, pwk_, pwm_, pwj_⟩
       ·rw [if_neg c115] at H
        exact absurd H (by simp)

end Go.Proofs.Ytfhmafmfaoknlaa.PFnClaimTerm
