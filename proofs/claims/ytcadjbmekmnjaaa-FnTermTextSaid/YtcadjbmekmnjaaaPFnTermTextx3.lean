-- Made by a program of this session (wip/tools/patchprint.py), not by the kit itself.
import Derived.Test.YtcadjbmekmnjaaaPFnTermTextx0
import Derived.Test.YtcadjbmekmnjaaaPFnTermTextx2
namespace Go.Proofs.Ytcadjbmekmnjaaa.PFnTermText
open Go.RowKit Go.Proofs.YtcadjbmekmnjaaaW.PrintWords Go.Proofs.YtcadjbmekmnjaaaW.PrintLast Go.Proofs.YtcadjbmekmnjaaaW.PrintMore
attribute [local go_sem] max2_int min2_int max_two min_two max_three min_three max_four min_four   -- for this text's walks alone
set_option linter.unusedVariables false
set_option linter.unusedSimpArgs false

attribute [local go_sem] setCell_isSome
/-! ### spec_l20Term: function 20 -/
mutual
def spec_l20Term.l0 : Nat → Int → Int → List (List (S39)) → Int → List Int → Int → Option ((List (S39)) × Int)
 | 0, _, _, _, _, _, _ => none
 | k + 1, x1, x2, x7, x8, x1000, x1001 => if x8 > 0 then ((spec_l20Rd_pick.f k x1000 x1001 4).bind fun bt111 => (if bt111.1 = 0 then ((spec_l20Rd_pick.f k x1000 bt111.2 (wrap64 (x1 + 2))).bind fun bt113 => (if x7.length < 5864062014805 then (spec_l20Term.l0 k x1 x2 (x7 ++ [(([(⟨1, bt113.1⟩ : S39)] : List (S39)))]) (wrap64 (x8 - 1)) x1000 bt113.2) else (none))) else ((spec_l20Rd_pick.f k x1000 bt111.2 x1).bind fun bt121 => (if x7.length < 5864062014805 then (spec_l20Term.l0 k x1 x2 (x7 ++ [(([(⟨0, bt121.1⟩ : S39)] : List (S39)))]) (wrap64 (x8 - 1)) x1000 bt121.2) else (none))))) else (spec_l20Term.l1 k x2 x7 3 x1000 x1001)
def spec_l20Term.l1 : Nat → Int → List (List (S39)) → Int → List Int → Int → Option ((List (S39)) × Int)
 | 0, _, _, _, _, _ => none
 | k + 1, x2, x7, x9, x1000, x1001 => if (x7.length : Int) > 1 then ((spec_l20Rd_pick.f k x1000 x1001 (wrap64 ((x7.length : Int) - 1))).bind fun bt129 => (if x9 > 0 then ((spec_l20Rd_pick.f k x1000 bt129.2 4).bind fun bt131 => (if bt131.1 = 0 then ((some (([] : List (S39)) : List (S39))).bind fun y133 => (if 0 ≤ bt129.1 then (if bt129.1 < (x7.length : Int) then (if y133.length + (rd_L3 x7 bt129.1).length < 8796093022208 then ((some (y133 ++ (rd_L3 x7 bt129.1) : List (S39))).bind fun y137 => (if y137.length < 8796093022208 then (spec_l20Term.l1 k x2 (x7.set (bt129.1 : Int).toNat (y137 ++ [(⟨2, 0⟩ : S39)])) (wrap64 (x9 - 1)) x1000 bt131.2) else (none))) else (none)) else (none)) else (none))) else ((some (([] : List (S39)) : List (S39))).bind fun y144 => (if 0 ≤ bt129.1 then (if bt129.1 < (x7.length : Int) then (if y144.length + (rd_L3 x7 bt129.1).length < 8796093022208 then ((some (y144 ++ (rd_L3 x7 bt129.1) : List (S39))).bind fun y148 => (if 0 ≤ (wrap64 (bt129.1 + 1)) then (if (wrap64 (bt129.1 + 1)) < (x7.length : Int) then (if y148.length + (rd_L3 x7 (wrap64 (bt129.1 + 1))).length < 8796093022208 then ((some (y148 ++ (rd_L3 x7 (wrap64 (bt129.1 + 1))) : List (S39))).bind fun y152 => ((spec_l20Rd_pick.f k x1000 bt131.2 3).bind fun bt155 => (if y152.length < 8796093022208 then ((some (([] : List (List (S39))) : List (List (S39)))).bind fun y160 => (if bt129.1 ≤ (x7.length : Int) then ((some (x7.take (bt129.1 : Int).toNat : List (List (S39)))).bind fun y163 => (if y160.length + y163.length < 5864062014805 then ((some (y160 ++ y163 : List (List (S39)))).bind fun y167 => (if y167.length < 5864062014805 then ((some (y167 ++ [(y152 ++ [(⟨wrap64 (3 + bt155.1), 0⟩ : S39)])] : List (List (S39)))).bind fun y170 => (if 0 ≤ (wrap64 (bt129.1 + 2)) then (if (wrap64 (bt129.1 + 2)) ≤ (x7.length : Int) then ((some (x7.drop ((wrap64 (bt129.1 + 2)) : Int).toNat : List (List (S39)))).bind fun y173 => (if y170.length + y173.length < 5864062014805 then (spec_l20Term.l1 k x2 (y170 ++ y173) x9 x1000 bt155.2) else (none))) else (none)) else (none))) else (none))) else (none))) else (none))) else (none)))) else (none)) else (none)) else (none))) else (none)) else (none)) else (none))))) else ((some (([] : List (S39)) : List (S39))).bind fun y180 => (if 0 ≤ bt129.1 then (if bt129.1 < (x7.length : Int) then (if y180.length + (rd_L3 x7 bt129.1).length < 8796093022208 then ((some (y180 ++ (rd_L3 x7 bt129.1) : List (S39))).bind fun y184 => (if 0 ≤ (wrap64 (bt129.1 + 1)) then (if (wrap64 (bt129.1 + 1)) < (x7.length : Int) then (if y184.length + (rd_L3 x7 (wrap64 (bt129.1 + 1))).length < 8796093022208 then ((some (y184 ++ (rd_L3 x7 (wrap64 (bt129.1 + 1))) : List (S39))).bind fun y188 => ((spec_l20Rd_pick.f k x1000 bt129.2 3).bind fun bt191 => (if y188.length < 8796093022208 then ((some (([] : List (List (S39))) : List (List (S39)))).bind fun y196 => (if bt129.1 ≤ (x7.length : Int) then ((some (x7.take (bt129.1 : Int).toNat : List (List (S39)))).bind fun y199 => (if y196.length + y199.length < 5864062014805 then ((some (y196 ++ y199 : List (List (S39)))).bind fun y203 => (if y203.length < 5864062014805 then ((some (y203 ++ [(y188 ++ [(⟨wrap64 (3 + bt191.1), 0⟩ : S39)])] : List (List (S39)))).bind fun y206 => (if 0 ≤ (wrap64 (bt129.1 + 2)) then (if (wrap64 (bt129.1 + 2)) ≤ (x7.length : Int) then ((some (x7.drop ((wrap64 (bt129.1 + 2)) : Int).toNat : List (List (S39)))).bind fun y209 => (if y206.length + y209.length < 5864062014805 then (spec_l20Term.l1 k x2 (y206 ++ y209) x9 x1000 bt191.2) else (none))) else (none)) else (none))) else (none))) else (none))) else (none))) else (none)))) else (none)) else (none)) else (none))) else (none)) else (none)) else (none))))) else (if 0 < (x7.length : Int) then ((spec_l20Rd_pick.f k x1000 x1001 5).bind fun bt217 => (if bt217.1 = 0 then (if (rd_L3 x7 0).length < 8796093022208 then (spec_l20Term.j2 k x2 ((rd_L3 x7 0) ++ [(⟨2, 0⟩ : S39)]) x1000 bt217.2) else (none)) else (spec_l20Term.j2 k x2 (rd_L3 x7 0) x1000 bt217.2))) else (none))
def spec_l20Term.j2 : Nat → Int → List (S39) → List Int → Int → Option ((List (S39)) × Int)
 | 0, _, _, _, _ => none
 | k + 1, x2, x13, x1000, x1001 => (spec_l20Rd_odd.f k x1000 x1001 x2).bind fun bt222 => (if bt222.1 = true then ((spec_l20Rd_pick.f k x1000 bt222.2 3).bind fun bt224 => (if bt224.1 = 0 then (some ((([] : List (S39))), bt224.2)) else (if bt224.1 = 1 then (if x13.length < 8796093022208 then (some ((x13 ++ [(⟨5, 0⟩ : S39)]), bt224.2)) else (none)) else ((spec_l20Rd_pick.f k x1000 bt224.2 2).bind fun bt232 => (if 0 < (x13.length : Int) then (some ((x13.set (0 : Int).toNat (⟨bt232.1, 6⟩ : S39)), bt232.2)) else (none)))))) else (some (x13, bt222.2)))
end
def spec_l20Term.f (k : Nat) (s0_0 : List Int) (s0_1 : Int) (a1 : Int) (a2 : Int) : Option ((List (S39)) × Int) := (spec_l20Rd_pick.f k s0_0 s0_1 4).bind fun bt109 => (spec_l20Term.l0 k (mn (mx a1 1) 4) a2 (([] : List (List (S39)))) (wrap64 (1 + bt109.1)) s0_0 bt109.2)
theorem spec_l20Term.mono_l : ∀ k, (∀ y0 y1 y2 y3 y4 y5, LeO (spec_l20Term.l0 k y0 y1 y2 y3 y4 y5) (spec_l20Term.l0 (k + 1) y0 y1 y2 y3 y4 y5)) ∧ (∀ y0 y1 y2 y3 y4, LeO (spec_l20Term.l1 k y0 y1 y2 y3 y4) (spec_l20Term.l1 (k + 1) y0 y1 y2 y3 y4)) ∧ (∀ y0 y1 y2 y3, LeO (spec_l20Term.j2 k y0 y1 y2 y3) (spec_l20Term.j2 (k + 1) y0 y1 y2 y3))
 | 0 => ⟨fun _ _ _ _ _ _ r h => by simp [spec_l20Term.l0] at h, fun _ _ _ _ _ r h => by simp [spec_l20Term.l1] at h, fun _ _ _ _ r h => by simp [spec_l20Term.j2] at h⟩
 | k + 1 => by
  obtain ⟨ih0, ih1, ih2⟩ := spec_l20Term.mono_l k
  refine ⟨?_, ?_, ?_⟩
  ·intro y0 y1 y2 y3 y4 y5
   unfold spec_l20Term.l0
   repeat' first
   | (with_reducible exact ih0 _ _ _ _ _ _)
   | (with_reducible exact ih1 _ _ _ _ _)
   | (with_reducible exact ih2 _ _ _ _)
   | (with_reducible exact spec_l20Rd_odd.mono _ _ _ _)
   | (with_reducible exact spec_l20Rd_pick.mono _ _ _ _)
   | (with_reducible exact LeO.refl _)
   | (with_reducible exact LeO.none _)
   | (with_reducible refine LeO.ite ?_ ?_)
   | (with_reducible refine LeO.bind ?_ (fun _ => ?_))
   | exact ih0 _ _ _ _ _ _
   | exact ih1 _ _ _ _ _
   | exact ih2 _ _ _ _
   | exact spec_l20Rd_odd.mono _ _ _ _
   | exact spec_l20Rd_pick.mono _ _ _ _
   | exact LeO.none _
   | refine LeO.ite ?_ ?_
   | refine LeO.bind ?_ (fun _ => ?_)
  ·intro y0 y1 y2 y3 y4
   unfold spec_l20Term.l1
   repeat' first
   | (with_reducible exact ih0 _ _ _ _ _ _)
   | (with_reducible exact ih1 _ _ _ _ _)
   | (with_reducible exact ih2 _ _ _ _)
   | (with_reducible exact spec_l20Rd_odd.mono _ _ _ _)
   | (with_reducible exact spec_l20Rd_pick.mono _ _ _ _)
   | (with_reducible exact LeO.refl _)
   | (with_reducible exact LeO.none _)
   | (with_reducible refine LeO.ite ?_ ?_)
   | (with_reducible refine LeO.bind ?_ (fun _ => ?_))
   | exact ih0 _ _ _ _ _ _
   | exact ih1 _ _ _ _ _
   | exact ih2 _ _ _ _
   | exact spec_l20Rd_odd.mono _ _ _ _
   | exact spec_l20Rd_pick.mono _ _ _ _
   | exact LeO.none _
   | refine LeO.ite ?_ ?_
   | refine LeO.bind ?_ (fun _ => ?_)
  ·intro y0 y1 y2 y3
   unfold spec_l20Term.j2
   repeat' first
   | (with_reducible exact ih0 _ _ _ _ _ _)
   | (with_reducible exact ih1 _ _ _ _ _)
   | (with_reducible exact ih2 _ _ _ _)
   | (with_reducible exact spec_l20Rd_odd.mono _ _ _ _)
   | (with_reducible exact spec_l20Rd_pick.mono _ _ _ _)
   | (with_reducible exact LeO.refl _)
   | (with_reducible exact LeO.none _)
   | (with_reducible refine LeO.ite ?_ ?_)
   | (with_reducible refine LeO.bind ?_ (fun _ => ?_))
   | exact ih0 _ _ _ _ _ _
   | exact ih1 _ _ _ _ _
   | exact ih2 _ _ _ _
   | exact spec_l20Rd_odd.mono _ _ _ _
   | exact spec_l20Rd_pick.mono _ _ _ _
   | exact LeO.none _
   | refine LeO.ite ?_ ?_
   | refine LeO.bind ?_ (fun _ => ?_)
theorem spec_l20Term.mono : ∀ a0 a1 a2 a3 k, LeO (spec_l20Term.f k a0 a1 a2 a3) (spec_l20Term.f (k + 1) a0 a1 a2 a3) := by
 intro a0 a1 a2 a3 k
 obtain ⟨ih0, ih1, ih2⟩ := spec_l20Term.mono_l k
 unfold spec_l20Term.f
 repeat' first
   | (with_reducible exact ih0 _ _ _ _ _ _)
   | (with_reducible exact ih1 _ _ _ _ _)
   | (with_reducible exact ih2 _ _ _ _)
   | (with_reducible exact spec_l20Rd_odd.mono _ _ _ _)
   | (with_reducible exact spec_l20Rd_pick.mono _ _ _ _)
   | (with_reducible exact LeO.refl _)
   | (with_reducible exact LeO.none _)
   | (with_reducible refine LeO.ite ?_ ?_)
   | (with_reducible refine LeO.bind ?_ (fun _ => ?_))
   | exact ih0 _ _ _ _ _ _
   | exact ih1 _ _ _ _ _
   | exact ih2 _ _ _ _
   | exact spec_l20Rd_odd.mono _ _ _ _
   | exact spec_l20Rd_pick.mono _ _ _ _
   | exact LeO.none _
   | refine LeO.ite ?_ ?_
   | refine LeO.bind ?_ (fun _ => ?_)
def spec_l20Term.T15 : Bool × List (List Nat × List Nat) := (true, [([], []), ([], []), ([], []), ([1, 2], [1, 2]), ([3], [3]), ([0, 4], [0, 4]), ([], []), ([], []), ([7], [7]), ([6, 8], [6, 8]), ([9], [9]), ([5, 10, 5], [5, 10]), ([], []), ([12, 11], [12]), ([13], [13]), ([14], [14]), ([15], [15]), ([11, 16, 13], [11, 16]), ([17, 17, 0, 1, 2, 3, 4, 5, 6, 7, 8, 9, 10, 11, 12, 13, 14, 15, 16, 17], [17])])
def spec_l20Term.B15 : List Nat := [0, 0, 0, 6, 14, 31, 0, 0, 128, 448, 960, 2047, 0, 8191, 16383, 32767, 65535, 131071, 262143]
theorem spec_l20Term.tab15 : rtab .any (opsOf Try.f20 15) = spec_l20Term.T15 := by kernel_rfl
theorem spec_l20Term.bits15 : waitsOk spec_l20Term.T15.2 spec_l20Term.B15 = true := by kernel_rfl
set_option maxHeartbeats 8000000 in
set_option maxRecDepth 100000 in
theorem spec_l20Term.calls (k : Nat) (g : Nat) (s0_0 : List Int) (s0_1 : Int) (a1 : Int) (a2 : Int) (r1 : List (S39)) (r2 : Int) (w0 w : World) (hI : IsS46 w0 w g s0_0 s0_1) (hB : Below w0.heap.size w0 w) (h : spec_l20Term.f k s0_0 s0_1 a1 a2 = some (r1, r2)) :
  Calls Try.prog 20 #[.pointer (some ⟨g, 0, none⟩), .int .i64 a1, .int .i64 a2] w fun e w' => ∃ v0_ : Value, e = .returned (v0_) ∧ Kd.R k39 39 w' w.heap.size (fun _ => True) v0_ r1 ∧ IsS46 w0 w' g s0_0 r2 ∧ Below w0.heap.size w0 w' ∧ KeepBut w w' g none := by
 have hu39 := Try.underlying39
 have HI0 := Aside0.mk hI
 have HK := Aside0.mk (KeepBut.refl w g none)
 have HL := Aside0.mk hB.size
 clear hI
 have HW0 := Aside0.mk hB.size
 have HB := Aside0.mk hB
 clear hB
 have H : ((spec_l20Rd_pick.f k s0_0 s0_1 4).bind fun bt109 => (spec_l20Term.l0 k (mn (mx a1 1) 4) a2 (([] : List (List (S39)))) (wrap64 (1 + bt109.1)) s0_0 bt109.2)) = some (r1, r2) := h
 clear h
 obtain ⟨ji4, hji4⟩ : ∃ j_ : Int, (mx a1 1) = j_ := ⟨_, rfl⟩
 replace H : ((spec_l20Rd_pick.f k s0_0 s0_1 4).bind fun bt109 => (spec_l20Term.l0 k (mn (ji4) 4) a2 (([] : List (List (S39)))) (wrap64 (1 + bt109.1)) s0_0 bt109.2)) = some (r1, r2) := by first | (rw [hji4] at H; exact H) | (simp only [hji4] at H ⊢; exact H)
 (try (have hji4l : 1 ≤ ji4 := by (rw [← hji4]; unfold mx; (repeat' split) <;> omega)))
 (try (have hji4m : 0 ≤ ji4 := by omega))
 have hji4_ : (if a1 < 1 then 1 else a1) = ji4 := hji4
 obtain ⟨ji5, hji5⟩ : ∃ j_ : Int, (mn (ji4) 4) = j_ := ⟨_, rfl⟩
 replace H : ((spec_l20Rd_pick.f k s0_0 s0_1 4).bind fun bt109 => (spec_l20Term.l0 k ji5 a2 (([] : List (List (S39)))) (wrap64 (1 + bt109.1)) s0_0 bt109.2)) = some (r1, r2) := by first | (rw [hji5] at H; exact H) | (simp only [hji5] at H ⊢; exact H)
 have hji5_ : (if 4 < (ji4) then 4 else (ji4)) = ji5 := hji5
 obtain ⟨y106, hy106⟩ : ∃ y_ : List (List (S39)), y_ = (([] : List (List (S39)))) := ⟨_, rfl⟩
 replace H : ((spec_l20Rd_pick.f k s0_0 s0_1 4).bind fun bt109 => (spec_l20Term.l0 k ji5 a2 y106 (wrap64 (1 + bt109.1)) s0_0 bt109.2)) = some (r1, r2) := by first | (rw [hy106]; with_reducible exact H) | (have H2_ := (Option.bind_some _ _).symm.trans H; rw [hy106]; with_reducible exact H2_) | (have H2_ := (Option.bind_some _ _).symm.trans H; with_reducible exact H2_) | with_reducible exact H | (rw [hy106]; exact H) | exact H
 have Ny106 := Aside0.mk hy106
 clear hy106
 replace H := Option.bind_eq_some_iff.mp H
 obtain ⟨⟨t109, t110⟩, A60, H⟩ := H
 replace H : (spec_l20Term.l0 k ji5 a2 y106 (wrap64 (1 + t109)) s0_0 t110) = some (r1, r2) := H
 have A6 := Aside0.mk A60
 clear A60
 have H' := Aside0.mk H
 clear H
 go_enter Try.func20, Try.ntmps20
 go_wp2_with (first | ((with_reducible refine gate_dst (N := 17) rfl ?_); refine Kd.R_lit (Kd.slice 39 k39) _ 23 ?hg (N := 17) ?hd (xs := ([] : List (List (S39)))) (inner := []) (ok := fun _ => True) (okp := fun _ => True) ?hr ?hp (fun _ hk => hk) trivial (Below.refl _ _) (Nat.le_refl _) (by simp) ?_; (case hd => rfl); (case hg => rfl); (case hr => first | (go_simp; done) | (go_simp; rfl)); (case hp => exact (Reps.none _ _)); intro v107 w7 ho8 hb hg_ hnew_; clear hg_ hnew_; (first | rw [← Ny106.out] at ho8 | (simp only [Int.reduceToNat] at ho8; rw [← Ny106.out] at ho8)); have n0_ := Aside0.mk (Kd.R_lower ho8 (keep_size (w := w) (g := g) (row := none) pwj_)); have n1_ := Aside0.mk (IsS46.below pwk_ hb); have n2_ := Aside0.mk (KeepBut.trans pwj_ (KeepBut.of_below hb g none) (.inl rfl)); have n3_ := Aside0.mk (below_step pwm_ hb); clear HI0; clear HK; clear HB; have HO108 := n0_; have HI0 := n1_; have HK := n2_; have HB := n3_; clear n0_ n1_ n2_ n3_; clear hb ho8) | ((with_reducible refine gate_callee (f := 19) rfl ?_); refine goesL_ (some 19) rfl rfl Try.func19 (by kernel_rfl) rfl #[.pointer (some ⟨g, 0, none⟩), .int .i64 4] rfl pwi_ ?_; (with_reducible refine (spec_l20Rd_pick.calls k g s0_0 s0_1 4 t109 t110 w0 _ ?side1 ?side2 A6.out).mono ?_); (case side1 => repeat (first | (with_reducible first | exact HI0.out | apply IsS46.alloc | apply IsS46.drewN | apply IsS46.drew | apply IsS46.set_1) | exact HI0.out)); (case side2 => repeat (first | (with_reducible first | exact HB.out | apply below_alloc | apply pw_below_drewN | apply below_drew1 | refine below_set ?_ (IsS46.ge HI0.out)) | exact HB.out)); rintro e w9 ⟨rfl, hi, hb, hk⟩; refine ⟨_, rfl, ?_⟩; have n0_ := Aside0.mk (Kd.R_mono (Kd.R_keep (IsS46.apart (show IsS46 w0 _ g s0_0 s0_1 from by repeat (first | (with_reducible first | exact HI0.out | apply IsS46.alloc | apply IsS46.drewN | apply IsS46.drew | apply IsS46.set_1) | exact HI0.out)) (by (with_reducible repeat apply Kd.R_alloc); exact HO108.out) (by decide)) hk (fun _ h => h.2)) (fun _ h => h.1)); have n1_ := Aside0.mk (KeepBut.trans pwj_ hk (.inl rfl)); have n2_ := Aside0.mk (hb); have n3_ := Aside0.mk (hi); clear HO108; clear HK; clear HB; clear HI0; have HO108 := n0_; have HK := n1_; have HB := n2_; have HI0 := n3_; clear n0_ n1_ n2_ n3_; (try clear hb); (try clear hb2); (try clear hk); (try clear hi)))
 go_loopg [7, 8] k (fun kq v7 v8 w' => ∃ (x7_1 : List (List (S39))) (x8_1 : Int) (x1001_1 : Int), v8 = .int .i64 x8_1 ∧ Aside0 (spec_l20Term.l0 kq ji5 a2 x7_1 x8_1 s0_0 x1001_1 = some (r1, r2)) ∧ Aside0 (kq ≤ k) ∧ Aside0 (Kd.R (Kd.slice 39 k39) 23 w' w.heap.size (fun _ => True) v7 x7_1) ∧ Aside0 (IsS46 w0 w' g s0_0 x1001_1) ∧ Aside0 (KeepBut w w' g none) ∧ Aside0 (Below w0.heap.size w0 w'))
 case atStart => exact ⟨(y106), (wrap64 (1 + t109)), (t110), pwa_, H', ⟨Nat.le_refl _⟩, ⟨by (with_reducible repeat apply Kd.R_alloc); exact HO108.out⟩, ⟨pwk_⟩, ⟨pwj_⟩, ⟨pwm_⟩⟩
 case round =>
  clear H'
  try clear c1
  try clear c2
  try clear p2
  try clear p6
  obtain ⟨x7_1, x8_1, x1001_1, rfl, HA, HK1, HO_7, HI0, HK, HB⟩ := hrel
  cases gk with
  | zero => exact absurd HA.out (by simp [spec_l20Term.l0])
  | succ k1 =>
   have H := HA.out
   clear HA
   simp only [spec_l20Term.l0] at H
   by_cases c10 : x8_1 > 0
   ·rw [if_pos c10] at H
    have c10b0 : decide (0 < x8_1) = true := decide_eq_true c10
    clear c10
    replace H := Option.bind_eq_some_iff.mp H
    obtain ⟨⟨t111, t112⟩, A110, H⟩ := H
    replace H : (if t111 = 0 then ((spec_l20Rd_pick.f k1 s0_0 t112 (wrap64 (ji5 + 2))).bind fun bt113 => (if x7_1.length < 5864062014805 then (spec_l20Term.l0 k1 ji5 a2 (x7_1 ++ [(([(⟨1, bt113.1⟩ : S39)] : List (S39)))]) (wrap64 (x8_1 - 1)) s0_0 bt113.2) else (none))) else ((spec_l20Rd_pick.f k1 s0_0 t112 ji5).bind fun bt121 => (if x7_1.length < 5864062014805 then (spec_l20Term.l0 k1 ji5 a2 (x7_1 ++ [(([(⟨0, bt121.1⟩ : S39)] : List (S39)))]) (wrap64 (x8_1 - 1)) s0_0 bt121.2) else (none)))) = some (r1, r2) := H
    have A11 := Aside0.mk A110
    clear A110
    by_cases c12 : t111 = 0
    ·rw [if_pos c12] at H
     have c12b0 : (t111 == 0) = true := beq_iff_eq.mpr c12
     have c12b1 : (t111 != 0) = false := bne_eq_false_iff_eq.mpr c12
     clear c12
     replace H := Option.bind_eq_some_iff.mp H
     obtain ⟨⟨t113, t114⟩, A130, H⟩ := H
     replace H : (if x7_1.length < 5864062014805 then (spec_l20Term.l0 k1 ji5 a2 (x7_1 ++ [(([(⟨1, t113⟩ : S39)] : List (S39)))]) (wrap64 (x8_1 - 1)) s0_0 t114) else (none)) = some (r1, r2) := H
     have A13 := Aside0.mk A130
     clear A130
     obtain ⟨y115, hy115⟩ : ∃ y_ : List (S39), y_ = (([(⟨1, t113⟩ : S39)] : List (S39))) := ⟨_, rfl⟩
     replace H : (if x7_1.length < 5864062014805 then (spec_l20Term.l0 k1 ji5 a2 (x7_1 ++ [y115]) (wrap64 (x8_1 - 1)) s0_0 t114) else (none)) = some (r1, r2) := by first | (rw [hy115]; with_reducible exact H) | (have H2_ := (Option.bind_some _ _).symm.trans H; rw [hy115]; with_reducible exact H2_) | (have H2_ := (Option.bind_some _ _).symm.trans H; with_reducible exact H2_) | with_reducible exact H | (rw [hy115]; exact H) | exact H
     have Ny115 := Aside0.mk hy115
     clear hy115
     by_cases c14 : x7_1.length < 5864062014805
     ·rw [if_pos c14] at H
      have LMc14 := Aside0.mk c14
      clear c14
      obtain ⟨y118, hy118⟩ : ∃ y_ : List (List (S39)), y_ = (x7_1 ++ [y115]) := ⟨_, rfl⟩
      replace H : (spec_l20Term.l0 k1 ji5 a2 y118 (wrap64 (x8_1 - 1)) s0_0 t114) = some (r1, r2) := by first | (rw [hy118]; with_reducible exact H) | (have H2_ := (Option.bind_some _ _).symm.trans H; rw [hy118]; with_reducible exact H2_) | (have H2_ := (Option.bind_some _ _).symm.trans H; with_reducible exact H2_) | with_reducible exact H | (rw [hy118]; exact H) | exact H
      have Ny118 := Aside0.mk hy118
      clear hy118
      have H' := Aside0.mk H
      clear H
      go_wp2_with (first | ((with_reducible refine gate_callee (f := 19) rfl ?_); refine goesL_ (some 26) rfl rfl Try.func19 (by kernel_rfl) rfl #[.pointer (some ⟨g, 0, none⟩), .int .i64 4] rfl pwi_ ?_; (with_reducible refine (spec_l20Rd_pick.calls k1 g s0_0 x1001_1 4 t111 t112 w0 _ ?side1 ?side2 A11.out).mono ?_); (case side1 => repeat (first | (with_reducible first | exact HI0.out | apply IsS46.alloc | apply IsS46.drewN | apply IsS46.drew | apply IsS46.set_1) | exact HI0.out)); (case side2 => repeat (first | (with_reducible first | exact HB.out | apply below_alloc | apply pw_below_drewN | apply below_drew1 | refine below_set ?_ (IsS46.ge HI0.out)) | exact HB.out)); rintro e w15 ⟨rfl, hi, hb, hk⟩; refine ⟨_, rfl, ?_⟩; have n0_ := Aside0.mk (Kd.R_mono (Kd.R_keep (IsS46.apart (show IsS46 w0 _ g s0_0 x1001_1 from by repeat (first | (with_reducible first | exact HI0.out | apply IsS46.alloc | apply IsS46.drewN | apply IsS46.drew | apply IsS46.set_1) | exact HI0.out)) pwc_ (by decide)) hk (fun _ h => h.2)) (fun _ h => h.1)); have n1_ := Aside0.mk (KeepBut.trans pwj_ hk (.inl rfl)); have n2_ := Aside0.mk (hb); have n3_ := Aside0.mk (hi); clear HO_7; clear HK; clear HB; clear HI0; have HO_7 := n0_; have HK := n1_; have HB := n2_; have HI0 := n3_; clear n0_ n1_ n2_ n3_; (try clear hb); (try clear hb2); (try clear hk); (try clear hi)) | ((with_reducible refine gate_callee (f := 19) rfl ?_); refine goesL_ (some 32) rfl rfl Try.func19 (by kernel_rfl) rfl #[.pointer (some ⟨g, 0, none⟩), .int .i64 (wrap64 (ji5 + 2))] rfl (by (try simp only [List.map_toArray, List.map_cons, List.map_nil]); first | done | (simp only [show wrap64 (ji5 + 2) = ji5 + 2 from (by have h4_ := hji5_; unfold wrap64; split at h4_ <;> omega)]; rfl) | (simp only [hji5]; rfl) | rfl | (simp only [List.length_drop, List.length_take]; rfl)) ?_; (with_reducible refine (spec_l20Rd_pick.calls k1 g s0_0 t112 (wrap64 (ji5 + 2)) t113 t114 w0 _ ?side1 ?side2 A13.out).mono ?_); (case side1 => repeat (first | (with_reducible first | exact HI0.out | apply IsS46.alloc | apply IsS46.drewN | apply IsS46.drew | apply IsS46.set_1) | exact HI0.out)); (case side2 => repeat (first | (with_reducible first | exact HB.out | apply below_alloc | apply pw_below_drewN | apply below_drew1 | refine below_set ?_ (IsS46.ge HI0.out)) | exact HB.out)); rintro e w16 ⟨rfl, hi, hb, hk⟩; refine ⟨_, rfl, ?_⟩; have n0_ := Aside0.mk (Kd.R_mono (Kd.R_keep (IsS46.apart (show IsS46 w0 _ g s0_0 t112 from by repeat (first | (with_reducible first | exact HI0.out | apply IsS46.alloc | apply IsS46.drewN | apply IsS46.drew | apply IsS46.set_1) | exact HI0.out)) pwc_ (by decide)) hk (fun _ h => h.2)) (fun _ h => h.1)); have n1_ := Aside0.mk (KeepBut.trans pwj_ hk (.inl rfl)); have n2_ := Aside0.mk (hb); have n3_ := Aside0.mk (hi); clear HO_7; clear HK; clear HB; clear HI0; have HO_7 := n0_; have HK := n1_; have HB := n2_; have HI0 := n3_; clear n0_ n1_ n2_ n3_; (try clear hb); (try clear hb2); (try clear hk); (try clear hi)) | ((with_reducible refine gate_dst (N := 34) rfl ?_); refine Kd.R_lit k39 _ 39 ?hg (N := 34) ?hd (xs := ([(⟨1, t113⟩ : S39)] : List (S39))) (inner := [.int .i64 1, .int .i64 t113]) (ok := fun _ => True) (okp := fun _ => True) ?hr ?hp (fun _ hk => hk) trivial (Below.refl _ _) (Nat.le_refl _) (by simp) ?_; (case hd => rfl); (case hg => rfl); (case hr => first | (go_simp; done) | (go_simp; rfl)); (case hp => exact (Reps.c2 (show Kd.M k39 _ _ _ (⟨1, t113⟩ : S39) [.int .i64 1, .int .i64 t113] from (k39_mkM _ _ _ (⟨1, t113⟩ : S39) )) (Reps.none _ _))); intro v116 w17 ho18 hb hg_ hnew_; clear hg_ hnew_; (first | rw [← Ny115.out] at ho18 | (simp only [Int.reduceToNat] at ho18; rw [← Ny115.out] at ho18)); have n0_ := Aside0.mk (Kd.R_elder' pwc_ (Kd.R_base ho18) hb); have n1_ := Aside0.mk (Kd.R_lower ho18 (keep_size (w := w) (g := g) (row := none) pwj_)); have n2_ := Aside0.mk (IsS46.below pwk_ hb); have n3_ := Aside0.mk (KeepBut.trans pwj_ (KeepBut.of_below hb g none) (.inl rfl)); have n4_ := Aside0.mk (below_step pwm_ hb); clear HO_7; clear HI0; clear HK; clear HB; have HO_7 := n0_; have HO117 := n1_; have HI0 := n2_; have HK := n3_; have HB := n4_; clear n0_ n1_ n2_ n3_ n4_; clear hb ho18; obtain ⟨Ao20, co20, eo20⟩ := Kd.R_slice HO117.out; subst eo20) | ((with_reducible refine gate_builtin (b := .append) (xs := #[.tmp 28, .tmp 35]) rfl ?_); at_builtin; refine Kd.R_append (Kd.slice 39 k39) w.heap.size rfl (.tmp 28) (.tmp 35) 54 23 (.slice none 0 0) 24 rfl Try.underlying54 info23 rfl (by decide) (by omega) u7 x7_1 y115 [.slice Ao20 y115.length co20] (fun _ => True) (fun k_ => ((fun _ => True)) k_ ∧ some k_ ≠ (u7 : Value).ownBlock) rfl rfl ?aP (fun _ hk => hk) ?aF ?aO (Below.refl _ _) ?aS ?aL ?_; (case aP => exact Kd.M_row (Kd.R_mono (Kd.R_apart' (HO117.out) (Kd.R_typed HO_7.out) (by decide)) (fun k_ hk => ⟨trivial, hk.2⟩))); (case aF => exact (fun _ _ => trivial)); (case aO => exact (by (with_reducible repeat apply Kd.R_alloc); exact Kd.R_mono HO_7.out (fun _ hk => trivial))); (case aS => exact (keep_size (w := w) (g := g) (row := none) pwj_)); (case aL => have := LMc14.out; omega); intro v119 w19 ho hb hg hat; rw [← Ny118.out] at ho; have n0_ := Aside0.mk (IsS46.grown pwk_ hg (IsS46.own_ne HI0.out HO_7.out (by decide))); have n1_ := Aside0.mk (below_weaken pwm_ HL.out hb); have n2_ := Aside0.mk (KeepBut.trans pwj_ (KeepBut.of_grown hg g) (Kd.R_base2 HO_7.out)); have n3_ := Aside0.mk (ho); clear HI0; clear HB; clear HK; clear HO_7; clear HO117; have HI0 := n0_; have HB := n1_; have HK := n2_; have HO120 := n3_; clear n0_ n1_ n2_ n3_; clear ho hb hg hat))
      go_roundg k1
      case measure => have := HK1.out; omega
      case rel => exact ⟨(y118), (wrap64 (x8_1 - 1)), (t114), pwa_, H', ⟨by have := HK1.out; omega⟩, ⟨by (with_reducible repeat apply Kd.R_alloc); exact HO120.out⟩, ⟨pwk_⟩, ⟨pwj_⟩, ⟨pwm_⟩⟩
     ·rw [if_neg c14] at H
      exact absurd H (by simp)
    ·rw [if_neg c12] at H
     have c12b0 : (t111 == 0) = false := beq_eq_false_iff_ne.mpr c12
     have c12b1 : (t111 != 0) = true := bne_iff_ne.mpr c12
     replace H := Option.bind_eq_some_iff.mp H
     obtain ⟨⟨t121, t122⟩, A210, H⟩ := H
     replace H : (if x7_1.length < 5864062014805 then (spec_l20Term.l0 k1 ji5 a2 (x7_1 ++ [(([(⟨0, t121⟩ : S39)] : List (S39)))]) (wrap64 (x8_1 - 1)) s0_0 t122) else (none)) = some (r1, r2) := H
     have A21 := Aside0.mk A210
     clear A210
     obtain ⟨y123, hy123⟩ : ∃ y_ : List (S39), y_ = (([(⟨0, t121⟩ : S39)] : List (S39))) := ⟨_, rfl⟩
     replace H : (if x7_1.length < 5864062014805 then (spec_l20Term.l0 k1 ji5 a2 (x7_1 ++ [y123]) (wrap64 (x8_1 - 1)) s0_0 t122) else (none)) = some (r1, r2) := by first | (rw [hy123]; with_reducible exact H) | (have H2_ := (Option.bind_some _ _).symm.trans H; rw [hy123]; with_reducible exact H2_) | (have H2_ := (Option.bind_some _ _).symm.trans H; with_reducible exact H2_) | with_reducible exact H | (rw [hy123]; exact H) | exact H
     have Ny123 := Aside0.mk hy123
     clear hy123
     by_cases c22 : x7_1.length < 5864062014805
     ·rw [if_pos c22] at H
      have LMc22 := Aside0.mk c22
      clear c22
      obtain ⟨y126, hy126⟩ : ∃ y_ : List (List (S39)), y_ = (x7_1 ++ [y123]) := ⟨_, rfl⟩
      replace H : (spec_l20Term.l0 k1 ji5 a2 y126 (wrap64 (x8_1 - 1)) s0_0 t122) = some (r1, r2) := by first | (rw [hy126]; with_reducible exact H) | (have H2_ := (Option.bind_some _ _).symm.trans H; rw [hy126]; with_reducible exact H2_) | (have H2_ := (Option.bind_some _ _).symm.trans H; with_reducible exact H2_) | with_reducible exact H | (rw [hy126]; exact H) | exact H
      have Ny126 := Aside0.mk hy126
      clear hy126
      have H' := Aside0.mk H
      clear H
      go_wp2_with (first | ((with_reducible refine gate_callee (f := 19) rfl ?_); refine goesL_ (some 26) rfl rfl Try.func19 (by kernel_rfl) rfl #[.pointer (some ⟨g, 0, none⟩), .int .i64 4] rfl pwi_ ?_; (with_reducible refine (spec_l20Rd_pick.calls k1 g s0_0 x1001_1 4 t111 t112 w0 _ ?side1 ?side2 A11.out).mono ?_); (case side1 => repeat (first | (with_reducible first | exact HI0.out | apply IsS46.alloc | apply IsS46.drewN | apply IsS46.drew | apply IsS46.set_1) | exact HI0.out)); (case side2 => repeat (first | (with_reducible first | exact HB.out | apply below_alloc | apply pw_below_drewN | apply below_drew1 | refine below_set ?_ (IsS46.ge HI0.out)) | exact HB.out)); rintro e w23 ⟨rfl, hi, hb, hk⟩; refine ⟨_, rfl, ?_⟩; have n0_ := Aside0.mk (Kd.R_mono (Kd.R_keep (IsS46.apart (show IsS46 w0 _ g s0_0 x1001_1 from by repeat (first | (with_reducible first | exact HI0.out | apply IsS46.alloc | apply IsS46.drewN | apply IsS46.drew | apply IsS46.set_1) | exact HI0.out)) pwc_ (by decide)) hk (fun _ h => h.2)) (fun _ h => h.1)); have n1_ := Aside0.mk (KeepBut.trans pwj_ hk (.inl rfl)); have n2_ := Aside0.mk (hb); have n3_ := Aside0.mk (hi); clear HO_7; clear HK; clear HB; clear HI0; have HO_7 := n0_; have HK := n1_; have HB := n2_; have HI0 := n3_; clear n0_ n1_ n2_ n3_; (try clear hb); (try clear hb2); (try clear hk); (try clear hi)) | ((with_reducible refine gate_callee (f := 19) rfl ?_); refine goesL_ (some 40) rfl rfl Try.func19 (by kernel_rfl) rfl #[.pointer (some ⟨g, 0, none⟩), .int .i64 ji5] rfl (by (try simp only [List.map_toArray, List.map_cons, List.map_nil]); first | done | (simp only [hji5]; rfl) | rfl | (simp only [List.length_drop, List.length_take]; rfl)) ?_; (with_reducible refine (spec_l20Rd_pick.calls k1 g s0_0 t112 ji5 t121 t122 w0 _ ?side1 ?side2 A21.out).mono ?_); (case side1 => repeat (first | (with_reducible first | exact HI0.out | apply IsS46.alloc | apply IsS46.drewN | apply IsS46.drew | apply IsS46.set_1) | exact HI0.out)); (case side2 => repeat (first | (with_reducible first | exact HB.out | apply below_alloc | apply pw_below_drewN | apply below_drew1 | refine below_set ?_ (IsS46.ge HI0.out)) | exact HB.out)); rintro e w24 ⟨rfl, hi, hb, hk⟩; refine ⟨_, rfl, ?_⟩; have n0_ := Aside0.mk (Kd.R_mono (Kd.R_keep (IsS46.apart (show IsS46 w0 _ g s0_0 t112 from by repeat (first | (with_reducible first | exact HI0.out | apply IsS46.alloc | apply IsS46.drewN | apply IsS46.drew | apply IsS46.set_1) | exact HI0.out)) pwc_ (by decide)) hk (fun _ h => h.2)) (fun _ h => h.1)); have n1_ := Aside0.mk (KeepBut.trans pwj_ hk (.inl rfl)); have n2_ := Aside0.mk (hb); have n3_ := Aside0.mk (hi); clear HO_7; clear HK; clear HB; clear HI0; have HO_7 := n0_; have HK := n1_; have HB := n2_; have HI0 := n3_; clear n0_ n1_ n2_ n3_; (try clear hb); (try clear hb2); (try clear hk); (try clear hi)) | ((with_reducible refine gate_dst (N := 42) rfl ?_); refine Kd.R_lit k39 _ 39 ?hg (N := 42) ?hd (xs := ([(⟨0, t121⟩ : S39)] : List (S39))) (inner := [.int .i64 0, .int .i64 t121]) (ok := fun _ => True) (okp := fun _ => True) ?hr ?hp (fun _ hk => hk) trivial (Below.refl _ _) (Nat.le_refl _) (by simp) ?_; (case hd => rfl); (case hg => rfl); (case hr => first | (go_simp; done) | (go_simp; rfl)); (case hp => exact (Reps.c2 (show Kd.M k39 _ _ _ (⟨0, t121⟩ : S39) [.int .i64 0, .int .i64 t121] from (k39_mkM _ _ _ (⟨0, t121⟩ : S39) )) (Reps.none _ _))); intro v124 w25 ho26 hb hg_ hnew_; clear hg_ hnew_; (first | rw [← Ny123.out] at ho26 | (simp only [Int.reduceToNat] at ho26; rw [← Ny123.out] at ho26)); have n0_ := Aside0.mk (Kd.R_elder' pwc_ (Kd.R_base ho26) hb); have n1_ := Aside0.mk (Kd.R_lower ho26 (keep_size (w := w) (g := g) (row := none) pwj_)); have n2_ := Aside0.mk (IsS46.below pwk_ hb); have n3_ := Aside0.mk (KeepBut.trans pwj_ (KeepBut.of_below hb g none) (.inl rfl)); have n4_ := Aside0.mk (below_step pwm_ hb); clear HO_7; clear HI0; clear HK; clear HB; have HO_7 := n0_; have HO125 := n1_; have HI0 := n2_; have HK := n3_; have HB := n4_; clear n0_ n1_ n2_ n3_ n4_; clear hb ho26; obtain ⟨Ao28, co28, eo28⟩ := Kd.R_slice HO125.out; subst eo28) | ((with_reducible refine gate_builtin (b := .append) (xs := #[.tmp 37, .tmp 43]) rfl ?_); at_builtin; refine Kd.R_append (Kd.slice 39 k39) w.heap.size rfl (.tmp 37) (.tmp 43) 54 23 (.slice none 0 0) 24 rfl Try.underlying54 info23 rfl (by decide) (by omega) u7 x7_1 y123 [.slice Ao28 y123.length co28] (fun _ => True) (fun k_ => ((fun _ => True)) k_ ∧ some k_ ≠ (u7 : Value).ownBlock) rfl rfl ?aP (fun _ hk => hk) ?aF ?aO (Below.refl _ _) ?aS ?aL ?_; (case aP => exact Kd.M_row (Kd.R_mono (Kd.R_apart' (HO125.out) (Kd.R_typed HO_7.out) (by decide)) (fun k_ hk => ⟨trivial, hk.2⟩))); (case aF => exact (fun _ _ => trivial)); (case aO => exact (by (with_reducible repeat apply Kd.R_alloc); exact Kd.R_mono HO_7.out (fun _ hk => trivial))); (case aS => exact (keep_size (w := w) (g := g) (row := none) pwj_)); (case aL => have := LMc22.out; omega); intro v127 w27 ho hb hg hat; rw [← Ny126.out] at ho; have n0_ := Aside0.mk (IsS46.grown pwk_ hg (IsS46.own_ne HI0.out HO_7.out (by decide))); have n1_ := Aside0.mk (below_weaken pwm_ HL.out hb); have n2_ := Aside0.mk (KeepBut.trans pwj_ (KeepBut.of_grown hg g) (Kd.R_base2 HO_7.out)); have n3_ := Aside0.mk (ho); clear HI0; clear HB; clear HK; clear HO_7; clear HO125; have HI0 := n0_; have HB := n1_; have HK := n2_; have HO128 := n3_; clear n0_ n1_ n2_ n3_; clear ho hb hg hat))
      go_roundg k1
      case measure => have := HK1.out; omega
      case rel => exact ⟨(y126), (wrap64 (x8_1 - 1)), (t122), pwa_, H', ⟨by have := HK1.out; omega⟩, ⟨by (with_reducible repeat apply Kd.R_alloc); exact HO128.out⟩, ⟨pwk_⟩, ⟨pwj_⟩, ⟨pwm_⟩⟩
     ·rw [if_neg c22] at H
      exact absurd H (by simp)
   ·rw [if_neg c10] at H
    have c10b0 : decide (0 < x8_1) = false := decide_eq_false c10
    clear c10
    have H' := Aside0.mk H
    clear H
    go_wp2
    go_loopg [7, 9] k1 (fun kq v7 v9 w' => ∃ (x7_2 : List (List (S39))) (x9_2 : Int) (x1001_2 : Int), v9 = .int .i64 x9_2 ∧ Aside0 (spec_l20Term.l1 kq a2 x7_2 x9_2 s0_0 x1001_2 = some (r1, r2)) ∧ Aside0 (kq ≤ k1) ∧ Aside0 (Kd.R (Kd.slice 39 k39) 23 w' w.heap.size (fun _ => True) v7 x7_2) ∧ Aside0 (IsS46 w0 w' g s0_0 x1001_2) ∧ Aside0 (KeepBut w w' g none) ∧ Aside0 (Below w0.heap.size w0 w'))
    case atStart => exact ⟨(x7_1), (3), (x1001_1), pwa_, H', ⟨Nat.le_refl _⟩, ⟨pwc_⟩, ⟨pwk_⟩, ⟨pwj_⟩, ⟨pwm_⟩⟩
    case round =>
     clear H'
     try clear c1
     try clear c2
     try clear p2
     try clear p6
     try clear c10
     try clear c10b0
     try clear c12
     try clear c12b0
     try clear c12b1
     try clear c14
     try clear c19
     try clear c20
     try clear c22
     try clear p2
     try clear p6
     obtain ⟨x7_2, x9_2, x1001_2, rfl, HA, HK2, HO_7, HI0, HK, HB⟩ := hrel
     cases gk with
     | zero => exact absurd HA.out (by simp [spec_l20Term.l1])
     | succ k2 =>
      have H := HA.out
      clear HA
      simp only [spec_l20Term.l1] at H
      by_cases c29 : (x7_2.length : Int) > 1
      ·rw [if_pos c29] at H
       have c29b0 : decide (1 < (x7_2.length : Int)) = true := decide_eq_true c29
       have c29b1 : decide (1 < x7_2.length) = true := decide_eq_true (by omega)
       clear c29
       replace H := Option.bind_eq_some_iff.mp H
       obtain ⟨⟨t129, t130⟩, A300, H⟩ := H
       replace H : (if x9_2 > 0 then ((spec_l20Rd_pick.f k2 s0_0 t130 4).bind fun bt131 => (if bt131.1 = 0 then ((some (([] : List (S39)) : List (S39))).bind fun y133 => (if 0 ≤ t129 then (if t129 < (x7_2.length : Int) then (if y133.length + (rd_L3 x7_2 t129).length < 8796093022208 then ((some (y133 ++ (rd_L3 x7_2 t129) : List (S39))).bind fun y137 => (if y137.length < 8796093022208 then (spec_l20Term.l1 k2 a2 (x7_2.set (t129 : Int).toNat (y137 ++ [(⟨2, 0⟩ : S39)])) (wrap64 (x9_2 - 1)) s0_0 bt131.2) else (none))) else (none)) else (none)) else (none))) else ((some (([] : List (S39)) : List (S39))).bind fun y144 => (if 0 ≤ t129 then (if t129 < (x7_2.length : Int) then (if y144.length + (rd_L3 x7_2 t129).length < 8796093022208 then ((some (y144 ++ (rd_L3 x7_2 t129) : List (S39))).bind fun y148 => (if 0 ≤ (wrap64 (t129 + 1)) then (if (wrap64 (t129 + 1)) < (x7_2.length : Int) then (if y148.length + (rd_L3 x7_2 (wrap64 (t129 + 1))).length < 8796093022208 then ((some (y148 ++ (rd_L3 x7_2 (wrap64 (t129 + 1))) : List (S39))).bind fun y152 => ((spec_l20Rd_pick.f k2 s0_0 bt131.2 3).bind fun bt155 => (if y152.length < 8796093022208 then ((some (([] : List (List (S39))) : List (List (S39)))).bind fun y160 => (if t129 ≤ (x7_2.length : Int) then ((some (x7_2.take (t129 : Int).toNat : List (List (S39)))).bind fun y163 => (if y160.length + y163.length < 5864062014805 then ((some (y160 ++ y163 : List (List (S39)))).bind fun y167 => (if y167.length < 5864062014805 then ((some (y167 ++ [(y152 ++ [(⟨wrap64 (3 + bt155.1), 0⟩ : S39)])] : List (List (S39)))).bind fun y170 => (if 0 ≤ (wrap64 (t129 + 2)) then (if (wrap64 (t129 + 2)) ≤ (x7_2.length : Int) then ((some (x7_2.drop ((wrap64 (t129 + 2)) : Int).toNat : List (List (S39)))).bind fun y173 => (if y170.length + y173.length < 5864062014805 then (spec_l20Term.l1 k2 a2 (y170 ++ y173) x9_2 s0_0 bt155.2) else (none))) else (none)) else (none))) else (none))) else (none))) else (none))) else (none)))) else (none)) else (none)) else (none))) else (none)) else (none)) else (none))))) else ((some (([] : List (S39)) : List (S39))).bind fun y180 => (if 0 ≤ t129 then (if t129 < (x7_2.length : Int) then (if y180.length + (rd_L3 x7_2 t129).length < 8796093022208 then ((some (y180 ++ (rd_L3 x7_2 t129) : List (S39))).bind fun y184 => (if 0 ≤ (wrap64 (t129 + 1)) then (if (wrap64 (t129 + 1)) < (x7_2.length : Int) then (if y184.length + (rd_L3 x7_2 (wrap64 (t129 + 1))).length < 8796093022208 then ((some (y184 ++ (rd_L3 x7_2 (wrap64 (t129 + 1))) : List (S39))).bind fun y188 => ((spec_l20Rd_pick.f k2 s0_0 t130 3).bind fun bt191 => (if y188.length < 8796093022208 then ((some (([] : List (List (S39))) : List (List (S39)))).bind fun y196 => (if t129 ≤ (x7_2.length : Int) then ((some (x7_2.take (t129 : Int).toNat : List (List (S39)))).bind fun y199 => (if y196.length + y199.length < 5864062014805 then ((some (y196 ++ y199 : List (List (S39)))).bind fun y203 => (if y203.length < 5864062014805 then ((some (y203 ++ [(y188 ++ [(⟨wrap64 (3 + bt191.1), 0⟩ : S39)])] : List (List (S39)))).bind fun y206 => (if 0 ≤ (wrap64 (t129 + 2)) then (if (wrap64 (t129 + 2)) ≤ (x7_2.length : Int) then ((some (x7_2.drop ((wrap64 (t129 + 2)) : Int).toNat : List (List (S39)))).bind fun y209 => (if y206.length + y209.length < 5864062014805 then (spec_l20Term.l1 k2 a2 (y206 ++ y209) x9_2 s0_0 bt191.2) else (none))) else (none)) else (none))) else (none))) else (none))) else (none))) else (none)))) else (none)) else (none)) else (none))) else (none)) else (none)) else (none)))) = some (r1, r2) := H
       have A30 := Aside0.mk A300
       clear A300
       by_cases c31 : x9_2 > 0
       ·rw [if_pos c31] at H
        have c31b0 : decide (0 < x9_2) = true := decide_eq_true c31
        clear c31
        replace H := Option.bind_eq_some_iff.mp H
        obtain ⟨⟨t131, t132⟩, A320, H⟩ := H
        replace H : (if t131 = 0 then ((some (([] : List (S39)) : List (S39))).bind fun y133 => (if 0 ≤ t129 then (if t129 < (x7_2.length : Int) then (if y133.length + (rd_L3 x7_2 t129).length < 8796093022208 then ((some (y133 ++ (rd_L3 x7_2 t129) : List (S39))).bind fun y137 => (if y137.length < 8796093022208 then (spec_l20Term.l1 k2 a2 (x7_2.set (t129 : Int).toNat (y137 ++ [(⟨2, 0⟩ : S39)])) (wrap64 (x9_2 - 1)) s0_0 t132) else (none))) else (none)) else (none)) else (none))) else ((some (([] : List (S39)) : List (S39))).bind fun y144 => (if 0 ≤ t129 then (if t129 < (x7_2.length : Int) then (if y144.length + (rd_L3 x7_2 t129).length < 8796093022208 then ((some (y144 ++ (rd_L3 x7_2 t129) : List (S39))).bind fun y148 => (if 0 ≤ (wrap64 (t129 + 1)) then (if (wrap64 (t129 + 1)) < (x7_2.length : Int) then (if y148.length + (rd_L3 x7_2 (wrap64 (t129 + 1))).length < 8796093022208 then ((some (y148 ++ (rd_L3 x7_2 (wrap64 (t129 + 1))) : List (S39))).bind fun y152 => ((spec_l20Rd_pick.f k2 s0_0 t132 3).bind fun bt155 => (if y152.length < 8796093022208 then ((some (([] : List (List (S39))) : List (List (S39)))).bind fun y160 => (if t129 ≤ (x7_2.length : Int) then ((some (x7_2.take (t129 : Int).toNat : List (List (S39)))).bind fun y163 => (if y160.length + y163.length < 5864062014805 then ((some (y160 ++ y163 : List (List (S39)))).bind fun y167 => (if y167.length < 5864062014805 then ((some (y167 ++ [(y152 ++ [(⟨wrap64 (3 + bt155.1), 0⟩ : S39)])] : List (List (S39)))).bind fun y170 => (if 0 ≤ (wrap64 (t129 + 2)) then (if (wrap64 (t129 + 2)) ≤ (x7_2.length : Int) then ((some (x7_2.drop ((wrap64 (t129 + 2)) : Int).toNat : List (List (S39)))).bind fun y173 => (if y170.length + y173.length < 5864062014805 then (spec_l20Term.l1 k2 a2 (y170 ++ y173) x9_2 s0_0 bt155.2) else (none))) else (none)) else (none))) else (none))) else (none))) else (none))) else (none)))) else (none)) else (none)) else (none))) else (none)) else (none)) else (none)))) = some (r1, r2) := H
        have A32 := Aside0.mk A320
        clear A320
        by_cases c33 : t131 = 0
        ·rw [if_pos c33] at H
         have c33b0 : (t131 == 0) = true := beq_iff_eq.mpr c33
         have c33b1 : (t131 != 0) = false := bne_eq_false_iff_eq.mpr c33
         clear c33
         obtain ⟨y133, hy133⟩ : ∃ y_ : List (S39), y_ = (([] : List (S39))) := ⟨_, rfl⟩
         replace H : (if 0 ≤ t129 then (if t129 < (x7_2.length : Int) then (if y133.length + (rd_L3 x7_2 t129).length < 8796093022208 then ((some (y133 ++ (rd_L3 x7_2 t129) : List (S39))).bind fun y137 => (if y137.length < 8796093022208 then (spec_l20Term.l1 k2 a2 (x7_2.set (t129 : Int).toNat (y137 ++ [(⟨2, 0⟩ : S39)])) (wrap64 (x9_2 - 1)) s0_0 t132) else (none))) else (none)) else (none)) else (none)) = some (r1, r2) := by first | (rw [hy133]; with_reducible exact H) | (have H2_ := (Option.bind_some _ _).symm.trans H; rw [hy133]; with_reducible exact H2_) | (have H2_ := (Option.bind_some _ _).symm.trans H; with_reducible exact H2_) | with_reducible exact H | (rw [hy133]; exact H) | exact H
         have Ny133 := Aside0.mk hy133
         clear hy133
         by_cases c34 : 0 ≤ t129
         ·rw [if_pos c34] at H
          have c34b0 : decide (0 ≤ t129) = true := decide_eq_true c34
          clear c34
          by_cases c35 : t129 < (x7_2.length : Int)
          ·rw [if_pos c35] at H
           have c35b0 : decide (t129 < (x7_2.length : Int)) = true := decide_eq_true c35
           clear c35
           by_cases c36 : y133.length + (rd_L3 x7_2 t129).length < 8796093022208
           ·rw [if_pos c36] at H
            have LMc36 := Aside0.mk c36
            clear c36
            obtain ⟨y137, hy137⟩ : ∃ y_ : List (S39), y_ = (y133 ++ (rd_L3 x7_2 t129)) := ⟨_, rfl⟩
            replace H : (if y137.length < 8796093022208 then (spec_l20Term.l1 k2 a2 (x7_2.set (t129 : Int).toNat (y137 ++ [(⟨2, 0⟩ : S39)])) (wrap64 (x9_2 - 1)) s0_0 t132) else (none)) = some (r1, r2) := by first | (rw [hy137]; with_reducible exact H) | (have H2_ := (Option.bind_some _ _).symm.trans H; rw [hy137]; with_reducible exact H2_) | (have H2_ := (Option.bind_some _ _).symm.trans H; with_reducible exact H2_) | with_reducible exact H | (rw [hy137]; exact H) | exact H
            have Ny137 := Aside0.mk hy137
            clear hy137
            by_cases c37 : y137.length < 8796093022208
            ·rw [if_pos c37] at H
             have LMc37 := Aside0.mk c37
             clear c37
             obtain ⟨y140, hy140⟩ : ∃ y_ : List (S39), y_ = (y137 ++ [(⟨2, 0⟩ : S39)]) := ⟨_, rfl⟩
             replace H : (spec_l20Term.l1 k2 a2 (x7_2.set (t129 : Int).toNat y140) (wrap64 (x9_2 - 1)) s0_0 t132) = some (r1, r2) := by first | (rw [hy140]; with_reducible exact H) | (have H2_ := (Option.bind_some _ _).symm.trans H; rw [hy140]; with_reducible exact H2_) | (have H2_ := (Option.bind_some _ _).symm.trans H; with_reducible exact H2_) | with_reducible exact H | (rw [hy140]; exact H) | exact H
             have Ny140 := Aside0.mk hy140
             clear hy140
             obtain ⟨y143, hy143⟩ : ∃ y_ : List (List (S39)), y_ = (x7_2.set (t129 : Int).toNat y140) := ⟨_, rfl⟩
             replace H : (spec_l20Term.l1 k2 a2 y143 (wrap64 (x9_2 - 1)) s0_0 t132) = some (r1, r2) := by first | (rw [hy143]; with_reducible exact H) | (have H2_ := (Option.bind_some _ _).symm.trans H; rw [hy143]; with_reducible exact H2_) | (have H2_ := (Option.bind_some _ _).symm.trans H; with_reducible exact H2_) | with_reducible exact H | (rw [hy143]; exact H) | exact H
             have Ny143 := Aside0.mk hy143
             clear hy143
             have H' := Aside0.mk H
             clear H
             obtain ⟨Ao39, co39, eo39⟩ := Kd.R_slice HO_7.out
             subst eo39
             go_wp2_with (first | ((with_reducible refine gate_callee (f := 19) rfl ?_); refine goesL_ (some 52) rfl rfl Try.func19 (by kernel_rfl) rfl #[.pointer (some ⟨g, 0, none⟩), .int .i64 (wrap64 ((x7_2.length : Int) - 1))] rfl pwi_ ?_; (with_reducible refine (spec_l20Rd_pick.calls k2 g s0_0 x1001_2 (wrap64 ((x7_2.length : Int) - 1)) t129 t130 w0 _ ?side1 ?side2 A30.out).mono ?_); (case side1 => repeat (first | (with_reducible first | exact HI0.out | apply IsS46.alloc | apply IsS46.drewN | apply IsS46.drew | apply IsS46.set_1) | exact HI0.out)); (case side2 => repeat (first | (with_reducible first | exact HB.out | apply below_alloc | apply pw_below_drewN | apply below_drew1 | refine below_set ?_ (IsS46.ge HI0.out)) | exact HB.out)); rintro e w40 ⟨rfl, hi, hb, hk⟩; refine ⟨_, rfl, ?_⟩; have n0_ := Aside0.mk (Kd.R_mono (Kd.R_keep (IsS46.apart (show IsS46 w0 _ g s0_0 x1001_2 from by repeat (first | (with_reducible first | exact HI0.out | apply IsS46.alloc | apply IsS46.drewN | apply IsS46.drew | apply IsS46.set_1) | exact HI0.out)) pwc_ (by decide)) hk (fun _ h => h.2)) (fun _ h => h.1)); have n1_ := Aside0.mk (KeepBut.trans pwj_ hk (.inl rfl)); have n2_ := Aside0.mk (hb); have n3_ := Aside0.mk (hi); clear HO_7; clear HK; clear HB; clear HI0; have HO_7 := n0_; have HK := n1_; have HB := n2_; have HI0 := n3_; clear n0_ n1_ n2_ n3_; (try clear hb); (try clear hb2); (try clear hk); (try clear hi)) | (go_at_call 19; (with_reducible refine (spec_l20Rd_pick.calls k2 g s0_0 t130 4 t131 t132 w0 _ ?side1 ?side2 A32.out).mono ?_); (case side1 => repeat (first | (with_reducible first | exact HI0.out | apply IsS46.alloc | apply IsS46.drewN | apply IsS46.drew | apply IsS46.set_1) | exact HI0.out)); (case side2 => repeat (first | (with_reducible first | exact HB.out | apply below_alloc | apply pw_below_drewN | apply below_drew1 | refine below_set ?_ (IsS46.ge HI0.out)) | exact HB.out)); rintro e w41 ⟨rfl, hi, hb, hk⟩; have n0_ := Aside0.mk (Kd.R_mono (Kd.R_keep (IsS46.apart (show IsS46 w0 _ g s0_0 t130 from by repeat (first | (with_reducible first | exact HI0.out | apply IsS46.alloc | apply IsS46.drewN | apply IsS46.drew | apply IsS46.set_1) | exact HI0.out)) pwc_ (by decide)) hk (fun _ h => h.2)) (fun _ h => h.1)); have n1_ := Aside0.mk (KeepBut.trans pwj_ hk (.inl rfl)); have n2_ := Aside0.mk (hb); have n3_ := Aside0.mk (hi); clear HO_7; clear HK; clear HB; clear HI0; have HO_7 := n0_; have HK := n1_; have HB := n2_; have HI0 := n3_; clear n0_ n1_ n2_ n3_; (try clear hb); (try clear hb2); (try clear hk); (try clear hi)) | ((with_reducible refine gate_dst (N := 64) rfl ?_); refine Kd.R_lit k39 _ 39 ?hg (N := 64) ?hd (xs := ([] : List (S39))) (inner := []) (ok := fun _ => True) (okp := fun _ => True) ?hr ?hp (fun _ hk => hk) trivial (Below.refl _ _) (Nat.le_refl _) (by simp) ?_; (case hd => rfl); (case hg => rfl); (case hr => first | (go_simp; done) | (go_simp; rfl)); (case hp => exact (Reps.none _ _)); intro v134 w42 ho43 hb hg_ hnew_; clear hg_ hnew_; (first | rw [← Ny133.out] at ho43 | (simp only [Int.reduceToNat] at ho43; rw [← Ny133.out] at ho43)); have n0_ := Aside0.mk (Kd.R_elder' pwc_ (Kd.R_base ho43) hb); have n1_ := Aside0.mk (Kd.R_lower ho43 (keep_size (w := w) (g := g) (row := none) pwj_)); have n2_ := Aside0.mk (IsS46.below pwk_ hb); have n3_ := Aside0.mk (KeepBut.trans pwj_ (KeepBut.of_below hb g none) (.inl rfl)); have n4_ := Aside0.mk (below_step pwm_ hb); clear HO_7; clear HI0; clear HK; clear HB; have HO_7 := n0_; have HO135 := n1_; have HI0 := n2_; have HK := n3_; have HB := n4_; clear n0_ n1_ n2_ n3_ n4_; clear hb ho43; have p136 : 0 ≤ (t129 : Int) := of_decide_eq_true pwb_; have q136 : t129 < (x7_2.length : Int) := of_decide_eq_true pwb_; obtain ⟨ad136, A136_0, c136_0, e136, hx136_0, hl136_0, hi136_0⟩ := at_L3 (Kd.R_reads' HO_7.out).2.2 t129 p136 q136; cases e136; obtain ⟨ce136, hce136, hMe136, hcc136⟩ := Kd.R_get HO_7.out [] t129 p136 (by first | exact q136 | exact of_decide_eq_true pwb_ | (have e_ := (Kd.R_reads' HO_7.out).1; omega)); obtain ⟨ve136_0, rfl, ge136_0⟩ := hMe136; have hv136_0 := hcc136 0 _ rfl; rw [Nat.add_zero, show ((Kd.slice 39 k39)).sz = 1 from rfl, Nat.mul_one] at hv136_0; replace hv136_0 := Option.some.inj (hv136_0.symm.trans hx136_0); rw [hv136_0] at ge136_0; have HL136_0 := Aside0.mk (show Kd.R k39 39 _ _ _ _ (rd_L3 x7_2 t129) from ge136_0); clear hv136_0 ge136_0; clear hcc136 hce136; have HR136_0 := Aside0.mk hi136_0; have HC136_0 := Aside0.mk hl136_0; clear hi136_0 hl136_0; replace p136 := eq_true p136; replace q136 := eq_true q136) | ((with_reducible refine gate_builtin (b := .append) (xs := #[.tmp 64, .tmp 68]) rfl ?_); at_builtin; refine Kd.R_append_rows k39 w.heap.size rfl (.tmp 64) (.tmp 68) 23 39 (.agg #[(.int .i64 0), (.int .i64 0)]) 16 rfl Try.underlying23 info39 rfl (by decide) (by omega) v134 y133 (rd_L3 x7_2 t129) _ _ _ (fun _ => True) (fun _ => False) rfl rfl ?aO ?aR (fun _ _ h => h) (fun _ h => h.elim) ?aF (Below.refl _ _) ?aS ?aL ?_; (case aR => repeat (first | exact (by repeat (first | (with_reducible exact HR136_0.out) | (with_reducible refine Kd.C_alloc ?_ _) | (with_reducible refine Kd.C_drewN ?_ _) | (with_reducible refine Kd.C_drew ?_) | exact HR136_0.out)) | (with_reducible refine Kd.C_alloc ?_ _) | (with_reducible refine Kd.C_drewN ?_ _) | (with_reducible refine Kd.C_drew ?_))); (case aF => exact (fun _ _ => trivial)); (case aO => exact (by (with_reducible repeat apply Kd.R_alloc); exact HO135.out)); (case aS => exact (keep_size (w := w) (g := g) (row := none) pwj_)); (case aL => have := LMc36.out; omega); intro v138 w44 ho hb hg hat; rw [← Ny137.out] at ho; have n0_ := Aside0.mk (Kd.R_after (ok := (fun _ => True)) pwc_ hg hat); have n1_ := Aside0.mk (IsS46.grown pwk_ hg (IsS46.own_ne HI0.out HO135.out (by decide))); have n2_ := Aside0.mk (Kd.R_after (ok := (fun k_ => some k_ ≠ (.slice (some ad136) x7_2.length co39 : Value).ownBlock)) (by (with_reducible repeat apply Kd.R_alloc); exact Kd.R_mono HL136_0.out (fun _ hk => ⟨hk.2, hk.1.2⟩)) hg hat); have n3_ := Aside0.mk (below_weaken pwm_ HL.out hb); have n4_ := Aside0.mk (KeepBut.trans pwj_ (KeepBut.of_grown hg g) (Kd.R_base2 HO135.out)); have n5_ := Aside0.mk (ho); clear HO_7; clear HI0; clear HL136_0; clear HB; clear HK; clear HO135; have HO_7 := n0_; have HI0 := n1_; have HL136_0 := n2_; have HB := n3_; have HK := n4_; have HO139 := n5_; clear n0_ n1_ n2_ n3_ n4_ n5_; clear ho hb hg hat) | ((with_reducible refine gate_builtin (b := .append) (xs := #[.tmp 69, .tmp 71]) rfl ?_); at_builtin; refine Kd.R_append k39 w.heap.size rfl (.tmp 69) (.tmp 71) 23 39 (.agg #[(.int .i64 0), (.int .i64 0)]) 16 rfl Try.underlying23 info39 rfl (by decide) (by omega) v138 y137 (⟨2, 0⟩ : S39) [.int .i64 2, .int .i64 0] (fun _ => True) (fun _ => False) rfl rfl ?aP (fun _ hk => hk.elim) ?aF ?aO (Below.refl _ _) ?aS ?aL ?_; (case aP => exact k39_mkM _ _ _ (⟨2, 0⟩ : S39)); (case aF => exact (fun _ _ => trivial)); (case aO => exact (by (with_reducible repeat apply Kd.R_alloc); exact HO139.out)); (case aS => exact (keep_size (w := w) (g := g) (row := none) pwj_)); (case aL => have := LMc37.out; omega); intro v141 w45 ho hb hg hat; rw [← Ny140.out] at ho; have n0_ := Aside0.mk (Kd.R_after (ok := (fun _ => True)) pwc_ hg hat); have n1_ := Aside0.mk (IsS46.grown pwk_ hg (IsS46.own_ne HI0.out HO139.out (by decide))); have n2_ := Aside0.mk (Kd.R_after (ok := (fun k_ => some k_ ≠ (.slice (some ad136) x7_2.length co39 : Value).ownBlock)) (by (with_reducible repeat apply Kd.R_alloc); exact HL136_0.out) hg hat); have n3_ := Aside0.mk (below_weaken pwm_ HL.out hb); have n4_ := Aside0.mk (KeepBut.trans pwj_ (KeepBut.of_grown hg g) (Kd.R_base2 HO139.out)); have n5_ := Aside0.mk (ho); clear HO_7; clear HI0; clear HL136_0; clear HB; clear HK; clear HO139; have HO_7 := n0_; have HI0 := n1_; have HL136_0 := n2_; have HB := n3_; have HK := n4_; have HO142 := n5_; clear n0_ n1_ n2_ n3_ n4_ n5_; clear ho hb hg hat; have p38 : 0 ≤ (t129 : Int) := of_decide_eq_true pwb_; have q38 : (t129 : Int) < ((x7_2.length : Int) : Int) := of_decide_eq_true pwb_; obtain ⟨go38, co38, eo38, gb38, gl38, cl38, HG38⟩ := Kd.R_form HO_7.out (by omega); (first | cases eo38 | (injection eo38 with ea_ en_ ec_; (first | subst ea_ | (injection ea_ with ea_; subst ea_)); subst ec_; clear en_)); have GB38 := Aside0.mk gb38; have GG38 := Aside0.mk HG38; clear gb38 gl38 HG38; (first | simp only [add_plain] at hx136_0 | skip); obtain ⟨ce38, hcl38, hM38, hcc38, hfr38⟩ := Kd.R_elem HO_7.out [] (t129 : Int) p38 q38; obtain ⟨ve38_0, rfl, ge38_0⟩ := hM38; have hx38_0 := hcc38 0 _ rfl; have hf38_0 := hfr38 0; (try simp only [show ((Kd.slice 39 k39)).sz = 1 from rfl, Nat.mul_one, Nat.add_zero] at hx38_0); (try simp only [show ((Kd.slice 39 k39)).sz = 1 from rfl, Nat.mul_one, Nat.add_zero] at hf38_0); clear hcl38 hcc38 hfr38; (try clear hM38); skip; replace p38 := eq_true p38; replace q38 := eq_true q38; have n_ := Aside0.mk (Kd.R_mono (ok' := (fun k_ => some k_ ≠ (v141 : Value).ownBlock)) HO_7.out (fun k_ hk => hk.2)); clear HO_7; have HO_7 := n_; clear n_; have HX46 := Aside0.mk (show Kd.R (Kd.slice 39 k39) 23 w45 w.heap.size (fun _ => True) (.slice (some ⟨go38, 0, none⟩) x7_2.length co39) x7_2 from (by (with_reducible repeat apply Kd.R_alloc); exact Kd.R_mono HO_7.out (fun _ hk => trivial))); obtain ⟨ce46, hcl46, hM46, hcc46, hfr46⟩ := Kd.R_elem HX46.out [] (t129 : Int) (of_decide_eq_true pwb_) (by have h_ : (t129 : Int) < ((x7_2.length : Int) : Int) := of_decide_eq_true pwb_; first | exact h_ | (have e_ := (Kd.R_reads' HO_7.out).1; omega) | simpa using h_); obtain ⟨ve46_0, rfl, ge46_0⟩ := hM46; have HP46 := Kd.R_seg HX46.out (t129 : Int) (of_decide_eq_true pwb_) (by have h_ : (t129 : Int) < ((x7_2.length : Int) : Int) := of_decide_eq_true pwb_; first | exact h_ | (have e_ := (Kd.R_reads' HO_7.out).1; omega) | simpa using h_) (seg := [v141]) (j := 0) hcl46 hcc46 (show 1 ≤ 1 from by decide) (x' := y140) (Kd.M_row (Kd.R_mono (Kd.R_apart' (HO142.out) (Kd.R_typed HO_7.out) (by decide)) (fun k_ hk => ⟨trivial, fun e_ => (hk.2) (by rw [e_]; rfl)⟩))) (fun _ hk => hk); have hx46_0 := hcc46 0 _ rfl; (try simp only [show ((Kd.slice 39 k39)).sz = 1 from rfl, Nat.mul_one, Nat.add_zero] at hx46_0); have hf46_0 := hfr46 0; (try simp only [show ((Kd.slice 39 k39)).sz = 1 from rfl, Nat.mul_one, Nat.add_zero] at hf46_0); clear hcl46 hcc46 hfr46; (try clear hM46); skip; (try simp only [show ((Kd.slice 39 k39)).sz = 1 from rfl, Nat.mul_one, Nat.add_zero] at HP46)) | ((with_reducible refine gate_store (t := 23) (p := 73) rfl ?_); refine store_event (t := 23) (p := 73) (v := ?vo_w47) (w1 := (w45.setCell ⟨go38, (t129 : Int).toNat, none⟩ (v141))) ?hg ?ho ?hn ?hr ?_; (case ho => rfl); (case hg => rfl); (case hn => rfl); (case hr => first | (go_simp; done) | (go_simp; rfl) | ((obtain ⟨A_, c_, e_⟩ := Kd.R_slice HO142.out; rw [e_]); first | (go_simp; done) | (go_simp; rfl))); intro w47 hw; have hg : w45.grownBy w47 (some go38) := (by rw [hw]; exact HP46.2); have hp_ : Kd.R (Kd.slice 39 k39) 23 w47 w.heap.size (fun _ => True) (.slice (some ⟨go38, 0, none⟩) x7_2.length co39) y143 := (by rw [hw, Ny143.out]; exact HP46.1); clear HP46; have n0_ := Aside0.mk (hp_); have n1_ := Aside0.mk (IsS46.grown pwk_ hg (IsS46.own_ne HI0.out HO_7.out (by decide))); have n2_ := Aside0.mk (Kd.R_after (v := (.slice (some ⟨go38, 0, none⟩) x7_2.length co39)) (v1 := (.slice (some ⟨go38, 0, none⟩) x7_2.length co39)) (ok := (fun k_ => some k_ ≠ (v141 : Value).ownBlock)) (by (with_reducible repeat apply Kd.R_alloc); exact Kd.R_mono HL136_0.out (fun _ hk => ⟨hk.2, hk.1⟩)) hg (.inl rfl)); have n3_ := Aside0.mk ((by rw [hw]; exact below_set (HB.out) (Nat.le_trans HL.out GB38.out) : Below w0.heap.size w0 w47)); have n4_ := Aside0.mk (KeepBut.trans pwj_ (KeepBut.of_grown hg g) (Kd.R_base2 HO_7.out)); clear HO_7; clear HI0; clear HL136_0; clear HB; clear HK; clear HO142; have HO_7 := n0_; have HI0 := n1_; have HL136_0 := n2_; have HB := n3_; have HK := n4_; clear n0_ n1_ n2_ n3_ n4_; clear hg hw hp_))
             go_roundg k2
             case measure => have := HK1.out; have := HK2.out; omega
             case rel => exact ⟨(y143), (wrap64 (x9_2 - 1)), (t132), pwa_, H', ⟨by have := HK1.out; have := HK2.out; omega⟩, ⟨pwc_⟩, ⟨pwk_⟩, ⟨pwj_⟩, ⟨pwm_⟩⟩
            ·rw [if_neg c37] at H
             exact absurd H (by simp)
           ·rw [if_neg c36] at H
            exact absurd H (by simp)
          ·rw [if_neg c35] at H
           exact absurd H (by simp)
         ·rw [if_neg c34] at H
          exact absurd H (by simp)
        ·rw [if_neg c33] at H
         have c33b0 : (t131 == 0) = false := beq_eq_false_iff_ne.mpr c33
         have c33b1 : (t131 != 0) = true := bne_iff_ne.mpr c33
         obtain ⟨y144, hy144⟩ : ∃ y_ : List (S39), y_ = (([] : List (S39))) := ⟨_, rfl⟩
         replace H : (if 0 ≤ t129 then (if t129 < (x7_2.length : Int) then (if y144.length + (rd_L3 x7_2 t129).length < 8796093022208 then ((some (y144 ++ (rd_L3 x7_2 t129) : List (S39))).bind fun y148 => (if 0 ≤ (wrap64 (t129 + 1)) then (if (wrap64 (t129 + 1)) < (x7_2.length : Int) then (if y148.length + (rd_L3 x7_2 (wrap64 (t129 + 1))).length < 8796093022208 then ((some (y148 ++ (rd_L3 x7_2 (wrap64 (t129 + 1))) : List (S39))).bind fun y152 => ((spec_l20Rd_pick.f k2 s0_0 t132 3).bind fun bt155 => (if y152.length < 8796093022208 then ((some (([] : List (List (S39))) : List (List (S39)))).bind fun y160 => (if t129 ≤ (x7_2.length : Int) then ((some (x7_2.take (t129 : Int).toNat : List (List (S39)))).bind fun y163 => (if y160.length + y163.length < 5864062014805 then ((some (y160 ++ y163 : List (List (S39)))).bind fun y167 => (if y167.length < 5864062014805 then ((some (y167 ++ [(y152 ++ [(⟨wrap64 (3 + bt155.1), 0⟩ : S39)])] : List (List (S39)))).bind fun y170 => (if 0 ≤ (wrap64 (t129 + 2)) then (if (wrap64 (t129 + 2)) ≤ (x7_2.length : Int) then ((some (x7_2.drop ((wrap64 (t129 + 2)) : Int).toNat : List (List (S39)))).bind fun y173 => (if y170.length + y173.length < 5864062014805 then (spec_l20Term.l1 k2 a2 (y170 ++ y173) x9_2 s0_0 bt155.2) else (none))) else (none)) else (none))) else (none))) else (none))) else (none))) else (none)))) else (none)) else (none)) else (none))) else (none)) else (none)) else (none)) = some (r1, r2) := by first | (rw [hy144]; with_reducible exact H) | (have H2_ := (Option.bind_some _ _).symm.trans H; rw [hy144]; with_reducible exact H2_) | (have H2_ := (Option.bind_some _ _).symm.trans H; with_reducible exact H2_) | with_reducible exact H | (rw [hy144]; exact H) | exact H
         have Ny144 := Aside0.mk hy144
         clear hy144
         by_cases c48 : 0 ≤ t129
         ·rw [if_pos c48] at H
          have c48b0 : decide (0 ≤ t129) = true := decide_eq_true c48
          clear c48
          by_cases c49 : t129 < (x7_2.length : Int)
          ·rw [if_pos c49] at H
           have c49b0 : decide (t129 < (x7_2.length : Int)) = true := decide_eq_true c49
           clear c49
           by_cases c50 : y144.length + (rd_L3 x7_2 t129).length < 8796093022208
           ·rw [if_pos c50] at H
            have LMc50 := Aside0.mk c50
            clear c50
            obtain ⟨y148, hy148⟩ : ∃ y_ : List (S39), y_ = (y144 ++ (rd_L3 x7_2 t129)) := ⟨_, rfl⟩
            replace H : (if 0 ≤ (wrap64 (t129 + 1)) then (if (wrap64 (t129 + 1)) < (x7_2.length : Int) then (if y148.length + (rd_L3 x7_2 (wrap64 (t129 + 1))).length < 8796093022208 then ((some (y148 ++ (rd_L3 x7_2 (wrap64 (t129 + 1))) : List (S39))).bind fun y152 => ((spec_l20Rd_pick.f k2 s0_0 t132 3).bind fun bt155 => (if y152.length < 8796093022208 then ((some (([] : List (List (S39))) : List (List (S39)))).bind fun y160 => (if t129 ≤ (x7_2.length : Int) then ((some (x7_2.take (t129 : Int).toNat : List (List (S39)))).bind fun y163 => (if y160.length + y163.length < 5864062014805 then ((some (y160 ++ y163 : List (List (S39)))).bind fun y167 => (if y167.length < 5864062014805 then ((some (y167 ++ [(y152 ++ [(⟨wrap64 (3 + bt155.1), 0⟩ : S39)])] : List (List (S39)))).bind fun y170 => (if 0 ≤ (wrap64 (t129 + 2)) then (if (wrap64 (t129 + 2)) ≤ (x7_2.length : Int) then ((some (x7_2.drop ((wrap64 (t129 + 2)) : Int).toNat : List (List (S39)))).bind fun y173 => (if y170.length + y173.length < 5864062014805 then (spec_l20Term.l1 k2 a2 (y170 ++ y173) x9_2 s0_0 bt155.2) else (none))) else (none)) else (none))) else (none))) else (none))) else (none))) else (none)))) else (none)) else (none)) else (none)) = some (r1, r2) := by first | (rw [hy148]; with_reducible exact H) | (have H2_ := (Option.bind_some _ _).symm.trans H; rw [hy148]; with_reducible exact H2_) | (have H2_ := (Option.bind_some _ _).symm.trans H; with_reducible exact H2_) | with_reducible exact H | (rw [hy148]; exact H) | exact H
            have Ny148 := Aside0.mk hy148
            clear hy148
            obtain ⟨ji51, hji51⟩ : ∃ j_ : Int, (wrap64 (t129 + 1)) = j_ := ⟨_, rfl⟩
            replace H : (if 0 ≤ (ji51) then (if (ji51) < (x7_2.length : Int) then (if y148.length + (rd_L3 x7_2 (ji51)).length < 8796093022208 then ((some (y148 ++ (rd_L3 x7_2 (ji51)) : List (S39))).bind fun y152 => ((spec_l20Rd_pick.f k2 s0_0 t132 3).bind fun bt155 => (if y152.length < 8796093022208 then ((some (([] : List (List (S39))) : List (List (S39)))).bind fun y160 => (if t129 ≤ (x7_2.length : Int) then ((some (x7_2.take (t129 : Int).toNat : List (List (S39)))).bind fun y163 => (if y160.length + y163.length < 5864062014805 then ((some (y160 ++ y163 : List (List (S39)))).bind fun y167 => (if y167.length < 5864062014805 then ((some (y167 ++ [(y152 ++ [(⟨wrap64 (3 + bt155.1), 0⟩ : S39)])] : List (List (S39)))).bind fun y170 => (if 0 ≤ (wrap64 (t129 + 2)) then (if (wrap64 (t129 + 2)) ≤ (x7_2.length : Int) then ((some (x7_2.drop ((wrap64 (t129 + 2)) : Int).toNat : List (List (S39)))).bind fun y173 => (if y170.length + y173.length < 5864062014805 then (spec_l20Term.l1 k2 a2 (y170 ++ y173) x9_2 s0_0 bt155.2) else (none))) else (none)) else (none))) else (none))) else (none))) else (none))) else (none)))) else (none)) else (none)) else (none)) = some (r1, r2) := by first | (rw [hji51] at H; exact H) | (simp only [hji51] at H ⊢; exact H)
            (try rw [hji51] at A30)
            (try rw [hji51] at A32)
            have hji51w : (IntKind.i64.wrap (t129 + 1)) = ji51 := (i64_w _).trans hji51
            by_cases c52 : 0 ≤ (ji51)
            ·rw [if_pos c52] at H
             have c52b0 : decide (0 ≤ (ji51)) = true := decide_eq_true c52
             clear c52
             by_cases c53 : (ji51) < (x7_2.length : Int)
             ·rw [if_pos c53] at H
              have c53b0 : decide ((ji51) < (x7_2.length : Int)) = true := decide_eq_true c53
              clear c53
              by_cases c54 : y148.length + (rd_L3 x7_2 (ji51)).length < 8796093022208
              ·rw [if_pos c54] at H
               have LMc54 := Aside0.mk c54
               clear c54
               obtain ⟨y152, hy152⟩ : ∃ y_ : List (S39), y_ = (y148 ++ (rd_L3 x7_2 (ji51))) := ⟨_, rfl⟩
               replace H : ((spec_l20Rd_pick.f k2 s0_0 t132 3).bind fun bt155 => (if y152.length < 8796093022208 then ((some (([] : List (List (S39))) : List (List (S39)))).bind fun y160 => (if t129 ≤ (x7_2.length : Int) then ((some (x7_2.take (t129 : Int).toNat : List (List (S39)))).bind fun y163 => (if y160.length + y163.length < 5864062014805 then ((some (y160 ++ y163 : List (List (S39)))).bind fun y167 => (if y167.length < 5864062014805 then ((some (y167 ++ [(y152 ++ [(⟨wrap64 (3 + bt155.1), 0⟩ : S39)])] : List (List (S39)))).bind fun y170 => (if 0 ≤ (wrap64 (t129 + 2)) then (if (wrap64 (t129 + 2)) ≤ (x7_2.length : Int) then ((some (x7_2.drop ((wrap64 (t129 + 2)) : Int).toNat : List (List (S39)))).bind fun y173 => (if y170.length + y173.length < 5864062014805 then (spec_l20Term.l1 k2 a2 (y170 ++ y173) x9_2 s0_0 bt155.2) else (none))) else (none)) else (none))) else (none))) else (none))) else (none))) else (none))) = some (r1, r2) := by first | (rw [hy152]; with_reducible exact H) | (have H2_ := (Option.bind_some _ _).symm.trans H; rw [hy152]; with_reducible exact H2_) | (have H2_ := (Option.bind_some _ _).symm.trans H; with_reducible exact H2_) | with_reducible exact H | (rw [hy152]; exact H) | exact H
               have Ny152 := Aside0.mk hy152
               clear hy152
               replace H := Option.bind_eq_some_iff.mp H
               obtain ⟨⟨t155, t156⟩, A550, H⟩ := H
               replace H : (if y152.length < 8796093022208 then ((some (([] : List (List (S39))) : List (List (S39)))).bind fun y160 => (if t129 ≤ (x7_2.length : Int) then ((some (x7_2.take (t129 : Int).toNat : List (List (S39)))).bind fun y163 => (if y160.length + y163.length < 5864062014805 then ((some (y160 ++ y163 : List (List (S39)))).bind fun y167 => (if y167.length < 5864062014805 then ((some (y167 ++ [(y152 ++ [(⟨wrap64 (3 + t155), 0⟩ : S39)])] : List (List (S39)))).bind fun y170 => (if 0 ≤ (wrap64 (t129 + 2)) then (if (wrap64 (t129 + 2)) ≤ (x7_2.length : Int) then ((some (x7_2.drop ((wrap64 (t129 + 2)) : Int).toNat : List (List (S39)))).bind fun y173 => (if y170.length + y173.length < 5864062014805 then (spec_l20Term.l1 k2 a2 (y170 ++ y173) x9_2 s0_0 t156) else (none))) else (none)) else (none))) else (none))) else (none))) else (none))) else (none)) = some (r1, r2) := H
               have A55 := Aside0.mk A550
               clear A550
               by_cases c56 : y152.length < 8796093022208
               ·rw [if_pos c56] at H
                have LMc56 := Aside0.mk c56
                clear c56
                obtain ⟨y157, hy157⟩ : ∃ y_ : List (S39), y_ = (y152 ++ [(⟨wrap64 (3 + t155), 0⟩ : S39)]) := ⟨_, rfl⟩
                replace H : ((some (([] : List (List (S39))) : List (List (S39)))).bind fun y160 => (if t129 ≤ (x7_2.length : Int) then ((some (x7_2.take (t129 : Int).toNat : List (List (S39)))).bind fun y163 => (if y160.length + y163.length < 5864062014805 then ((some (y160 ++ y163 : List (List (S39)))).bind fun y167 => (if y167.length < 5864062014805 then ((some (y167 ++ [y157] : List (List (S39)))).bind fun y170 => (if 0 ≤ (wrap64 (t129 + 2)) then (if (wrap64 (t129 + 2)) ≤ (x7_2.length : Int) then ((some (x7_2.drop ((wrap64 (t129 + 2)) : Int).toNat : List (List (S39)))).bind fun y173 => (if y170.length + y173.length < 5864062014805 then (spec_l20Term.l1 k2 a2 (y170 ++ y173) x9_2 s0_0 t156) else (none))) else (none)) else (none))) else (none))) else (none))) else (none))) = some (r1, r2) := by first | (rw [hy157]; with_reducible exact H) | (have H2_ := (Option.bind_some _ _).symm.trans H; rw [hy157]; with_reducible exact H2_) | (have H2_ := (Option.bind_some _ _).symm.trans H; with_reducible exact H2_) | with_reducible exact H | (rw [hy157]; exact H) | exact H
                have Ny157 := Aside0.mk hy157
                clear hy157
                obtain ⟨y160, hy160⟩ : ∃ y_ : List (List (S39)), y_ = (([] : List (List (S39)))) := ⟨_, rfl⟩
                replace H : (if t129 ≤ (x7_2.length : Int) then ((some (x7_2.take (t129 : Int).toNat : List (List (S39)))).bind fun y163 => (if y160.length + y163.length < 5864062014805 then ((some (y160 ++ y163 : List (List (S39)))).bind fun y167 => (if y167.length < 5864062014805 then ((some (y167 ++ [y157] : List (List (S39)))).bind fun y170 => (if 0 ≤ (wrap64 (t129 + 2)) then (if (wrap64 (t129 + 2)) ≤ (x7_2.length : Int) then ((some (x7_2.drop ((wrap64 (t129 + 2)) : Int).toNat : List (List (S39)))).bind fun y173 => (if y170.length + y173.length < 5864062014805 then (spec_l20Term.l1 k2 a2 (y170 ++ y173) x9_2 s0_0 t156) else (none))) else (none)) else (none))) else (none))) else (none))) else (none)) = some (r1, r2) := by first | (rw [hy160]; with_reducible exact H) | (have H2_ := (Option.bind_some _ _).symm.trans H; rw [hy160]; with_reducible exact H2_) | (have H2_ := (Option.bind_some _ _).symm.trans H; with_reducible exact H2_) | with_reducible exact H | (rw [hy160]; exact H) | exact H
                have Ny160 := Aside0.mk hy160
                clear hy160
                have c57b0 := eq_true (of_decide_eq_true pwb_ : 0 ≤ t129)
                by_cases c58 : t129 ≤ (x7_2.length : Int)
                ·rw [if_pos c58] at H
                 have c58b0 := eq_true c58
                 have c58b1 : decide (t129 ≤ (x7_2.length : Int)) = true := decide_eq_true c58
                 clear c58
                 obtain ⟨y163, hy163⟩ : ∃ y_ : List (List (S39)), y_ = (x7_2.take (t129 : Int).toNat) := ⟨_, rfl⟩
                 replace H : (if y160.length + y163.length < 5864062014805 then ((some (y160 ++ y163 : List (List (S39)))).bind fun y167 => (if y167.length < 5864062014805 then ((some (y167 ++ [y157] : List (List (S39)))).bind fun y170 => (if 0 ≤ (wrap64 (t129 + 2)) then (if (wrap64 (t129 + 2)) ≤ (x7_2.length : Int) then ((some (x7_2.drop ((wrap64 (t129 + 2)) : Int).toNat : List (List (S39)))).bind fun y173 => (if y170.length + y173.length < 5864062014805 then (spec_l20Term.l1 k2 a2 (y170 ++ y173) x9_2 s0_0 t156) else (none))) else (none)) else (none))) else (none))) else (none)) = some (r1, r2) := by first | (rw [hy163]; with_reducible exact H) | (have H2_ := (Option.bind_some _ _).symm.trans H; rw [hy163]; with_reducible exact H2_) | (have H2_ := (Option.bind_some _ _).symm.trans H; with_reducible exact H2_) | with_reducible exact H | (rw [hy163]; exact H) | exact H
                 have Ny163 := Aside0.mk hy163
                 clear hy163
                 by_cases c59 : y160.length + y163.length < 5864062014805
                 ·rw [if_pos c59] at H
                  have LMc59 := Aside0.mk c59
                  clear c59
                  obtain ⟨y167, hy167⟩ : ∃ y_ : List (List (S39)), y_ = (y160 ++ y163) := ⟨_, rfl⟩
                  replace H : (if y167.length < 5864062014805 then ((some (y167 ++ [y157] : List (List (S39)))).bind fun y170 => (if 0 ≤ (wrap64 (t129 + 2)) then (if (wrap64 (t129 + 2)) ≤ (x7_2.length : Int) then ((some (x7_2.drop ((wrap64 (t129 + 2)) : Int).toNat : List (List (S39)))).bind fun y173 => (if y170.length + y173.length < 5864062014805 then (spec_l20Term.l1 k2 a2 (y170 ++ y173) x9_2 s0_0 t156) else (none))) else (none)) else (none))) else (none)) = some (r1, r2) := by first | (rw [hy167]; with_reducible exact H) | (have H2_ := (Option.bind_some _ _).symm.trans H; rw [hy167]; with_reducible exact H2_) | (have H2_ := (Option.bind_some _ _).symm.trans H; with_reducible exact H2_) | with_reducible exact H | (rw [hy167]; exact H) | exact H
                  have Ny167 := Aside0.mk hy167
                  clear hy167
                  by_cases c60 : y167.length < 5864062014805
                  ·rw [if_pos c60] at H
                   have LMc60 := Aside0.mk c60
                   clear c60
                   obtain ⟨y170, hy170⟩ : ∃ y_ : List (List (S39)), y_ = (y167 ++ [y157]) := ⟨_, rfl⟩
                   replace H : (if 0 ≤ (wrap64 (t129 + 2)) then (if (wrap64 (t129 + 2)) ≤ (x7_2.length : Int) then ((some (x7_2.drop ((wrap64 (t129 + 2)) : Int).toNat : List (List (S39)))).bind fun y173 => (if y170.length + y173.length < 5864062014805 then (spec_l20Term.l1 k2 a2 (y170 ++ y173) x9_2 s0_0 t156) else (none))) else (none)) else (none)) = some (r1, r2) := by first | (rw [hy170]; with_reducible exact H) | (have H2_ := (Option.bind_some _ _).symm.trans H; rw [hy170]; with_reducible exact H2_) | (have H2_ := (Option.bind_some _ _).symm.trans H; with_reducible exact H2_) | with_reducible exact H | (rw [hy170]; exact H) | exact H
                   have Ny170 := Aside0.mk hy170
                   clear hy170
                   by_cases c61 : 0 ≤ (wrap64 (t129 + 2))
                   ·rw [if_pos c61] at H
                    have c61b0 := eq_true c61
                    have c61b1 : decide (0 ≤ (wrap64 (t129 + 2))) = true := decide_eq_true c61
                    by_cases c62 : (wrap64 (t129 + 2)) ≤ (x7_2.length : Int)
                    ·rw [if_pos c62] at H
                     have c62b0 := eq_true c62
                     have c62b1 : decide ((wrap64 (t129 + 2)) ≤ (x7_2.length : Int)) = true := decide_eq_true c62
                     obtain ⟨y173, hy173⟩ : ∃ y_ : List (List (S39)), y_ = (x7_2.drop ((wrap64 (t129 + 2)) : Int).toNat) := ⟨_, rfl⟩
                     replace H : (if y170.length + y173.length < 5864062014805 then (spec_l20Term.l1 k2 a2 (y170 ++ y173) x9_2 s0_0 t156) else (none)) = some (r1, r2) := by first | (rw [hy173]; with_reducible exact H) | (have H2_ := (Option.bind_some _ _).symm.trans H; rw [hy173]; with_reducible exact H2_) | (have H2_ := (Option.bind_some _ _).symm.trans H; with_reducible exact H2_) | with_reducible exact H | (rw [hy173]; exact H) | exact H
                     have Ny173 := Aside0.mk hy173
                     clear hy173
                     by_cases c63 : y170.length + y173.length < 5864062014805
                     ·rw [if_pos c63] at H
                      have LMc63 := Aside0.mk c63
                      clear c63
                      obtain ⟨y177, hy177⟩ : ∃ y_ : List (List (S39)), y_ = (y170 ++ y173) := ⟨_, rfl⟩
                      replace H : (spec_l20Term.l1 k2 a2 y177 x9_2 s0_0 t156) = some (r1, r2) := by first | (rw [hy177]; with_reducible exact H) | (have H2_ := (Option.bind_some _ _).symm.trans H; rw [hy177]; with_reducible exact H2_) | (have H2_ := (Option.bind_some _ _).symm.trans H; with_reducible exact H2_) | with_reducible exact H | (rw [hy177]; exact H) | exact H
                      have Ny177 := Aside0.mk hy177
                      clear hy177
                      have H' := Aside0.mk H
                      clear H
                      obtain ⟨Ao64, co64, eo64⟩ := Kd.R_slice HO_7.out
                      subst eo64
                      try go_wp2_with (first | ((with_reducible refine gate_callee (f := 19) rfl ?_); refine goesL_ (some 52) rfl rfl Try.func19 (by kernel_rfl) rfl #[.pointer (some ⟨g, 0, none⟩), .int .i64 (wrap64 ((x7_2.length : Int) - 1))] rfl pwi_ ?_; (with_reducible refine (spec_l20Rd_pick.calls k2 g s0_0 x1001_2 (wrap64 ((x7_2.length : Int) - 1)) t129 t130 w0 _ ?side1 ?side2 A30.out).mono ?_); (case side1 => repeat (first | (with_reducible first | exact HI0.out | apply IsS46.alloc | apply IsS46.drewN | apply IsS46.drew | apply IsS46.set_1) | exact HI0.out)); (case side2 => repeat (first | (with_reducible first | exact HB.out | apply below_alloc | apply pw_below_drewN | apply below_drew1 | refine below_set ?_ (IsS46.ge HI0.out)) | exact HB.out)); rintro e w65 ⟨rfl, hi, hb, hk⟩; refine ⟨_, rfl, ?_⟩; have n0_ := Aside0.mk (Kd.R_mono (Kd.R_keep (IsS46.apart (show IsS46 w0 _ g s0_0 x1001_2 from by repeat (first | (with_reducible first | exact HI0.out | apply IsS46.alloc | apply IsS46.drewN | apply IsS46.drew | apply IsS46.set_1) | exact HI0.out)) pwc_ (by decide)) hk (fun _ h => h.2)) (fun _ h => h.1)); have n1_ := Aside0.mk (KeepBut.trans pwj_ hk (.inl rfl)); have n2_ := Aside0.mk (hb); have n3_ := Aside0.mk (hi); clear HO_7; clear HK; clear HB; clear HI0; have HO_7 := n0_; have HK := n1_; have HB := n2_; have HI0 := n3_; clear n0_ n1_ n2_ n3_; (try clear hb); (try clear hb2); (try clear hk); (try clear hi)) | (go_at_call 19; (with_reducible refine (spec_l20Rd_pick.calls k2 g s0_0 t130 4 t131 t132 w0 _ ?side1 ?side2 A32.out).mono ?_); (case side1 => repeat (first | (with_reducible first | exact HI0.out | apply IsS46.alloc | apply IsS46.drewN | apply IsS46.drew | apply IsS46.set_1) | exact HI0.out)); (case side2 => repeat (first | (with_reducible first | exact HB.out | apply below_alloc | apply pw_below_drewN | apply below_drew1 | refine below_set ?_ (IsS46.ge HI0.out)) | exact HB.out)); rintro e w66 ⟨rfl, hi, hb, hk⟩; have n0_ := Aside0.mk (Kd.R_mono (Kd.R_keep (IsS46.apart (show IsS46 w0 _ g s0_0 t130 from by repeat (first | (with_reducible first | exact HI0.out | apply IsS46.alloc | apply IsS46.drewN | apply IsS46.drew | apply IsS46.set_1) | exact HI0.out)) pwc_ (by decide)) hk (fun _ h => h.2)) (fun _ h => h.1)); have n1_ := Aside0.mk (KeepBut.trans pwj_ hk (.inl rfl)); have n2_ := Aside0.mk (hb); have n3_ := Aside0.mk (hi); clear HO_7; clear HK; clear HB; clear HI0; have HO_7 := n0_; have HK := n1_; have HB := n2_; have HI0 := n3_; clear n0_ n1_ n2_ n3_; (try clear hb); (try clear hb2); (try clear hk); (try clear hi)))
                      have n0_ := Aside0.mk (Kd.R_drew HO_7.out)
                      have n1_ := Aside0.mk (IsS46.drew HI0.out)
                      have n2_ := Aside0.mk (keep_drew HK.out)
                      have n3_ := Aside0.mk (below_drew1 HB.out)
                      clear HO_7
                      clear HI0
                      clear HK
                      clear HB
                      have HO_7 := n0_
                      have HI0 := n1_
                      have HK := n2_
                      have HB := n3_
                      clear n0_ n1_ n2_ n3_
                      have p147 : 0 ≤ (t129 : Int) := of_decide_eq_true pwb_
                      have q147 : t129 < (x7_2.length : Int) := of_decide_eq_true pwb_
                      obtain ⟨ad147, A147_0, c147_0, e147, hx147_0, hl147_0, hi147_0⟩ := at_L3 (Kd.R_reads' HO_7.out).2.2 t129 p147 q147
                      cases e147
                      obtain ⟨ce147, hce147, hMe147, hcc147⟩ := Kd.R_get HO_7.out [] t129 p147 (by first | exact q147 | exact of_decide_eq_true pwb_ | (have e_ := (Kd.R_reads' HO_7.out).1; omega))
                      obtain ⟨ve147_0, rfl, ge147_0⟩ := hMe147
                      have hv147_0 := hcc147 0 _ rfl
                      rw [Nat.add_zero, show ((Kd.slice 39 k39)).sz = 1 from rfl, Nat.mul_one] at hv147_0
                      replace hv147_0 := Option.some.inj (hv147_0.symm.trans hx147_0)
                      rw [hv147_0] at ge147_0
                      have HL147_0 := Aside0.mk (show Kd.R k39 39 _ _ _ _ (rd_L3 x7_2 t129) from ge147_0)
                      clear hv147_0 ge147_0
                      clear hcc147 hce147
                      have HR147_0 := Aside0.mk hi147_0
                      have HC147_0 := Aside0.mk hl147_0
                      clear hi147_0 hl147_0
                      replace p147 := eq_true p147
                      replace q147 := eq_true q147
                      have p151 : 0 ≤ ((ji51) : Int) := of_decide_eq_true pwb_
                      have q151 : (ji51) < (x7_2.length : Int) := of_decide_eq_true pwb_
                      obtain ⟨ad151, A151_0, c151_0, e151, hx151_0, hl151_0, hi151_0⟩ := at_L3 (Kd.R_reads' HO_7.out).2.2 (ji51) p151 q151
                      obtain rfl : ad147 = ad151 := (by injection e151)
                      obtain ⟨ce151, hce151, hMe151, hcc151⟩ := Kd.R_get HO_7.out [] (ji51) p151 (by first | exact q151 | exact of_decide_eq_true pwb_ | (have e_ := (Kd.R_reads' HO_7.out).1; omega))
                      obtain ⟨ve151_0, rfl, ge151_0⟩ := hMe151
                      have hv151_0 := hcc151 0 _ rfl
                      rw [Nat.add_zero, show ((Kd.slice 39 k39)).sz = 1 from rfl, Nat.mul_one] at hv151_0
                      replace hv151_0 := Option.some.inj (hv151_0.symm.trans hx151_0)
                      rw [hv151_0] at ge151_0
                      have HL151_0 := Aside0.mk (show Kd.R k39 39 _ _ _ _ (rd_L3 x7_2 (ji51)) from ge151_0)
                      clear hv151_0 ge151_0
                      clear hcc151 hce151
                      have HR151_0 := Aside0.mk hi151_0
                      have HC151_0 := Aside0.mk hl151_0
                      clear hi151_0 hl151_0
                      replace p151 := eq_true p151
                      replace q151 := eq_true q151
                      refine start_ (n := 19) (S := fun w' => w'.cell? (ad147.add (t129).toNat) = some (.slice A147_0 (rd_L3 x7_2 t129).length c147_0) ∧ w'.cell? (ad147.add ((ji51)).toNat) = some (.slice A151_0 (rd_L3 x7_2 (ji51)).length c151_0)) (ds := [16]) #[false, false, false, false, false, false, false, false, false, false, false, false, false, false, false, false, false, false, false] (by kernel_rfl) rfl rfl ⟨hx147_0, hx151_0⟩ (fun hHeld => ?_); refine with_tabW spec_l20Term.tab15 spec_l20Term.bits15 (fun HT_ HW_ => ?_)
                      generalize w66.drew = w67 at HO_7 HI0 HK HB HL147_0 HL151_0 HR147_0 HR151_0 hx147_0 hx151_0 hHeld ⊢
                      refine pure_ (i := 1) (N := some 75) (v := ?_) (a' := ?_) #[false, true, false, false, false, false, false, false, false, false, false, false, false, false, false, false, false, false, false] rfl rfl (any_of HT_.out (by kernel_rfl)) (fun _ _ _ h => h) (Or.inl ⟨by rfl, ?_⟩) ?_ ?_
                      rotate_left
                      ·intro w'
                       go_simp
                       with_reducible rfl
                      rotate_left
                      ·simp only [Act.put, List.setIfInBounds_toArray, List.set_cons_zero, List.set_cons_succ, i64_w, i32_w]
                       rfl
                      refine pure_ (i := 2) (N := some 76) (v := ?_) (a' := ?_) #[false, true, true, false, false, false, false, false, false, false, false, false, false, false, false, false, false, false, false] rfl rfl (any_of HT_.out (by kernel_rfl)) (fun _ _ _ h => h) (Or.inl ⟨by rfl, ?_⟩) ?_ ?_
                      rotate_left
                      ·intro w'
                       go_simp
                       with_reducible rfl
                      rotate_left
                      ·simp only [Act.put, List.setIfInBounds_toArray, List.set_cons_zero, List.set_cons_succ, i64_w, i32_w]
                       rfl
                      refine pure_ (i := 3) (N := some 77) (v := ?_) (a' := ?_) #[false, true, true, true, false, false, false, false, false, false, false, false, false, false, false, false, false, false, false] rfl rfl (any_of HT_.out (by kernel_rfl)) (fun _ _ _ h => h) (Or.inl ⟨by rfl, ?_⟩) ?_ ?_
                      rotate_left
                      ·intro w'
                       go_simp
                       with_reducible rfl
                      rotate_left
                      ·simp only [Act.put, List.setIfInBounds_toArray, List.set_cons_zero, List.set_cons_succ, i64_w, i32_w]
                       rfl
                      refine pure_ (i := 6) (N := some 80) (v := ?_) (a' := ?_) #[false, true, true, true, false, false, true, false, false, false, false, false, false, false, false, false, false, false, false] rfl rfl (any_of HT_.out (by kernel_rfl)) (fun _ _ _ h => h) (Or.inl ⟨by rfl, ?_⟩) ?_ ?_
                      rotate_left
                      ·intro w'
                       go_simp
                       with_reducible rfl
                      rotate_left
                      ·simp only [Act.put, List.setIfInBounds_toArray, List.set_cons_zero, List.set_cons_succ, i64_w, i32_w]
                       rfl
                      refine pure_ (i := 7) (N := some 81) (v := ?_) (a' := ?_) #[false, true, true, true, false, false, true, true, false, false, false, false, false, false, false, false, false, false, false] rfl rfl (any_of HT_.out (by kernel_rfl)) (fun _ _ _ h => h) (Or.inl ⟨by rfl, ?_⟩) ?_ ?_
                      rotate_left
                      ·intro w'
                       go_simp
                       with_reducible rfl
                      rotate_left
                      ·simp only [Act.put, List.setIfInBounds_toArray, List.set_cons_zero, List.set_cons_succ, i64_w, i32_w]
                       rfl
                      refine pure_ (i := 8) (N := some 82) (v := ?_) (a' := ?_) #[false, true, true, true, false, false, true, true, true, false, false, false, false, false, false, false, false, false, false] rfl rfl (any_of HT_.out (by kernel_rfl)) (fun _ _ _ h => h) (Or.inl ⟨by rfl, ?_⟩) ?_ ?_
                      rotate_left
                      ·intro w'
                       go_simp
                       with_reducible rfl
                      rotate_left
                      ·simp only [Act.put, List.setIfInBounds_toArray, List.set_cons_zero, List.set_cons_succ, i64_w, i32_w]
                       rfl
                      refine pure_ (i := 9) (N := some 83) (v := ?_) (a' := ?_) #[false, true, true, true, false, false, true, true, true, true, false, false, false, false, false, false, false, false, false] rfl rfl (any_of HT_.out (by kernel_rfl)) (fun _ _ _ h => h) (Or.inl ⟨by rfl, ?_⟩) ?_ ?_
                      rotate_left
                      ·intro w'
                       go_simp
                       with_reducible rfl
                      rotate_left
                      ·simp only [Act.put, List.setIfInBounds_toArray, List.set_cons_zero, List.set_cons_succ, i64_w, i32_w]
                       rfl
                      refine pure_ (i := 12) (N := some 86) (v := ?_) (a' := ?_) #[false, true, true, true, false, false, true, true, true, true, false, false, true, false, false, false, false, false, false] rfl rfl (any_of HT_.out (by kernel_rfl)) (fun _ _ _ h => h) (Or.inl ⟨by rfl, ?_⟩) ?_ ?_
                      rotate_left
                      ·intro w'
                       go_simp
                       with_reducible rfl
                      rotate_left
                      ·simp only [Act.put, List.setIfInBounds_toArray, List.set_cons_zero, List.set_cons_succ, i64_w, i32_w]
                       rfl
                      refine take_ (i := 4) (N := some 78) (v := ?_) (a' := ?_) #[false, true, true, true, true, false, true, true, true, true, false, false, true, false, false, false, false, false, false] rfl rfl (take_ofW HT_.out HW_.out (by kernel_rfl)) (fun _ _ _ h => h) (Or.inl ⟨by rfl, ?_⟩) hHeld ?_ ?_
                      rotate_left
                      ·rintro w' ⟨s0, s1⟩
                       go_simp
                       with_reducible rfl
                      rotate_left
                      ·simp only [Act.put, List.setIfInBounds_toArray, List.set_cons_zero, List.set_cons_succ, i64_w, i32_w]
                       rfl
                      refine take_ (i := 10) (N := some 84) (v := ?_) (a' := ?_) #[false, true, true, true, true, false, true, true, true, true, true, false, true, false, false, false, false, false, false] rfl rfl (take_ofW HT_.out HW_.out (by kernel_rfl)) (fun _ _ _ h => h) (Or.inl ⟨by rfl, ?_⟩) hHeld ?_ ?_
                      rotate_left
                      ·rintro w' ⟨s0, s1⟩
                       go_simp
                       with_reducible rfl
                      rotate_left
                      ·simp only [Act.put, List.setIfInBounds_toArray, List.set_cons_zero, List.set_cons_succ, i64_w, i32_w]
                       rfl
                      refine one_ (i := 0) (N := some 74) #[true, true, true, true, true, false, true, true, true, true, true, false, true, false, false, false, false, false, false] rfl rfl (one_of HT_.out (by kernel_rfl)) (by decide) (fun K hK => ?_)
                      refine Kd.R_lit_step k39 _ 39 ?hg (N := 74) ?hd (xs := ([] : List (S39))) (inner := []) (ok := fun _ => True) (okp := fun _ => True) ?hr ?hp (fun _ hk => hk) trivial (Below.refl _ _) (Nat.le_refl _) (by simp) ?_; (case hd => rfl); (case hg => rfl); (case hr => first | (go_simp; done) | (go_simp; rfl)); (case hp => exact (Reps.none _ _))
                      intro v145 w68 ho69 hb hg_ hnew_
                      have HS0_ := (hb.cell (World.block_lt_of_cell? _ _ (hHeld.1))).trans (hHeld.1)
                      have HS1_ := (hb.cell (World.block_lt_of_cell? _ _ (hHeld.2))).trans (hHeld.2)
                      clear hg_ hnew_
                      (first | rw [← Ny144.out] at ho69 | (simp only [Int.reduceToNat] at ho69; rw [← Ny144.out] at ho69))
                      have n0_ := Aside0.mk (Kd.R_elder' pwc_ (Kd.R_base ho69) hb)
                      have n1_ := Aside0.mk (Kd.R_elder' (by (with_reducible repeat apply Kd.R_alloc); exact HL147_0.out) (Kd.R_base ho69) hb)
                      have n2_ := Aside0.mk (Kd.R_elder' (by (with_reducible repeat apply Kd.R_alloc); exact HL151_0.out) (Kd.R_base ho69) hb)
                      have n3_ := Aside0.mk (Kd.R_lower (Kd.R_new' (Kd.R_new' ho69 (Kd.R_lt (by (with_reducible repeat apply Kd.R_alloc); exact HL147_0.out))) (Kd.R_lt (by (with_reducible repeat apply Kd.R_alloc); exact HL151_0.out))) (keep_size (w := w) (g := g) (row := none) pwj_))
                      have n4_ := Aside0.mk (IsS46.below pwk_ hb)
                      have n5_ := Aside0.mk (Kd.C_below (by repeat (first | (with_reducible exact HR147_0.out) | (with_reducible refine Kd.C_alloc ?_ _) | (with_reducible refine Kd.C_drewN ?_ _) | (with_reducible refine Kd.C_drew ?_) | exact HR147_0.out)) hb)
                      have n6_ := Aside0.mk (Kd.C_below (by repeat (first | (with_reducible exact HR151_0.out) | (with_reducible refine Kd.C_alloc ?_ _) | (with_reducible refine Kd.C_drewN ?_ _) | (with_reducible refine Kd.C_drew ?_) | exact HR151_0.out)) hb)
                      have n7_ := Aside0.mk (KeepBut.trans pwj_ (KeepBut.of_below hb g none) (.inl rfl))
                      have n8_ := Aside0.mk (below_step pwm_ hb)
                      clear HO_7
                      clear HL147_0
                      clear HL151_0
                      clear HI0
                      clear HR147_0
                      clear HR151_0
                      clear HK
                      clear HB
                      have HO_7 := n0_
                      have HL147_0 := n1_
                      have HL151_0 := n2_
                      have HO146 := n3_
                      have HI0 := n4_
                      have HR147_0 := n5_
                      have HR151_0 := n6_
                      have HK := n7_
                      have HB := n8_
                      clear n0_ n1_ n2_ n3_ n4_ n5_ n6_ n7_ n8_
                      clear hb ho69
                      refine hK.out _ _ ⟨HS0_, HS1_⟩ (fun hHeld => ?_)
                      clear hK K
                      refine norm_ (a' := ?_) ?_ ?_
                      rotate_left
                      ·show Act.put _ (some 74) _ = _
                       simp only [Act.put, List.setIfInBounds_toArray, List.set_cons_zero, List.set_cons_succ, i64_w, i32_w]
                       rfl
                      refine one_ (i := 5) (N := some 79) #[true, true, true, true, true, true, true, true, true, true, true, false, true, false, false, false, false, false, false] rfl rfl (one_of HT_.out (by kernel_rfl)) (by decide) (fun K hK => ?_)
                      refine Kd.R_append_rows_step k39 w.heap.size (by rfl) (.tmp 74) (.tmp 78) 23 39 (.agg #[(.int .i64 0), (.int .i64 0)]) 16 rfl Try.underlying23 info39 rfl (by decide) (by omega) v145 y144 (rd_L3 x7_2 t129) _ _ _ (fun k_ => some k_ ≠ (.slice A147_0 (rd_L3 x7_2 t129).length c147_0 : Value).ownBlock ∧ some k_ ≠ (.slice A151_0 (rd_L3 x7_2 (ji51)).length c151_0 : Value).ownBlock) (fun _ => False) rfl rfl ?aO ?aR (fun _ _ h => h) (fun _ h => h.elim) ?aF (Below.refl _ _) ?aS ?aL ?_
                      (case aR => repeat (first | exact (by repeat (first | (with_reducible exact HR147_0.out) | (with_reducible refine Kd.C_alloc ?_ _) | (with_reducible refine Kd.C_drewN ?_ _) | (with_reducible refine Kd.C_drew ?_) | exact HR147_0.out)) | (with_reducible refine Kd.C_alloc ?_ _) | (with_reducible refine Kd.C_drewN ?_ _) | (with_reducible refine Kd.C_drew ?_)))
                      (case aF => exact (fun k_ hk => ⟨Kd.fresh' (Kd.R_lt (by (with_reducible repeat apply Kd.R_alloc); exact HL147_0.out)) k_ hk, Kd.fresh' (Kd.R_lt (by (with_reducible repeat apply Kd.R_alloc); exact HL151_0.out)) k_ hk⟩))
                      (case aO => exact (by (with_reducible repeat apply Kd.R_alloc); exact Kd.R_mono HO146.out (fun _ hk => ⟨hk.1.2, hk.2⟩)))
                      (case aS => exact (keep_size (w := w) (g := g) (row := none) pwj_))
                      (case aL => have := LMc50.out; omega)
                      intro v149 w70 ho hb hg hat
                      have HS0_ := cell_grown hg (hHeld.1) (by first | (rw [add_block]; exact ((HO_7.out.1 _ rfl).2)) | (show some (Addr.add _ _).block ≠ _; rw [add_block]; exact ((HO_7.out.1 _ rfl).2)) | exact ((HO_7.out.1 _ rfl).2))
                      have HS1_ := cell_grown hg (hHeld.2) (by first | (rw [add_block]; exact ((HO_7.out.1 _ rfl).2)) | (show some (Addr.add _ _).block ≠ _; rw [add_block]; exact ((HO_7.out.1 _ rfl).2)) | exact ((HO_7.out.1 _ rfl).2))
                      rw [← Ny148.out] at ho
                      have n0_ := Aside0.mk (Kd.R_after (ok := (fun _ => True)) pwc_ hg hat)
                      have n1_ := Aside0.mk (IsS46.grown pwk_ hg (IsS46.own_ne HI0.out HO146.out (by decide)))
                      have n2_ := Aside0.mk (Kd.R_after (ok := (fun k_ => some k_ ≠ (.slice (some ad147) x7_2.length co64 : Value).ownBlock)) (by (with_reducible repeat apply Kd.R_alloc); exact Kd.R_mono HL147_0.out (fun _ hk => ⟨hk.1.2, hk.2⟩)) hg hat)
                      have n3_ := Aside0.mk (Kd.R_after (ok := (fun k_ => some k_ ≠ (.slice (some ad147) x7_2.length co64 : Value).ownBlock)) (by (with_reducible repeat apply Kd.R_alloc); exact Kd.R_mono HL151_0.out (fun _ hk => ⟨hk.1.2, hk.2⟩)) hg hat)
                      have n4_ := Aside0.mk (below_weaken pwm_ HL.out hb)
                      have n5_ := Aside0.mk (KeepBut.trans pwj_ (KeepBut.of_grown hg g) (Kd.R_base2 HO146.out))
                      have n6_ := Aside0.mk (ho)
                      clear HO_7
                      clear HI0
                      clear HL147_0
                      clear HL151_0
                      clear HB
                      clear HK
                      clear HO146
                      have HO_7 := n0_
                      have HI0 := n1_
                      have HL147_0 := n2_
                      have HL151_0 := n3_
                      have HB := n4_
                      have HK := n5_
                      have HO150 := n6_
                      clear n0_ n1_ n2_ n3_ n4_ n5_ n6_
                      clear ho hb hg hat
                      refine hK.out _ _ ⟨HS0_, HS1_⟩ (fun hHeld => ?_)
                      clear hK K
                      refine norm_ (a' := ?_) ?_ ?_
                      rotate_left
                      ·show Act.put _ (some 79) _ = _
                       simp only [Act.put, List.setIfInBounds_toArray, List.set_cons_zero, List.set_cons_succ, i64_w, i32_w]
                       rfl
                      refine one_ (i := 11) (N := some 85) #[true, true, true, true, true, true, true, true, true, true, true, true, true, false, false, false, false, false, false] rfl rfl (one_of HT_.out (by kernel_rfl)) (by decide) (fun K hK => ?_)
                      refine Kd.R_append_rows_step k39 w.heap.size (by rfl) (.tmp 79) (.tmp 84) 23 39 (.agg #[(.int .i64 0), (.int .i64 0)]) 16 rfl Try.underlying23 info39 rfl (by decide) (by omega) v149 y148 (rd_L3 x7_2 (ji51)) _ _ _ (fun k_ => some k_ ≠ (.slice A147_0 (rd_L3 x7_2 t129).length c147_0 : Value).ownBlock ∧ some k_ ≠ (.slice A151_0 (rd_L3 x7_2 (ji51)).length c151_0 : Value).ownBlock) (fun _ => False) rfl rfl ?aO ?aR (fun _ _ h => h) (fun _ h => h.elim) ?aF (Below.refl _ _) ?aS ?aL ?_
                      (case aR => repeat (first | exact ((Kd.R_reads' (by (with_reducible repeat apply Kd.R_alloc); exact HL151_0.out)).2.2) | (with_reducible refine Kd.C_alloc ?_ _) | (with_reducible refine Kd.C_drewN ?_ _) | (with_reducible refine Kd.C_drew ?_)))
                      (case aF => exact (fun k_ hk => ⟨Kd.fresh' (Kd.R_lt (by (with_reducible repeat apply Kd.R_alloc); exact HL147_0.out)) k_ hk, Kd.fresh' (Kd.R_lt (by (with_reducible repeat apply Kd.R_alloc); exact HL151_0.out)) k_ hk⟩))
                      (case aO => exact (by (with_reducible repeat apply Kd.R_alloc); exact HO150.out))
                      (case aS => exact (keep_size (w := w) (g := g) (row := none) pwj_))
                      (case aL => have := LMc54.out; omega)
                      intro v153 w71 ho hb hg hat
                      have HS0_ := cell_grown hg (hHeld.1) (by first | (rw [add_block]; exact ((HO_7.out.1 _ rfl).2)) | (show some (Addr.add _ _).block ≠ _; rw [add_block]; exact ((HO_7.out.1 _ rfl).2)) | exact ((HO_7.out.1 _ rfl).2))
                      have HS1_ := cell_grown hg (hHeld.2) (by first | (rw [add_block]; exact ((HO_7.out.1 _ rfl).2)) | (show some (Addr.add _ _).block ≠ _; rw [add_block]; exact ((HO_7.out.1 _ rfl).2)) | exact ((HO_7.out.1 _ rfl).2))
                      rw [← Ny152.out] at ho
                      have n0_ := Aside0.mk (Kd.R_after (ok := (fun _ => True)) pwc_ hg hat)
                      have n1_ := Aside0.mk (IsS46.grown pwk_ hg (IsS46.own_ne HI0.out HO150.out (by decide)))
                      have n2_ := Aside0.mk (Kd.R_after (ok := (fun k_ => some k_ ≠ (.slice (some ad147) x7_2.length co64 : Value).ownBlock)) (by (with_reducible repeat apply Kd.R_alloc); exact HL147_0.out) hg hat)
                      have n3_ := Aside0.mk (Kd.R_after (ok := (fun k_ => some k_ ≠ (.slice (some ad147) x7_2.length co64 : Value).ownBlock)) (by (with_reducible repeat apply Kd.R_alloc); exact HL151_0.out) hg hat)
                      have n4_ := Aside0.mk (below_weaken pwm_ HL.out hb)
                      have n5_ := Aside0.mk (KeepBut.trans pwj_ (KeepBut.of_grown hg g) (Kd.R_base2 HO150.out))
                      have n6_ := Aside0.mk (ho)
                      clear HO_7
                      clear HI0
                      clear HL147_0
                      clear HL151_0
                      clear HB
                      clear HK
                      clear HO150
                      have HO_7 := n0_
                      have HI0 := n1_
                      have HL147_0 := n2_
                      have HL151_0 := n3_
                      have HB := n4_
                      have HK := n5_
                      have HO154 := n6_
                      clear n0_ n1_ n2_ n3_ n4_ n5_ n6_
                      clear ho hb hg hat
                      refine hK.out _ _ ⟨HS0_, HS1_⟩ (fun hHeld => ?_)
                      clear hK K
                      refine norm_ (a' := ?_) ?_ ?_
                      rotate_left
                      ·show Act.put _ (some 85) _ = _
                       simp only [Act.put, List.setIfInBounds_toArray, List.set_cons_zero, List.set_cons_succ, i64_w, i32_w]
                       rfl
                      refine one_ (i := 13) (N := some 87) #[true, true, true, true, true, true, true, true, true, true, true, true, true, true, false, false, false, false, false] rfl rfl (one_of HT_.out (by kernel_rfl)) (by decide) (fun K hK => ?_)
                      refine goes_ Try.func19 (by kernel_rfl) rfl #[.pointer (some ⟨g, 0, none⟩), .int .i64 3] (by rfl) rfl rfl pwi_ ?_
                      with_reducible refine (spec_l20Rd_pick.calls k2 g s0_0 t132 3 t155 t156 w0 _ ?side1 ?side2 A55.out).mono ?_
                      (case side1 => repeat (first | (with_reducible first | exact HI0.out | apply IsS46.alloc | apply IsS46.drewN | apply IsS46.drew | apply IsS46.set_1) | exact HI0.out))
                      (case side2 => repeat (first | (with_reducible first | exact HB.out | apply below_alloc | apply pw_below_drewN | apply below_drew1 | refine below_set ?_ (IsS46.ge HI0.out)) | exact HB.out))
                      rintro e w72 ⟨rfl, hi, hb, hk⟩
                      have HS0_ := keep_cell hk (hHeld.1) (by first | (rw [add_block]; exact Kd.own_blk (IsS46.own_ne HI0.out HO_7.out (by decide))) | (show (Addr.add _ _).block ≠ _; rw [add_block]; exact Kd.own_blk (IsS46.own_ne HI0.out HO_7.out (by decide))) | exact Kd.own_blk (IsS46.own_ne HI0.out HO_7.out (by decide)))
                      have HS1_ := keep_cell hk (hHeld.2) (by first | (rw [add_block]; exact Kd.own_blk (IsS46.own_ne HI0.out HO_7.out (by decide))) | (show (Addr.add _ _).block ≠ _; rw [add_block]; exact Kd.own_blk (IsS46.own_ne HI0.out HO_7.out (by decide))) | exact Kd.own_blk (IsS46.own_ne HI0.out HO_7.out (by decide)))
                      refine ⟨_, rfl, ?_⟩
                      have n0_ := Aside0.mk (Kd.R_mono (Kd.R_keep (IsS46.apart (show IsS46 w0 _ g s0_0 t132 from by repeat (first | (with_reducible first | exact HI0.out | apply IsS46.alloc | apply IsS46.drewN | apply IsS46.drew | apply IsS46.set_1) | exact HI0.out)) pwc_ (by decide)) hk (fun _ h => h.2)) (fun _ h => h.1))
                      have n1_ := Aside0.mk (Kd.R_mono (Kd.R_keep (IsS46.apart (show IsS46 w0 _ g s0_0 t132 from by repeat (first | (with_reducible first | exact HI0.out | apply IsS46.alloc | apply IsS46.drewN | apply IsS46.drew | apply IsS46.set_1) | exact HI0.out)) (by (with_reducible repeat apply Kd.R_alloc); exact HL147_0.out) (by decide)) hk (fun _ h => h.2)) (fun _ h => h.1))
                      have n2_ := Aside0.mk (Kd.R_mono (Kd.R_keep (IsS46.apart (show IsS46 w0 _ g s0_0 t132 from by repeat (first | (with_reducible first | exact HI0.out | apply IsS46.alloc | apply IsS46.drewN | apply IsS46.drew | apply IsS46.set_1) | exact HI0.out)) (by (with_reducible repeat apply Kd.R_alloc); exact HL151_0.out) (by decide)) hk (fun _ h => h.2)) (fun _ h => h.1))
                      have n3_ := Aside0.mk (Kd.R_mono (Kd.R_keep (IsS46.apart (show IsS46 w0 _ g s0_0 t132 from by repeat (first | (with_reducible first | exact HI0.out | apply IsS46.alloc | apply IsS46.drewN | apply IsS46.drew | apply IsS46.set_1) | exact HI0.out)) (by (with_reducible repeat apply Kd.R_alloc); exact HO154.out) (by decide)) hk (fun _ h => h.2)) (fun _ h => h.1))
                      have n4_ := Aside0.mk (KeepBut.trans pwj_ hk (.inl rfl))
                      have n5_ := Aside0.mk (hb)
                      have n6_ := Aside0.mk (hi)
                      clear HO_7
                      clear HL147_0
                      clear HL151_0
                      clear HO154
                      clear HK
                      clear HB
                      clear HI0
                      have HO_7 := n0_
                      have HL147_0 := n1_
                      have HL151_0 := n2_
                      have HO154 := n3_
                      have HK := n4_
                      have HB := n5_
                      have HI0 := n6_
                      clear n0_ n1_ n2_ n3_ n4_ n5_ n6_
                      (try clear hb)
                      (try clear hb2)
                      (try clear hk)
                      (try clear hi)
                      refine hK.out _ _ ⟨HS0_, HS1_⟩ (fun hHeld => ?_)
                      clear hK K
                      refine norm_ (a' := ?_) ?_ ?_
                      rotate_left
                      ·show Act.put _ (some 87) _ = _
                       simp only [Act.put, List.setIfInBounds_toArray, List.set_cons_zero, List.set_cons_succ, i64_w, i32_w]
                       rfl
                      refine pure_ (i := 14) (N := some 88) (v := ?_) (a' := ?_) #[true, true, true, true, true, true, true, true, true, true, true, true, true, true, true, false, false, false, false] rfl rfl (any_of HT_.out (by kernel_rfl)) (fun _ _ _ h => h) (Or.inl ⟨by rfl, ?_⟩) ?_ ?_
                      rotate_left
                      ·intro w'
                       go_simp
                       with_reducible rfl
                      rotate_left
                      ·simp only [Act.put, List.setIfInBounds_toArray, List.set_cons_zero, List.set_cons_succ, i64_w, i32_w]
                       rfl
                      refine pure_ (i := 15) (N := some 89) (v := ?_) (a' := ?_) #[true, true, true, true, true, true, true, true, true, true, true, true, true, true, true, true, false, false, false] rfl rfl (any_of HT_.out (by kernel_rfl)) (fun _ _ _ h => h) (Or.inl ⟨by rfl, ?_⟩) ?_ ?_
                      rotate_left
                      ·intro w'
                       go_simp
                       with_reducible rfl
                      rotate_left
                      ·simp only [Act.put, List.setIfInBounds_toArray, List.set_cons_zero, List.set_cons_succ, i64_w, i32_w]
                       rfl
                      refine last_ (i := 16) (N := some 90) #[true, true, true, true, true, true, true, true, true, true, true, true, true, true, true, true, true, false, false] rfl rfl (one_of HT_.out (by kernel_rfl)) (by decide) (fun K hK => ?_)
                      refine value_ (w1 := ?_) (v := ?_) (by rfl) rfl ?_ ?_
                      rotate_left 2
                      ·go_simp
                       constructor
                       ·rfl
                       ·rfl
                      refine hK.out _ _ ?_
                      clear hK K
                      refine norm_ (a' := ?_) ?_ ?_
                      rotate_left
                      ·show Act.put _ (some 90) _ = _
                       simp only [Act.put, List.setIfInBounds_toArray, List.set_cons_zero, List.set_cons_succ, i64_w, i32_w]
                       rfl
                      refine one_ (i := 17) (N := some 91) #[true, true, true, true, true, true, true, true, true, true, true, true, true, true, true, true, true, true, false] rfl rfl (one_of HT_.out (by kernel_rfl)) (by decide) (fun K hK => ?_)
                      refine Kd.R_append_step k39 w.heap.size (by rfl) (.tmp 85) (.tmp 90) 23 39 (.agg #[(.int .i64 0), (.int .i64 0)]) 16 rfl Try.underlying23 info39 rfl (by decide) (by omega) v153 y152 (⟨wrap64 (3 + t155), 0⟩ : S39) [.int .i64 (wrap64 (3 + t155)), .int .i64 0] (fun k_ => some k_ ≠ (.slice A147_0 (rd_L3 x7_2 t129).length c147_0 : Value).ownBlock ∧ some k_ ≠ (.slice A151_0 (rd_L3 x7_2 (ji51)).length c151_0 : Value).ownBlock) (fun _ => False) rfl rfl ?aP (fun _ hk => hk.elim) ?aF ?aO (Below.refl _ _) ?aS ?aL ?_
                      (case aP => exact k39_mkM _ _ _ (⟨wrap64 (3 + t155), 0⟩ : S39))
                      (case aF => exact (fun k_ hk => ⟨Kd.fresh' (Kd.R_lt (by (with_reducible repeat apply Kd.R_alloc); exact HL147_0.out)) k_ hk, Kd.fresh' (Kd.R_lt (by (with_reducible repeat apply Kd.R_alloc); exact HL151_0.out)) k_ hk⟩))
                      (case aO => exact (by (with_reducible repeat apply Kd.R_alloc); exact HO154.out))
                      (case aS => exact (keep_size (w := w) (g := g) (row := none) pwj_))
                      (case aL => have := LMc56.out; omega)
                      intro v158 w73 ho hb hg hat
                      have HS0_ := cell_grown hg (hHeld.1) (by first | (rw [add_block]; exact ((HO_7.out.1 _ rfl).2)) | (show some (Addr.add _ _).block ≠ _; rw [add_block]; exact ((HO_7.out.1 _ rfl).2)) | exact ((HO_7.out.1 _ rfl).2))
                      have HS1_ := cell_grown hg (hHeld.2) (by first | (rw [add_block]; exact ((HO_7.out.1 _ rfl).2)) | (show some (Addr.add _ _).block ≠ _; rw [add_block]; exact ((HO_7.out.1 _ rfl).2)) | exact ((HO_7.out.1 _ rfl).2))
                      rw [← Ny157.out] at ho
                      have n0_ := Aside0.mk (Kd.R_after (ok := (fun _ => True)) pwc_ hg hat)
                      have n1_ := Aside0.mk (IsS46.grown pwk_ hg (IsS46.own_ne HI0.out HO154.out (by decide)))
                      have n2_ := Aside0.mk (Kd.R_after (ok := (fun k_ => some k_ ≠ (.slice (some ad147) x7_2.length co64 : Value).ownBlock)) (by (with_reducible repeat apply Kd.R_alloc); exact HL147_0.out) hg hat)
                      have n3_ := Aside0.mk (Kd.R_after (ok := (fun k_ => some k_ ≠ (.slice (some ad147) x7_2.length co64 : Value).ownBlock)) (by (with_reducible repeat apply Kd.R_alloc); exact HL151_0.out) hg hat)
                      have n4_ := Aside0.mk (below_weaken pwm_ HL.out hb)
                      have n5_ := Aside0.mk (KeepBut.trans pwj_ (KeepBut.of_grown hg g) (Kd.R_base2 HO154.out))
                      have n6_ := Aside0.mk (ho)
                      clear HO_7
                      clear HI0
                      clear HL147_0
                      clear HL151_0
                      clear HB
                      clear HK
                      clear HO154
                      have HO_7 := n0_
                      have HI0 := n1_
                      have HL147_0 := n2_
                      have HL151_0 := n3_
                      have HB := n4_
                      have HK := n5_
                      have HO159 := n6_
                      clear n0_ n1_ n2_ n3_ n4_ n5_ n6_
                      clear ho hb hg hat
                      refine hK.out _ _ ⟨HS0_, HS1_⟩ (fun hHeld => ?_)
                      clear hK K
                      refine norm_ (a' := ?_) ?_ ?_
                      rotate_left
                      ·show Act.put _ (some 91) _ = _
                       simp only [Act.put, List.setIfInBounds_toArray, List.set_cons_zero, List.set_cons_succ, i64_w, i32_w]
                       rfl
                      refine pure_ (i := 18) (N := some 11) (v := ?_) (a' := ?_) #[true, true, true, true, true, true, true, true, true, true, true, true, true, true, true, true, true, true, true] rfl rfl (any_of HT_.out (by kernel_rfl)) (fun _ _ _ h => h) (Or.inl ⟨by rfl, ?_⟩) ?_ ?_
                      rotate_left
                      ·intro w'
                       go_simp
                       with_reducible rfl
                      rotate_left
                      ·simp only [Act.put, List.setIfInBounds_toArray, List.set_cons_zero, List.set_cons_succ, i64_w, i32_w]
                       rfl
                      refine done_ (done_of HT_.out (by kernel_rfl)) ?_
                      try go_wp2_with (first | ((with_reducible refine gate_dst (N := 92) rfl ?_); refine Kd.R_lit (Kd.slice 39 k39) _ 23 ?hg (N := 92) ?hd (xs := ([] : List (List (S39)))) (inner := []) (ok := fun _ => True) (okp := fun _ => True) ?hr ?hp (fun _ hk => hk) trivial (Below.refl _ _) (Nat.le_refl _) (by simp) ?_; (case hd => rfl); (case hg => rfl); (case hr => first | (go_simp; done) | (go_simp; rfl)); (case hp => exact (Reps.none _ _)); intro v161 w74 ho75 hb hg_ hnew_; clear hg_ hnew_; (first | rw [← Ny160.out] at ho75 | (simp only [Int.reduceToNat] at ho75; rw [← Ny160.out] at ho75)); have n0_ := Aside0.mk (Kd.R_elder' pwc_ (Kd.R_base ho75) hb); have n1_ := Aside0.mk (Kd.R_below (by (with_reducible repeat apply Kd.R_alloc); exact HL147_0.out) hb); have n2_ := Aside0.mk (Kd.R_below (by (with_reducible repeat apply Kd.R_alloc); exact HL151_0.out) hb); have n3_ := Aside0.mk (Kd.R_below (by (with_reducible repeat apply Kd.R_alloc); exact HO159.out) hb); have n4_ := Aside0.mk (Kd.R_lower (Kd.R_new' (Kd.R_new' (Kd.R_new' (Kd.R_new' ho75 (Kd.R_lt pwc_)) (Kd.R_lt (by (with_reducible repeat apply Kd.R_alloc); exact HL147_0.out))) (Kd.R_lt (by (with_reducible repeat apply Kd.R_alloc); exact HL151_0.out))) (Kd.R_lt (by (with_reducible repeat apply Kd.R_alloc); exact HO159.out))) (keep_size (w := w) (g := g) (row := none) pwj_)); have n5_ := Aside0.mk (IsS46.below pwk_ hb); have n6_ := Aside0.mk (KeepBut.trans pwj_ (KeepBut.of_below hb g none) (.inl rfl)); have n7_ := Aside0.mk (below_step pwm_ hb); clear HO_7; clear HL147_0; clear HL151_0; clear HO159; clear HI0; clear HK; clear HB; have HO_7 := n0_; have HL147_0 := n1_; have HL151_0 := n2_; have HO159 := n3_; have HO162 := n4_; have HI0 := n5_; have HK := n6_; have HB := n7_; clear n0_ n1_ n2_ n3_ n4_ n5_ n6_ n7_; clear hb ho75; have q76 : (t129 : Int) ≤ ((x7_2.length : Int) : Int) := of_decide_eq_true pwb_; obtain ⟨i076, hi076, _, hsz76, _⟩ := info_parts info23; have hroom76 : x7_2.length ≤ co64 := (Kd.R_reads' HO_7.out).2.1; have hC76 : Kd.C (Kd.slice 39 k39) _ (some ad147) x7_2.length x7_2 := (Kd.R_reads' HO_7.out).2.2; have hcut76 := cut_to (P := Try.prog) 54 23 .i64 Try.underlying54 hi076 (some ad147) x7_2.length co64 t129 (of_decide_eq_true pwb_) q76 hroom76; have hr76 := Kd.C_take (m := (t129 : Int).toNat) hC76 (by omega); have hy76 : y163.length = (t129 : Int).toNat := (by rw [Ny163.out, List.length_take]; omega); rw [← Ny163.out] at hr76; rw [← hy76] at hcut76; have HR166 := Aside0.mk hr76; have HC166 := Aside0.mk (show y163.length ≤ co64 from by omega); clear hr76 hC76 hroom76 hi076 hsz76; have KY76 := Aside0.mk hy76; clear hy76; have KL76 := Aside0.mk (show (t129 : Int).toNat ≤ x7_2.length from by omega); replace q76 := eq_true q76) | ((with_reducible refine gate_builtin (b := .append) (xs := #[.tmp 92, .tmp 95]) rfl ?_); at_builtin; refine Kd.R_append_rows (Kd.slice 39 k39) w.heap.size rfl (.tmp 92) (.tmp 95) 54 23 (.slice none 0 0) 24 rfl Try.underlying54 info23 rfl (by decide) (by omega) v161 y160 y163 _ _ _ (fun k_ => some k_ ≠ (.slice (some ad147) x7_2.length co64 : Value).ownBlock ∧ some k_ ≠ (v158 : Value).ownBlock) (fun k_ => ((fun k_ => some k_ ≠ (.slice (some ad147) x7_2.length co64 : Value).ownBlock ∧ some k_ ≠ (v158 : Value).ownBlock)) k_ ∧ some k_ ≠ (v161 : Value).ownBlock) rfl rfl ?aO ?aR (fun _ _ h => h) (fun _ hk => hk) ?aF (Below.refl _ _) ?aS ?aL ?_; (case aR => rw [Ny163.out]; exact Kd.C_take (m := (t129 : Int).toNat) (Kd.R_frozen (okp := (fun k_ => ((fun k_ => some k_ ≠ (.slice (some ad147) x7_2.length co64 : Value).ownBlock ∧ some k_ ≠ (v158 : Value).ownBlock)) k_ ∧ some k_ ≠ (v161 : Value).ownBlock)) (HO_7.out) (fun k_ hk => ⟨⟨hk.2, hk.1.1.2⟩, hk.1.2⟩)).2.2 KL76.out); (case aF => exact (fun k_ hk => ⟨Kd.fresh' (Kd.R_lt pwc_) k_ hk, Kd.fresh' (Kd.R_lt (by (with_reducible repeat apply Kd.R_alloc); exact HO159.out)) k_ hk⟩)); (case aO => exact (by (with_reducible repeat apply Kd.R_alloc); exact Kd.R_mono HO162.out (fun _ hk => ⟨hk.1.1.1.2, hk.2⟩))); (case aS => exact (keep_size (w := w) (g := g) (row := none) pwj_)); (case aL => have := LMc59.out; omega); intro v168 w77 ho hb hg hat; rw [← Ny167.out] at ho; have n0_ := Aside0.mk (Kd.R_after (ok := (fun k_ => some k_ ≠ (v158 : Value).ownBlock)) (by (with_reducible repeat apply Kd.R_alloc); exact Kd.R_mono HO_7.out (fun _ hk => ⟨hk.1.2, hk.2⟩)) hg hat); have n1_ := Aside0.mk (IsS46.grown pwk_ hg (IsS46.own_ne HI0.out HO162.out (by decide))); have n2_ := Aside0.mk (Kd.R_over' (by (with_reducible repeat apply Kd.R_alloc); exact HO159.out) (Kd.R_typed (by (with_reducible repeat apply Kd.R_alloc); exact HO162.out)) (by decide) hg); have n3_ := Aside0.mk (below_weaken pwm_ HL.out hb); have n4_ := Aside0.mk (KeepBut.trans pwj_ (KeepBut.of_grown hg g) (Kd.R_base2 HO162.out)); have n5_ := Aside0.mk ((show Kd.C (Kd.slice 39 k39) w77 (some ad147) y163.length y163 from by rw [Ny163.out]; exact Kd.C_take (m := (t129 : Int).toNat) ((Kd.R_reads' (Kd.R_after (ok := (fun k_ => some k_ ≠ (v158 : Value).ownBlock)) (by (with_reducible repeat apply Kd.R_alloc); exact Kd.R_mono HO_7.out (fun _ hk => ⟨hk.1.2, hk.2⟩)) hg hat)).2.2) KL76.out)); have n6_ := Aside0.mk (ho); clear HO_7; clear HI0; clear HO159; clear HB; clear HK; clear HR166; clear HO162; have HO_7 := n0_; have HI0 := n1_; have HO159 := n2_; have HB := n3_; have HK := n4_; have HR166 := n5_; have HO169 := n6_; clear n0_ n1_ n2_ n3_ n4_ n5_ n6_; clear ho hb hg hat; obtain ⟨Ao79, co79, eo79⟩ := Kd.R_slice HO159.out; subst eo79) | ((with_reducible refine gate_builtin (b := .append) (xs := #[.tmp 97, .tmp 99]) rfl ?_); at_builtin; refine Kd.R_append (Kd.slice 39 k39) w.heap.size rfl (.tmp 97) (.tmp 99) 54 23 (.slice none 0 0) 24 rfl Try.underlying54 info23 rfl (by decide) (by omega) v168 y167 y157 [.slice Ao79 y157.length co79] (fun k_ => some k_ ≠ (.slice (some ad147) x7_2.length co64 : Value).ownBlock) (fun k_ => ((fun k_ => some k_ ≠ (.slice (some ad147) x7_2.length co64 : Value).ownBlock)) k_ ∧ some k_ ≠ (v168 : Value).ownBlock) rfl rfl ?aP (fun _ hk => hk) ?aF ?aO (Below.refl _ _) ?aS ?aL ?_; (case aP => exact Kd.M_row (Kd.R_mono (Kd.R_apart' (Kd.R_apart' (HO159.out) (Kd.R_typed HO_7.out) (by decide)) (Kd.R_typed HO169.out) (by decide)) (fun k_ hk => ⟨hk.1.2, hk.2⟩))); (case aF => exact (fun k_ hk => Kd.fresh' (Kd.R_lt pwc_) k_ hk)); (case aO => exact (by (with_reducible repeat apply Kd.R_alloc); exact Kd.R_mono HO169.out (fun _ hk => hk.1))); (case aS => exact (keep_size (w := w) (g := g) (row := none) pwj_)); (case aL => have := LMc60.out; omega); intro v171 w78 ho hb hg hat; rw [← Ny170.out] at ho; have n0_ := Aside0.mk (Kd.R_after (ok := (fun k_ => some k_ ≠ (.slice Ao79 y157.length co79 : Value).ownBlock)) pwc_ hg hat); have n1_ := Aside0.mk (IsS46.grown pwk_ hg (IsS46.own_ne HI0.out HO169.out (by decide))); have n2_ := Aside0.mk (below_weaken pwm_ HL.out hb); have n3_ := Aside0.mk (KeepBut.trans pwj_ (KeepBut.of_grown hg g) (Kd.R_base2 HO169.out)); have n4_ := Aside0.mk ((show Kd.C (Kd.slice 39 k39) w78 (some ad147) y163.length y163 from by rw [Ny163.out]; exact Kd.C_take (m := (t129 : Int).toNat) ((Kd.R_reads' (Kd.R_after (ok := (fun k_ => some k_ ≠ (.slice Ao79 y157.length co79 : Value).ownBlock)) pwc_ hg hat)).2.2) KL76.out)); have n5_ := Aside0.mk (ho); clear HO_7; clear HI0; clear HB; clear HK; clear HR166; clear HO169; clear HO159; have HO_7 := n0_; have HI0 := n1_; have HB := n2_; have HK := n3_; have HR166 := n4_; have HO172 := n5_; clear n0_ n1_ n2_ n3_ n4_ n5_; clear ho hb hg hat; have q80 : ((wrap64 (t129 + 2)) : Int) ≤ ((x7_2.length : Int) : Int) := of_decide_eq_true pwb_; obtain ⟨i080, hi080, _, hsz80, _⟩ := info_parts info23; have hroom80 : x7_2.length ≤ co64 := (Kd.R_reads' HO_7.out).2.1; have hC80 : Kd.C (Kd.slice 39 k39) _ (some ad147) x7_2.length x7_2 := (Kd.R_reads' HO_7.out).2.2; have q080 : (0 : Int) ≤ ((wrap64 (t129 + 2)) : Int) := of_decide_eq_true pwb_; have hcut80 := cut_from (P := Try.prog) 54 23 .i64 Try.underlying54 hi080 1 hsz80 (some ad147) x7_2.length co64 (wrap64 (t129 + 2)) q080 q80; have hr80 := Kd.C_drop (m := ((wrap64 (t129 + 2)) : Int).toNat) (c := co64) hC80 (by omega) hroom80; obtain ⟨A80, hA80⟩ : ∃ A1, A1 = (if co64 = ((wrap64 (t129 + 2)) : Int).toNat then (some ad147) else ((some ad147) : Option Addr).map (·.add (((wrap64 (t129 + 2)) : Int).toNat * 1))) := ⟨_, rfl⟩; obtain ⟨c80, hc80⟩ : ∃ c1, c1 = co64 - ((wrap64 (t129 + 2)) : Int).toNat := ⟨_, rfl⟩; have hy80 : y173.length = x7_2.length - ((wrap64 (t129 + 2)) : Int).toNat := (by rw [Ny173.out, List.length_drop] <;> omega); rw [show (x7_2).drop ((wrap64 (t129 + 2)) : Int).toNat = y173 from Ny173.out.symm] at hr80; replace hr80 : Kd.C (Kd.slice 39 k39) _ A80 y173.length y173 := (by rw [hA80]; exact hr80); rw [← hy80, ← hA80, ← hc80] at hcut80; have HR176 := Aside0.mk hr80; have HC176 := Aside0.mk (show y173.length ≤ c80 from by rw [hy80, hc80]; exact Nat.sub_le_sub_right hroom80 _); clear hr80 hC80 hroom80 hi080 hsz80 hc80; have KY80 := Aside0.mk hy80; have KA80 := Aside0.mk hA80; clear hy80 hA80; have KL80 := Aside0.mk (show ((wrap64 (t129 + 2)) : Int).toNat ≤ x7_2.length from by omega); replace q80 := eq_true q80) | ((with_reducible refine gate_builtin (b := .append) (xs := #[.tmp 101, .tmp 105]) rfl ?_); at_builtin; refine Kd.R_append_rows (Kd.slice 39 k39) w.heap.size rfl (.tmp 101) (.tmp 105) 54 23 (.slice none 0 0) 24 rfl Try.underlying54 info23 rfl (by decide) (by omega) v171 y170 y173 _ _ _ (fun k_ => some k_ ≠ (.slice (some ad147) x7_2.length co64 : Value).ownBlock) (fun k_ => ((fun k_ => some k_ ≠ (.slice (some ad147) x7_2.length co64 : Value).ownBlock)) k_ ∧ some k_ ≠ (v171 : Value).ownBlock) rfl rfl ?aO ?aR (fun _ _ h => h) (fun _ hk => hk) ?aF (Below.refl _ _) ?aS ?aL ?_; (case aR => rw [Ny173.out, KA80.out]; exact Kd.C_drop (m := ((wrap64 (t129 + 2)) : Int).toNat) (c := co64) (Kd.R_frozen (okp := (fun k_ => ((fun k_ => some k_ ≠ (.slice (some ad147) x7_2.length co64 : Value).ownBlock)) k_ ∧ some k_ ≠ (v171 : Value).ownBlock)) (HO_7.out) (fun k_ hk => ⟨hk.2, hk.1.2⟩)).2.2 KL80.out (Kd.R_frozen (okp := (fun k_ => ((fun k_ => some k_ ≠ (.slice (some ad147) x7_2.length co64 : Value).ownBlock)) k_ ∧ some k_ ≠ (v171 : Value).ownBlock)) (HO_7.out) (fun k_ hk => ⟨hk.2, hk.1.2⟩)).2.1); (case aF => exact (fun k_ hk => Kd.fresh' (Kd.R_lt pwc_) k_ hk)); (case aO => exact (by (with_reducible repeat apply Kd.R_alloc); exact HO172.out)); (case aS => exact (keep_size (w := w) (g := g) (row := none) pwj_)); (case aL => have := LMc63.out; omega); intro v178 w81 ho hb hg hat; rw [← Ny177.out] at ho; have n0_ := Aside0.mk (Kd.R_after (ok := (fun _ => True)) (by (with_reducible repeat apply Kd.R_alloc); exact Kd.R_mono HO_7.out (fun _ hk => ⟨trivial, hk.2⟩)) hg hat); have n1_ := Aside0.mk (IsS46.grown pwk_ hg (IsS46.own_ne HI0.out HO172.out (by decide))); have n2_ := Aside0.mk (below_weaken pwm_ HL.out hb); have n3_ := Aside0.mk (KeepBut.trans pwj_ (KeepBut.of_grown hg g) (Kd.R_base2 HO172.out)); have n4_ := Aside0.mk ((show Kd.C (Kd.slice 39 k39) w81 (some ad147) y163.length y163 from by rw [Ny163.out]; exact Kd.C_take (m := (t129 : Int).toNat) ((Kd.R_reads' (Kd.R_after (ok := (fun _ => True)) (by (with_reducible repeat apply Kd.R_alloc); exact Kd.R_mono HO_7.out (fun _ hk => ⟨trivial, hk.2⟩)) hg hat)).2.2) KL76.out)); have n5_ := Aside0.mk ((show Kd.C (Kd.slice 39 k39) w81 A80 y173.length y173 from by rw [Ny173.out, KA80.out]; exact Kd.C_drop (m := ((wrap64 (t129 + 2)) : Int).toNat) (c := co64) ((Kd.R_reads' (Kd.R_after (ok := (fun _ => True)) (by (with_reducible repeat apply Kd.R_alloc); exact Kd.R_mono HO_7.out (fun _ hk => ⟨trivial, hk.2⟩)) hg hat)).2.2) KL80.out ((Kd.R_reads' (Kd.R_after (ok := (fun _ => True)) (by (with_reducible repeat apply Kd.R_alloc); exact Kd.R_mono HO_7.out (fun _ hk => ⟨trivial, hk.2⟩)) hg hat)).2.1))); have n6_ := Aside0.mk (ho); clear HO_7; clear HI0; clear HB; clear HK; clear HR166; clear HR176; clear HO172; have HO_7 := n0_; have HI0 := n1_; have HB := n2_; have HK := n3_; have HR166 := n4_; have HR176 := n5_; have HO179 := n6_; clear n0_ n1_ n2_ n3_ n4_ n5_ n6_; clear ho hb hg hat))
                      go_roundg k2
                      case measure => have := HK1.out; have := HK2.out; omega
                      case rel => exact ⟨(y177), (x9_2), (t156), pwa_, H', ⟨by have := HK1.out; have := HK2.out; omega⟩, ⟨by (with_reducible repeat apply Kd.R_alloc); exact Kd.R_mono HO179.out (fun _ hk => trivial)⟩, ⟨pwk_⟩, ⟨pwj_⟩, ⟨pwm_⟩⟩
                     ·rw [if_neg c63] at H
                      exact absurd H (by simp)
                    ·rw [if_neg c62] at H
                     exact absurd H (by simp)
                   ·rw [if_neg c61] at H
                    exact absurd H (by simp)
                  ·rw [if_neg c60] at H
                   exact absurd H (by simp)
                 ·rw [if_neg c59] at H
                  exact absurd H (by simp)
                ·rw [if_neg c58] at H
                 exact absurd H (by simp)
               ·rw [if_neg c56] at H
                exact absurd H (by simp)
              ·rw [if_neg c54] at H
               exact absurd H (by simp)
             ·rw [if_neg c53] at H
              exact absurd H (by simp)
            ·rw [if_neg c52] at H
             exact absurd H (by simp)
           ·rw [if_neg c50] at H
            exact absurd H (by simp)
          ·rw [if_neg c49] at H
           exact absurd H (by simp)
         ·rw [if_neg c48] at H
          exact absurd H (by simp)
       ·rw [if_neg c31] at H
        have c31b0 : decide (0 < x9_2) = false := decide_eq_false c31
        clear c31
        obtain ⟨y180, hy180⟩ : ∃ y_ : List (S39), y_ = (([] : List (S39))) := ⟨_, rfl⟩
        replace H : (if 0 ≤ t129 then (if t129 < (x7_2.length : Int) then (if y180.length + (rd_L3 x7_2 t129).length < 8796093022208 then ((some (y180 ++ (rd_L3 x7_2 t129) : List (S39))).bind fun y184 => (if 0 ≤ (wrap64 (t129 + 1)) then (if (wrap64 (t129 + 1)) < (x7_2.length : Int) then (if y184.length + (rd_L3 x7_2 (wrap64 (t129 + 1))).length < 8796093022208 then ((some (y184 ++ (rd_L3 x7_2 (wrap64 (t129 + 1))) : List (S39))).bind fun y188 => ((spec_l20Rd_pick.f k2 s0_0 t130 3).bind fun bt191 => (if y188.length < 8796093022208 then ((some (([] : List (List (S39))) : List (List (S39)))).bind fun y196 => (if t129 ≤ (x7_2.length : Int) then ((some (x7_2.take (t129 : Int).toNat : List (List (S39)))).bind fun y199 => (if y196.length + y199.length < 5864062014805 then ((some (y196 ++ y199 : List (List (S39)))).bind fun y203 => (if y203.length < 5864062014805 then ((some (y203 ++ [(y188 ++ [(⟨wrap64 (3 + bt191.1), 0⟩ : S39)])] : List (List (S39)))).bind fun y206 => (if 0 ≤ (wrap64 (t129 + 2)) then (if (wrap64 (t129 + 2)) ≤ (x7_2.length : Int) then ((some (x7_2.drop ((wrap64 (t129 + 2)) : Int).toNat : List (List (S39)))).bind fun y209 => (if y206.length + y209.length < 5864062014805 then (spec_l20Term.l1 k2 a2 (y206 ++ y209) x9_2 s0_0 bt191.2) else (none))) else (none)) else (none))) else (none))) else (none))) else (none))) else (none)))) else (none)) else (none)) else (none))) else (none)) else (none)) else (none)) = some (r1, r2) := by first | (rw [hy180]; with_reducible exact H) | (have H2_ := (Option.bind_some _ _).symm.trans H; rw [hy180]; with_reducible exact H2_) | (have H2_ := (Option.bind_some _ _).symm.trans H; with_reducible exact H2_) | with_reducible exact H | (rw [hy180]; exact H) | exact H
        have Ny180 := Aside0.mk hy180
        clear hy180
        by_cases c82 : 0 ≤ t129
        ·rw [if_pos c82] at H
         have c82b0 : decide (0 ≤ t129) = true := decide_eq_true c82
         clear c82
         by_cases c83 : t129 < (x7_2.length : Int)
         ·rw [if_pos c83] at H
          have c83b0 : decide (t129 < (x7_2.length : Int)) = true := decide_eq_true c83
          clear c83
          by_cases c84 : y180.length + (rd_L3 x7_2 t129).length < 8796093022208
          ·rw [if_pos c84] at H
           have LMc84 := Aside0.mk c84
           clear c84
           obtain ⟨y184, hy184⟩ : ∃ y_ : List (S39), y_ = (y180 ++ (rd_L3 x7_2 t129)) := ⟨_, rfl⟩
           replace H : (if 0 ≤ (wrap64 (t129 + 1)) then (if (wrap64 (t129 + 1)) < (x7_2.length : Int) then (if y184.length + (rd_L3 x7_2 (wrap64 (t129 + 1))).length < 8796093022208 then ((some (y184 ++ (rd_L3 x7_2 (wrap64 (t129 + 1))) : List (S39))).bind fun y188 => ((spec_l20Rd_pick.f k2 s0_0 t130 3).bind fun bt191 => (if y188.length < 8796093022208 then ((some (([] : List (List (S39))) : List (List (S39)))).bind fun y196 => (if t129 ≤ (x7_2.length : Int) then ((some (x7_2.take (t129 : Int).toNat : List (List (S39)))).bind fun y199 => (if y196.length + y199.length < 5864062014805 then ((some (y196 ++ y199 : List (List (S39)))).bind fun y203 => (if y203.length < 5864062014805 then ((some (y203 ++ [(y188 ++ [(⟨wrap64 (3 + bt191.1), 0⟩ : S39)])] : List (List (S39)))).bind fun y206 => (if 0 ≤ (wrap64 (t129 + 2)) then (if (wrap64 (t129 + 2)) ≤ (x7_2.length : Int) then ((some (x7_2.drop ((wrap64 (t129 + 2)) : Int).toNat : List (List (S39)))).bind fun y209 => (if y206.length + y209.length < 5864062014805 then (spec_l20Term.l1 k2 a2 (y206 ++ y209) x9_2 s0_0 bt191.2) else (none))) else (none)) else (none))) else (none))) else (none))) else (none))) else (none)))) else (none)) else (none)) else (none)) = some (r1, r2) := by first | (rw [hy184]; with_reducible exact H) | (have H2_ := (Option.bind_some _ _).symm.trans H; rw [hy184]; with_reducible exact H2_) | (have H2_ := (Option.bind_some _ _).symm.trans H; with_reducible exact H2_) | with_reducible exact H | (rw [hy184]; exact H) | exact H
           have Ny184 := Aside0.mk hy184
           clear hy184
           obtain ⟨ji85, hji85⟩ : ∃ j_ : Int, (wrap64 (t129 + 1)) = j_ := ⟨_, rfl⟩
           replace H : (if 0 ≤ (ji85) then (if (ji85) < (x7_2.length : Int) then (if y184.length + (rd_L3 x7_2 (ji85)).length < 8796093022208 then ((some (y184 ++ (rd_L3 x7_2 (ji85)) : List (S39))).bind fun y188 => ((spec_l20Rd_pick.f k2 s0_0 t130 3).bind fun bt191 => (if y188.length < 8796093022208 then ((some (([] : List (List (S39))) : List (List (S39)))).bind fun y196 => (if t129 ≤ (x7_2.length : Int) then ((some (x7_2.take (t129 : Int).toNat : List (List (S39)))).bind fun y199 => (if y196.length + y199.length < 5864062014805 then ((some (y196 ++ y199 : List (List (S39)))).bind fun y203 => (if y203.length < 5864062014805 then ((some (y203 ++ [(y188 ++ [(⟨wrap64 (3 + bt191.1), 0⟩ : S39)])] : List (List (S39)))).bind fun y206 => (if 0 ≤ (wrap64 (t129 + 2)) then (if (wrap64 (t129 + 2)) ≤ (x7_2.length : Int) then ((some (x7_2.drop ((wrap64 (t129 + 2)) : Int).toNat : List (List (S39)))).bind fun y209 => (if y206.length + y209.length < 5864062014805 then (spec_l20Term.l1 k2 a2 (y206 ++ y209) x9_2 s0_0 bt191.2) else (none))) else (none)) else (none))) else (none))) else (none))) else (none))) else (none)))) else (none)) else (none)) else (none)) = some (r1, r2) := by first | (rw [hji85] at H; exact H) | (simp only [hji85] at H ⊢; exact H)
           (try rw [hji85] at A30)
           have hji85w : (IntKind.i64.wrap (t129 + 1)) = ji85 := (i64_w _).trans hji85
           by_cases c86 : 0 ≤ (ji85)
           ·rw [if_pos c86] at H
            have c86b0 : decide (0 ≤ (ji85)) = true := decide_eq_true c86
            clear c86
            by_cases c87 : (ji85) < (x7_2.length : Int)
            ·rw [if_pos c87] at H
             have c87b0 : decide ((ji85) < (x7_2.length : Int)) = true := decide_eq_true c87
             clear c87
             by_cases c88 : y184.length + (rd_L3 x7_2 (ji85)).length < 8796093022208
             ·rw [if_pos c88] at H
              have LMc88 := Aside0.mk c88
              clear c88
              obtain ⟨y188, hy188⟩ : ∃ y_ : List (S39), y_ = (y184 ++ (rd_L3 x7_2 (ji85))) := ⟨_, rfl⟩
              replace H : ((spec_l20Rd_pick.f k2 s0_0 t130 3).bind fun bt191 => (if y188.length < 8796093022208 then ((some (([] : List (List (S39))) : List (List (S39)))).bind fun y196 => (if t129 ≤ (x7_2.length : Int) then ((some (x7_2.take (t129 : Int).toNat : List (List (S39)))).bind fun y199 => (if y196.length + y199.length < 5864062014805 then ((some (y196 ++ y199 : List (List (S39)))).bind fun y203 => (if y203.length < 5864062014805 then ((some (y203 ++ [(y188 ++ [(⟨wrap64 (3 + bt191.1), 0⟩ : S39)])] : List (List (S39)))).bind fun y206 => (if 0 ≤ (wrap64 (t129 + 2)) then (if (wrap64 (t129 + 2)) ≤ (x7_2.length : Int) then ((some (x7_2.drop ((wrap64 (t129 + 2)) : Int).toNat : List (List (S39)))).bind fun y209 => (if y206.length + y209.length < 5864062014805 then (spec_l20Term.l1 k2 a2 (y206 ++ y209) x9_2 s0_0 bt191.2) else (none))) else (none)) else (none))) else (none))) else (none))) else (none))) else (none))) = some (r1, r2) := by first | (rw [hy188]; with_reducible exact H) | (have H2_ := (Option.bind_some _ _).symm.trans H; rw [hy188]; with_reducible exact H2_) | (have H2_ := (Option.bind_some _ _).symm.trans H; with_reducible exact H2_) | with_reducible exact H | (rw [hy188]; exact H) | exact H
              have Ny188 := Aside0.mk hy188
              clear hy188
              replace H := Option.bind_eq_some_iff.mp H
              obtain ⟨⟨t191, t192⟩, A890, H⟩ := H
              replace H : (if y188.length < 8796093022208 then ((some (([] : List (List (S39))) : List (List (S39)))).bind fun y196 => (if t129 ≤ (x7_2.length : Int) then ((some (x7_2.take (t129 : Int).toNat : List (List (S39)))).bind fun y199 => (if y196.length + y199.length < 5864062014805 then ((some (y196 ++ y199 : List (List (S39)))).bind fun y203 => (if y203.length < 5864062014805 then ((some (y203 ++ [(y188 ++ [(⟨wrap64 (3 + t191), 0⟩ : S39)])] : List (List (S39)))).bind fun y206 => (if 0 ≤ (wrap64 (t129 + 2)) then (if (wrap64 (t129 + 2)) ≤ (x7_2.length : Int) then ((some (x7_2.drop ((wrap64 (t129 + 2)) : Int).toNat : List (List (S39)))).bind fun y209 => (if y206.length + y209.length < 5864062014805 then (spec_l20Term.l1 k2 a2 (y206 ++ y209) x9_2 s0_0 t192) else (none))) else (none)) else (none))) else (none))) else (none))) else (none))) else (none)) = some (r1, r2) := H
              have A89 := Aside0.mk A890
              clear A890
              by_cases c90 : y188.length < 8796093022208
              ·rw [if_pos c90] at H
               have LMc90 := Aside0.mk c90
               clear c90
               obtain ⟨y193, hy193⟩ : ∃ y_ : List (S39), y_ = (y188 ++ [(⟨wrap64 (3 + t191), 0⟩ : S39)]) := ⟨_, rfl⟩
               replace H : ((some (([] : List (List (S39))) : List (List (S39)))).bind fun y196 => (if t129 ≤ (x7_2.length : Int) then ((some (x7_2.take (t129 : Int).toNat : List (List (S39)))).bind fun y199 => (if y196.length + y199.length < 5864062014805 then ((some (y196 ++ y199 : List (List (S39)))).bind fun y203 => (if y203.length < 5864062014805 then ((some (y203 ++ [y193] : List (List (S39)))).bind fun y206 => (if 0 ≤ (wrap64 (t129 + 2)) then (if (wrap64 (t129 + 2)) ≤ (x7_2.length : Int) then ((some (x7_2.drop ((wrap64 (t129 + 2)) : Int).toNat : List (List (S39)))).bind fun y209 => (if y206.length + y209.length < 5864062014805 then (spec_l20Term.l1 k2 a2 (y206 ++ y209) x9_2 s0_0 t192) else (none))) else (none)) else (none))) else (none))) else (none))) else (none))) = some (r1, r2) := by first | (rw [hy193]; with_reducible exact H) | (have H2_ := (Option.bind_some _ _).symm.trans H; rw [hy193]; with_reducible exact H2_) | (have H2_ := (Option.bind_some _ _).symm.trans H; with_reducible exact H2_) | with_reducible exact H | (rw [hy193]; exact H) | exact H
               have Ny193 := Aside0.mk hy193
               clear hy193
               obtain ⟨y196, hy196⟩ : ∃ y_ : List (List (S39)), y_ = (([] : List (List (S39)))) := ⟨_, rfl⟩
               replace H : (if t129 ≤ (x7_2.length : Int) then ((some (x7_2.take (t129 : Int).toNat : List (List (S39)))).bind fun y199 => (if y196.length + y199.length < 5864062014805 then ((some (y196 ++ y199 : List (List (S39)))).bind fun y203 => (if y203.length < 5864062014805 then ((some (y203 ++ [y193] : List (List (S39)))).bind fun y206 => (if 0 ≤ (wrap64 (t129 + 2)) then (if (wrap64 (t129 + 2)) ≤ (x7_2.length : Int) then ((some (x7_2.drop ((wrap64 (t129 + 2)) : Int).toNat : List (List (S39)))).bind fun y209 => (if y206.length + y209.length < 5864062014805 then (spec_l20Term.l1 k2 a2 (y206 ++ y209) x9_2 s0_0 t192) else (none))) else (none)) else (none))) else (none))) else (none))) else (none)) = some (r1, r2) := by first | (rw [hy196]; with_reducible exact H) | (have H2_ := (Option.bind_some _ _).symm.trans H; rw [hy196]; with_reducible exact H2_) | (have H2_ := (Option.bind_some _ _).symm.trans H; with_reducible exact H2_) | with_reducible exact H | (rw [hy196]; exact H) | exact H
               have Ny196 := Aside0.mk hy196
               clear hy196
               have c91b0 := eq_true (of_decide_eq_true pwb_ : 0 ≤ t129)
               by_cases c92 : t129 ≤ (x7_2.length : Int)
               ·rw [if_pos c92] at H
                have c92b0 := eq_true c92
                have c92b1 : decide (t129 ≤ (x7_2.length : Int)) = true := decide_eq_true c92
                clear c92
                obtain ⟨y199, hy199⟩ : ∃ y_ : List (List (S39)), y_ = (x7_2.take (t129 : Int).toNat) := ⟨_, rfl⟩
                replace H : (if y196.length + y199.length < 5864062014805 then ((some (y196 ++ y199 : List (List (S39)))).bind fun y203 => (if y203.length < 5864062014805 then ((some (y203 ++ [y193] : List (List (S39)))).bind fun y206 => (if 0 ≤ (wrap64 (t129 + 2)) then (if (wrap64 (t129 + 2)) ≤ (x7_2.length : Int) then ((some (x7_2.drop ((wrap64 (t129 + 2)) : Int).toNat : List (List (S39)))).bind fun y209 => (if y206.length + y209.length < 5864062014805 then (spec_l20Term.l1 k2 a2 (y206 ++ y209) x9_2 s0_0 t192) else (none))) else (none)) else (none))) else (none))) else (none)) = some (r1, r2) := by first | (rw [hy199]; with_reducible exact H) | (have H2_ := (Option.bind_some _ _).symm.trans H; rw [hy199]; with_reducible exact H2_) | (have H2_ := (Option.bind_some _ _).symm.trans H; with_reducible exact H2_) | with_reducible exact H | (rw [hy199]; exact H) | exact H
                have Ny199 := Aside0.mk hy199
                clear hy199
                by_cases c93 : y196.length + y199.length < 5864062014805
                ·rw [if_pos c93] at H
                 have LMc93 := Aside0.mk c93
                 clear c93
                 obtain ⟨y203, hy203⟩ : ∃ y_ : List (List (S39)), y_ = (y196 ++ y199) := ⟨_, rfl⟩
                 replace H : (if y203.length < 5864062014805 then ((some (y203 ++ [y193] : List (List (S39)))).bind fun y206 => (if 0 ≤ (wrap64 (t129 + 2)) then (if (wrap64 (t129 + 2)) ≤ (x7_2.length : Int) then ((some (x7_2.drop ((wrap64 (t129 + 2)) : Int).toNat : List (List (S39)))).bind fun y209 => (if y206.length + y209.length < 5864062014805 then (spec_l20Term.l1 k2 a2 (y206 ++ y209) x9_2 s0_0 t192) else (none))) else (none)) else (none))) else (none)) = some (r1, r2) := by first | (rw [hy203]; with_reducible exact H) | (have H2_ := (Option.bind_some _ _).symm.trans H; rw [hy203]; with_reducible exact H2_) | (have H2_ := (Option.bind_some _ _).symm.trans H; with_reducible exact H2_) | with_reducible exact H | (rw [hy203]; exact H) | exact H
                 have Ny203 := Aside0.mk hy203
                 clear hy203
                 by_cases c94 : y203.length < 5864062014805
                 ·rw [if_pos c94] at H
                  have LMc94 := Aside0.mk c94
                  clear c94
                  obtain ⟨y206, hy206⟩ : ∃ y_ : List (List (S39)), y_ = (y203 ++ [y193]) := ⟨_, rfl⟩
                  replace H : (if 0 ≤ (wrap64 (t129 + 2)) then (if (wrap64 (t129 + 2)) ≤ (x7_2.length : Int) then ((some (x7_2.drop ((wrap64 (t129 + 2)) : Int).toNat : List (List (S39)))).bind fun y209 => (if y206.length + y209.length < 5864062014805 then (spec_l20Term.l1 k2 a2 (y206 ++ y209) x9_2 s0_0 t192) else (none))) else (none)) else (none)) = some (r1, r2) := by first | (rw [hy206]; with_reducible exact H) | (have H2_ := (Option.bind_some _ _).symm.trans H; rw [hy206]; with_reducible exact H2_) | (have H2_ := (Option.bind_some _ _).symm.trans H; with_reducible exact H2_) | with_reducible exact H | (rw [hy206]; exact H) | exact H
                  have Ny206 := Aside0.mk hy206
                  clear hy206
                  by_cases c95 : 0 ≤ (wrap64 (t129 + 2))
                  ·rw [if_pos c95] at H
                   have c95b0 := eq_true c95
                   have c95b1 : decide (0 ≤ (wrap64 (t129 + 2))) = true := decide_eq_true c95
                   by_cases c96 : (wrap64 (t129 + 2)) ≤ (x7_2.length : Int)
                   ·rw [if_pos c96] at H
                    have c96b0 := eq_true c96
                    have c96b1 : decide ((wrap64 (t129 + 2)) ≤ (x7_2.length : Int)) = true := decide_eq_true c96
                    obtain ⟨y209, hy209⟩ : ∃ y_ : List (List (S39)), y_ = (x7_2.drop ((wrap64 (t129 + 2)) : Int).toNat) := ⟨_, rfl⟩
                    replace H : (if y206.length + y209.length < 5864062014805 then (spec_l20Term.l1 k2 a2 (y206 ++ y209) x9_2 s0_0 t192) else (none)) = some (r1, r2) := by first | (rw [hy209]; with_reducible exact H) | (have H2_ := (Option.bind_some _ _).symm.trans H; rw [hy209]; with_reducible exact H2_) | (have H2_ := (Option.bind_some _ _).symm.trans H; with_reducible exact H2_) | with_reducible exact H | (rw [hy209]; exact H) | exact H
                    have Ny209 := Aside0.mk hy209
                    clear hy209
                    by_cases c97 : y206.length + y209.length < 5864062014805
                    ·rw [if_pos c97] at H
                     have LMc97 := Aside0.mk c97
                     clear c97
                     obtain ⟨y213, hy213⟩ : ∃ y_ : List (List (S39)), y_ = (y206 ++ y209) := ⟨_, rfl⟩
                     replace H : (spec_l20Term.l1 k2 a2 y213 x9_2 s0_0 t192) = some (r1, r2) := by first | (rw [hy213]; with_reducible exact H) | (have H2_ := (Option.bind_some _ _).symm.trans H; rw [hy213]; with_reducible exact H2_) | (have H2_ := (Option.bind_some _ _).symm.trans H; with_reducible exact H2_) | with_reducible exact H | (rw [hy213]; exact H) | exact H
                     have Ny213 := Aside0.mk hy213
                     clear hy213
                     have H' := Aside0.mk H
                     clear H
                     obtain ⟨Ao98, co98, eo98⟩ := Kd.R_slice HO_7.out
                     subst eo98
                     try go_wp2_with (first | ((with_reducible refine gate_callee (f := 19) rfl ?_); refine goesL_ (some 52) rfl rfl Try.func19 (by kernel_rfl) rfl #[.pointer (some ⟨g, 0, none⟩), .int .i64 (wrap64 ((x7_2.length : Int) - 1))] rfl pwi_ ?_; (with_reducible refine (spec_l20Rd_pick.calls k2 g s0_0 x1001_2 (wrap64 ((x7_2.length : Int) - 1)) t129 t130 w0 _ ?side1 ?side2 A30.out).mono ?_); (case side1 => repeat (first | (with_reducible first | exact HI0.out | apply IsS46.alloc | apply IsS46.drewN | apply IsS46.drew | apply IsS46.set_1) | exact HI0.out)); (case side2 => repeat (first | (with_reducible first | exact HB.out | apply below_alloc | apply pw_below_drewN | apply below_drew1 | refine below_set ?_ (IsS46.ge HI0.out)) | exact HB.out)); rintro e w99 ⟨rfl, hi, hb, hk⟩; refine ⟨_, rfl, ?_⟩; have n0_ := Aside0.mk (Kd.R_mono (Kd.R_keep (IsS46.apart (show IsS46 w0 _ g s0_0 x1001_2 from by repeat (first | (with_reducible first | exact HI0.out | apply IsS46.alloc | apply IsS46.drewN | apply IsS46.drew | apply IsS46.set_1) | exact HI0.out)) pwc_ (by decide)) hk (fun _ h => h.2)) (fun _ h => h.1)); have n1_ := Aside0.mk (KeepBut.trans pwj_ hk (.inl rfl)); have n2_ := Aside0.mk (hb); have n3_ := Aside0.mk (hi); clear HO_7; clear HK; clear HB; clear HI0; have HO_7 := n0_; have HK := n1_; have HB := n2_; have HI0 := n3_; clear n0_ n1_ n2_ n3_; (try clear hb); (try clear hb2); (try clear hk); (try clear hi)))
                     have n0_ := Aside0.mk (Kd.R_drew HO_7.out)
                     have n1_ := Aside0.mk (IsS46.drew HI0.out)
                     have n2_ := Aside0.mk (keep_drew HK.out)
                     have n3_ := Aside0.mk (below_drew1 HB.out)
                     clear HO_7
                     clear HI0
                     clear HK
                     clear HB
                     have HO_7 := n0_
                     have HI0 := n1_
                     have HK := n2_
                     have HB := n3_
                     clear n0_ n1_ n2_ n3_
                     have p183 : 0 ≤ (t129 : Int) := of_decide_eq_true pwb_
                     have q183 : t129 < (x7_2.length : Int) := of_decide_eq_true pwb_
                     obtain ⟨ad183, A183_0, c183_0, e183, hx183_0, hl183_0, hi183_0⟩ := at_L3 (Kd.R_reads' HO_7.out).2.2 t129 p183 q183
                     cases e183
                     obtain ⟨ce183, hce183, hMe183, hcc183⟩ := Kd.R_get HO_7.out [] t129 p183 (by first | exact q183 | exact of_decide_eq_true pwb_ | (have e_ := (Kd.R_reads' HO_7.out).1; omega))
                     obtain ⟨ve183_0, rfl, ge183_0⟩ := hMe183
                     have hv183_0 := hcc183 0 _ rfl
                     rw [Nat.add_zero, show ((Kd.slice 39 k39)).sz = 1 from rfl, Nat.mul_one] at hv183_0
                     replace hv183_0 := Option.some.inj (hv183_0.symm.trans hx183_0)
                     rw [hv183_0] at ge183_0
                     have HL183_0 := Aside0.mk (show Kd.R k39 39 _ _ _ _ (rd_L3 x7_2 t129) from ge183_0)
                     clear hv183_0 ge183_0
                     clear hcc183 hce183
                     have HR183_0 := Aside0.mk hi183_0
                     have HC183_0 := Aside0.mk hl183_0
                     clear hi183_0 hl183_0
                     replace p183 := eq_true p183
                     replace q183 := eq_true q183
                     have p187 : 0 ≤ ((ji85) : Int) := of_decide_eq_true pwb_
                     have q187 : (ji85) < (x7_2.length : Int) := of_decide_eq_true pwb_
                     obtain ⟨ad187, A187_0, c187_0, e187, hx187_0, hl187_0, hi187_0⟩ := at_L3 (Kd.R_reads' HO_7.out).2.2 (ji85) p187 q187
                     obtain rfl : ad183 = ad187 := (by injection e187)
                     obtain ⟨ce187, hce187, hMe187, hcc187⟩ := Kd.R_get HO_7.out [] (ji85) p187 (by first | exact q187 | exact of_decide_eq_true pwb_ | (have e_ := (Kd.R_reads' HO_7.out).1; omega))
                     obtain ⟨ve187_0, rfl, ge187_0⟩ := hMe187
                     have hv187_0 := hcc187 0 _ rfl
                     rw [Nat.add_zero, show ((Kd.slice 39 k39)).sz = 1 from rfl, Nat.mul_one] at hv187_0
                     replace hv187_0 := Option.some.inj (hv187_0.symm.trans hx187_0)
                     rw [hv187_0] at ge187_0
                     have HL187_0 := Aside0.mk (show Kd.R k39 39 _ _ _ _ (rd_L3 x7_2 (ji85)) from ge187_0)
                     clear hv187_0 ge187_0
                     clear hcc187 hce187
                     have HR187_0 := Aside0.mk hi187_0
                     have HC187_0 := Aside0.mk hl187_0
                     clear hi187_0 hl187_0
                     replace p187 := eq_true p187
                     replace q187 := eq_true q187
                     refine start_ (n := 19) (S := fun w' => w'.cell? (ad183.add (t129).toNat) = some (.slice A183_0 (rd_L3 x7_2 t129).length c183_0) ∧ w'.cell? (ad183.add ((ji85)).toNat) = some (.slice A187_0 (rd_L3 x7_2 (ji85)).length c187_0)) (ds := [16]) #[false, false, false, false, false, false, false, false, false, false, false, false, false, false, false, false, false, false, false] (by kernel_rfl) rfl rfl ⟨hx183_0, hx187_0⟩ (fun hHeld => ?_); refine with_tabW spec_l20Term.tab15 spec_l20Term.bits15 (fun HT_ HW_ => ?_)
                     generalize w99.drew = w100 at HO_7 HI0 HK HB HL183_0 HL187_0 HR183_0 HR187_0 hx183_0 hx187_0 hHeld ⊢
                     refine pure_ (i := 1) (N := some 75) (v := ?_) (a' := ?_) #[false, true, false, false, false, false, false, false, false, false, false, false, false, false, false, false, false, false, false] rfl rfl (any_of HT_.out (by kernel_rfl)) (fun _ _ _ h => h) (Or.inl ⟨by rfl, ?_⟩) ?_ ?_
                     rotate_left
                     ·intro w'
                      go_simp
                      with_reducible rfl
                     rotate_left
                     ·simp only [Act.put, List.setIfInBounds_toArray, List.set_cons_zero, List.set_cons_succ, i64_w, i32_w]
                      rfl
                     refine pure_ (i := 2) (N := some 76) (v := ?_) (a' := ?_) #[false, true, true, false, false, false, false, false, false, false, false, false, false, false, false, false, false, false, false] rfl rfl (any_of HT_.out (by kernel_rfl)) (fun _ _ _ h => h) (Or.inl ⟨by rfl, ?_⟩) ?_ ?_
                     rotate_left
                     ·intro w'
                      go_simp
                      with_reducible rfl
                     rotate_left
                     ·simp only [Act.put, List.setIfInBounds_toArray, List.set_cons_zero, List.set_cons_succ, i64_w, i32_w]
                      rfl
                     refine pure_ (i := 3) (N := some 77) (v := ?_) (a' := ?_) #[false, true, true, true, false, false, false, false, false, false, false, false, false, false, false, false, false, false, false] rfl rfl (any_of HT_.out (by kernel_rfl)) (fun _ _ _ h => h) (Or.inl ⟨by rfl, ?_⟩) ?_ ?_
                     rotate_left
                     ·intro w'
                      go_simp
                      with_reducible rfl
                     rotate_left
                     ·simp only [Act.put, List.setIfInBounds_toArray, List.set_cons_zero, List.set_cons_succ, i64_w, i32_w]
                      rfl
                     refine pure_ (i := 6) (N := some 80) (v := ?_) (a' := ?_) #[false, true, true, true, false, false, true, false, false, false, false, false, false, false, false, false, false, false, false] rfl rfl (any_of HT_.out (by kernel_rfl)) (fun _ _ _ h => h) (Or.inl ⟨by rfl, ?_⟩) ?_ ?_
                     rotate_left
                     ·intro w'
                      go_simp
                      with_reducible rfl
                     rotate_left
                     ·simp only [Act.put, List.setIfInBounds_toArray, List.set_cons_zero, List.set_cons_succ, i64_w, i32_w]
                      rfl
                     refine pure_ (i := 7) (N := some 81) (v := ?_) (a' := ?_) #[false, true, true, true, false, false, true, true, false, false, false, false, false, false, false, false, false, false, false] rfl rfl (any_of HT_.out (by kernel_rfl)) (fun _ _ _ h => h) (Or.inl ⟨by rfl, ?_⟩) ?_ ?_
                     rotate_left
                     ·intro w'
                      go_simp
                      with_reducible rfl
                     rotate_left
                     ·simp only [Act.put, List.setIfInBounds_toArray, List.set_cons_zero, List.set_cons_succ, i64_w, i32_w]
                      rfl
                     refine pure_ (i := 8) (N := some 82) (v := ?_) (a' := ?_) #[false, true, true, true, false, false, true, true, true, false, false, false, false, false, false, false, false, false, false] rfl rfl (any_of HT_.out (by kernel_rfl)) (fun _ _ _ h => h) (Or.inl ⟨by rfl, ?_⟩) ?_ ?_
                     rotate_left
                     ·intro w'
                      go_simp
                      with_reducible rfl
                     rotate_left
                     ·simp only [Act.put, List.setIfInBounds_toArray, List.set_cons_zero, List.set_cons_succ, i64_w, i32_w]
                      rfl
                     refine pure_ (i := 9) (N := some 83) (v := ?_) (a' := ?_) #[false, true, true, true, false, false, true, true, true, true, false, false, false, false, false, false, false, false, false] rfl rfl (any_of HT_.out (by kernel_rfl)) (fun _ _ _ h => h) (Or.inl ⟨by rfl, ?_⟩) ?_ ?_
                     rotate_left
                     ·intro w'
                      go_simp
                      with_reducible rfl
                     rotate_left
                     ·simp only [Act.put, List.setIfInBounds_toArray, List.set_cons_zero, List.set_cons_succ, i64_w, i32_w]
                      rfl
                     refine pure_ (i := 12) (N := some 86) (v := ?_) (a' := ?_) #[false, true, true, true, false, false, true, true, true, true, false, false, true, false, false, false, false, false, false] rfl rfl (any_of HT_.out (by kernel_rfl)) (fun _ _ _ h => h) (Or.inl ⟨by rfl, ?_⟩) ?_ ?_
                     rotate_left
                     ·intro w'
                      go_simp
                      with_reducible rfl
                     rotate_left
                     ·simp only [Act.put, List.setIfInBounds_toArray, List.set_cons_zero, List.set_cons_succ, i64_w, i32_w]
                      rfl
                     refine take_ (i := 4) (N := some 78) (v := ?_) (a' := ?_) #[false, true, true, true, true, false, true, true, true, true, false, false, true, false, false, false, false, false, false] rfl rfl (take_ofW HT_.out HW_.out (by kernel_rfl)) (fun _ _ _ h => h) (Or.inl ⟨by rfl, ?_⟩) hHeld ?_ ?_
                     rotate_left
                     ·rintro w' ⟨s0, s1⟩
                      go_simp
                      with_reducible rfl
                     rotate_left
                     ·simp only [Act.put, List.setIfInBounds_toArray, List.set_cons_zero, List.set_cons_succ, i64_w, i32_w]
                      rfl
                     refine take_ (i := 10) (N := some 84) (v := ?_) (a' := ?_) #[false, true, true, true, true, false, true, true, true, true, true, false, true, false, false, false, false, false, false] rfl rfl (take_ofW HT_.out HW_.out (by kernel_rfl)) (fun _ _ _ h => h) (Or.inl ⟨by rfl, ?_⟩) hHeld ?_ ?_
                     rotate_left
                     ·rintro w' ⟨s0, s1⟩
                      go_simp
                      with_reducible rfl
                     rotate_left
                     ·simp only [Act.put, List.setIfInBounds_toArray, List.set_cons_zero, List.set_cons_succ, i64_w, i32_w]
                      rfl
                     refine one_ (i := 0) (N := some 74) #[true, true, true, true, true, false, true, true, true, true, true, false, true, false, false, false, false, false, false] rfl rfl (one_of HT_.out (by kernel_rfl)) (by decide) (fun K hK => ?_)
                     refine Kd.R_lit_step k39 _ 39 ?hg (N := 74) ?hd (xs := ([] : List (S39))) (inner := []) (ok := fun _ => True) (okp := fun _ => True) ?hr ?hp (fun _ hk => hk) trivial (Below.refl _ _) (Nat.le_refl _) (by simp) ?_; (case hd => rfl); (case hg => rfl); (case hr => first | (go_simp; done) | (go_simp; rfl)); (case hp => exact (Reps.none _ _))
                     intro v181 w101 ho102 hb hg_ hnew_
                     have HS0_ := (hb.cell (World.block_lt_of_cell? _ _ (hHeld.1))).trans (hHeld.1)
                     have HS1_ := (hb.cell (World.block_lt_of_cell? _ _ (hHeld.2))).trans (hHeld.2)
                     clear hg_ hnew_
                     (first | rw [← Ny180.out] at ho102 | (simp only [Int.reduceToNat] at ho102; rw [← Ny180.out] at ho102))
                     have n0_ := Aside0.mk (Kd.R_elder' pwc_ (Kd.R_base ho102) hb)
                     have n1_ := Aside0.mk (Kd.R_elder' (by (with_reducible repeat apply Kd.R_alloc); exact HL183_0.out) (Kd.R_base ho102) hb)
                     have n2_ := Aside0.mk (Kd.R_elder' (by (with_reducible repeat apply Kd.R_alloc); exact HL187_0.out) (Kd.R_base ho102) hb)
                     have n3_ := Aside0.mk (Kd.R_lower (Kd.R_new' (Kd.R_new' ho102 (Kd.R_lt (by (with_reducible repeat apply Kd.R_alloc); exact HL183_0.out))) (Kd.R_lt (by (with_reducible repeat apply Kd.R_alloc); exact HL187_0.out))) (keep_size (w := w) (g := g) (row := none) pwj_))
                     have n4_ := Aside0.mk (IsS46.below pwk_ hb)
                     have n5_ := Aside0.mk (Kd.C_below (by repeat (first | (with_reducible exact HR183_0.out) | (with_reducible refine Kd.C_alloc ?_ _) | (with_reducible refine Kd.C_drewN ?_ _) | (with_reducible refine Kd.C_drew ?_) | exact HR183_0.out)) hb)
                     have n6_ := Aside0.mk (Kd.C_below (by repeat (first | (with_reducible exact HR187_0.out) | (with_reducible refine Kd.C_alloc ?_ _) | (with_reducible refine Kd.C_drewN ?_ _) | (with_reducible refine Kd.C_drew ?_) | exact HR187_0.out)) hb)
                     have n7_ := Aside0.mk (KeepBut.trans pwj_ (KeepBut.of_below hb g none) (.inl rfl))
                     have n8_ := Aside0.mk (below_step pwm_ hb)
                     clear HO_7
                     clear HL183_0
                     clear HL187_0
                     clear HI0
                     clear HR183_0
                     clear HR187_0
                     clear HK
                     clear HB
                     have HO_7 := n0_
                     have HL183_0 := n1_
                     have HL187_0 := n2_
                     have HO182 := n3_
                     have HI0 := n4_
                     have HR183_0 := n5_
                     have HR187_0 := n6_
                     have HK := n7_
                     have HB := n8_
                     clear n0_ n1_ n2_ n3_ n4_ n5_ n6_ n7_ n8_
                     clear hb ho102
                     refine hK.out _ _ ⟨HS0_, HS1_⟩ (fun hHeld => ?_)
                     clear hK K
                     refine norm_ (a' := ?_) ?_ ?_
                     rotate_left
                     ·show Act.put _ (some 74) _ = _
                      simp only [Act.put, List.setIfInBounds_toArray, List.set_cons_zero, List.set_cons_succ, i64_w, i32_w]
                      rfl
                     refine one_ (i := 5) (N := some 79) #[true, true, true, true, true, true, true, true, true, true, true, false, true, false, false, false, false, false, false] rfl rfl (one_of HT_.out (by kernel_rfl)) (by decide) (fun K hK => ?_)
                     refine Kd.R_append_rows_step k39 w.heap.size (by rfl) (.tmp 74) (.tmp 78) 23 39 (.agg #[(.int .i64 0), (.int .i64 0)]) 16 rfl Try.underlying23 info39 rfl (by decide) (by omega) v181 y180 (rd_L3 x7_2 t129) _ _ _ (fun k_ => some k_ ≠ (.slice A183_0 (rd_L3 x7_2 t129).length c183_0 : Value).ownBlock ∧ some k_ ≠ (.slice A187_0 (rd_L3 x7_2 (ji85)).length c187_0 : Value).ownBlock) (fun _ => False) rfl rfl ?aO ?aR (fun _ _ h => h) (fun _ h => h.elim) ?aF (Below.refl _ _) ?aS ?aL ?_
                     (case aR => repeat (first | exact (by repeat (first | (with_reducible exact HR183_0.out) | (with_reducible refine Kd.C_alloc ?_ _) | (with_reducible refine Kd.C_drewN ?_ _) | (with_reducible refine Kd.C_drew ?_) | exact HR183_0.out)) | (with_reducible refine Kd.C_alloc ?_ _) | (with_reducible refine Kd.C_drewN ?_ _) | (with_reducible refine Kd.C_drew ?_)))
                     (case aF => exact (fun k_ hk => ⟨Kd.fresh' (Kd.R_lt (by (with_reducible repeat apply Kd.R_alloc); exact HL183_0.out)) k_ hk, Kd.fresh' (Kd.R_lt (by (with_reducible repeat apply Kd.R_alloc); exact HL187_0.out)) k_ hk⟩))
                     (case aO => exact (by (with_reducible repeat apply Kd.R_alloc); exact Kd.R_mono HO182.out (fun _ hk => ⟨hk.1.2, hk.2⟩)))
                     (case aS => exact (keep_size (w := w) (g := g) (row := none) pwj_))
                     (case aL => have := LMc84.out; omega)
                     intro v185 w103 ho hb hg hat
                     have HS0_ := cell_grown hg (hHeld.1) (by first | (rw [add_block]; exact ((HO_7.out.1 _ rfl).2)) | (show some (Addr.add _ _).block ≠ _; rw [add_block]; exact ((HO_7.out.1 _ rfl).2)) | exact ((HO_7.out.1 _ rfl).2))
                     have HS1_ := cell_grown hg (hHeld.2) (by first | (rw [add_block]; exact ((HO_7.out.1 _ rfl).2)) | (show some (Addr.add _ _).block ≠ _; rw [add_block]; exact ((HO_7.out.1 _ rfl).2)) | exact ((HO_7.out.1 _ rfl).2))
                     rw [← Ny184.out] at ho
                     have n0_ := Aside0.mk (Kd.R_after (ok := (fun _ => True)) pwc_ hg hat)
                     have n1_ := Aside0.mk (IsS46.grown pwk_ hg (IsS46.own_ne HI0.out HO182.out (by decide)))
                     have n2_ := Aside0.mk (Kd.R_after (ok := (fun k_ => some k_ ≠ (.slice (some ad183) x7_2.length co98 : Value).ownBlock)) (by (with_reducible repeat apply Kd.R_alloc); exact Kd.R_mono HL183_0.out (fun _ hk => ⟨hk.1.2, hk.2⟩)) hg hat)
                     have n3_ := Aside0.mk (Kd.R_after (ok := (fun k_ => some k_ ≠ (.slice (some ad183) x7_2.length co98 : Value).ownBlock)) (by (with_reducible repeat apply Kd.R_alloc); exact Kd.R_mono HL187_0.out (fun _ hk => ⟨hk.1.2, hk.2⟩)) hg hat)
                     have n4_ := Aside0.mk (below_weaken pwm_ HL.out hb)
                     have n5_ := Aside0.mk (KeepBut.trans pwj_ (KeepBut.of_grown hg g) (Kd.R_base2 HO182.out))
                     have n6_ := Aside0.mk (ho)
                     clear HO_7
                     clear HI0
                     clear HL183_0
                     clear HL187_0
                     clear HB
                     clear HK
                     clear HO182
                     have HO_7 := n0_
                     have HI0 := n1_
                     have HL183_0 := n2_
                     have HL187_0 := n3_
                     have HB := n4_
                     have HK := n5_
                     have HO186 := n6_
                     clear n0_ n1_ n2_ n3_ n4_ n5_ n6_
                     clear ho hb hg hat
                     refine hK.out _ _ ⟨HS0_, HS1_⟩ (fun hHeld => ?_)
                     clear hK K
                     refine norm_ (a' := ?_) ?_ ?_
                     rotate_left
                     ·show Act.put _ (some 79) _ = _
                      simp only [Act.put, List.setIfInBounds_toArray, List.set_cons_zero, List.set_cons_succ, i64_w, i32_w]
                      rfl
                     refine one_ (i := 11) (N := some 85) #[true, true, true, true, true, true, true, true, true, true, true, true, true, false, false, false, false, false, false] rfl rfl (one_of HT_.out (by kernel_rfl)) (by decide) (fun K hK => ?_)
                     refine Kd.R_append_rows_step k39 w.heap.size (by rfl) (.tmp 79) (.tmp 84) 23 39 (.agg #[(.int .i64 0), (.int .i64 0)]) 16 rfl Try.underlying23 info39 rfl (by decide) (by omega) v185 y184 (rd_L3 x7_2 (ji85)) _ _ _ (fun k_ => some k_ ≠ (.slice A183_0 (rd_L3 x7_2 t129).length c183_0 : Value).ownBlock ∧ some k_ ≠ (.slice A187_0 (rd_L3 x7_2 (ji85)).length c187_0 : Value).ownBlock) (fun _ => False) rfl rfl ?aO ?aR (fun _ _ h => h) (fun _ h => h.elim) ?aF (Below.refl _ _) ?aS ?aL ?_
                     (case aR => repeat (first | exact ((Kd.R_reads' (by (with_reducible repeat apply Kd.R_alloc); exact HL187_0.out)).2.2) | (with_reducible refine Kd.C_alloc ?_ _) | (with_reducible refine Kd.C_drewN ?_ _) | (with_reducible refine Kd.C_drew ?_)))
                     (case aF => exact (fun k_ hk => ⟨Kd.fresh' (Kd.R_lt (by (with_reducible repeat apply Kd.R_alloc); exact HL183_0.out)) k_ hk, Kd.fresh' (Kd.R_lt (by (with_reducible repeat apply Kd.R_alloc); exact HL187_0.out)) k_ hk⟩))
                     (case aO => exact (by (with_reducible repeat apply Kd.R_alloc); exact HO186.out))
                     (case aS => exact (keep_size (w := w) (g := g) (row := none) pwj_))
                     (case aL => have := LMc88.out; omega)
                     intro v189 w104 ho hb hg hat
                     have HS0_ := cell_grown hg (hHeld.1) (by first | (rw [add_block]; exact ((HO_7.out.1 _ rfl).2)) | (show some (Addr.add _ _).block ≠ _; rw [add_block]; exact ((HO_7.out.1 _ rfl).2)) | exact ((HO_7.out.1 _ rfl).2))
                     have HS1_ := cell_grown hg (hHeld.2) (by first | (rw [add_block]; exact ((HO_7.out.1 _ rfl).2)) | (show some (Addr.add _ _).block ≠ _; rw [add_block]; exact ((HO_7.out.1 _ rfl).2)) | exact ((HO_7.out.1 _ rfl).2))
                     rw [← Ny188.out] at ho
                     have n0_ := Aside0.mk (Kd.R_after (ok := (fun _ => True)) pwc_ hg hat)
                     have n1_ := Aside0.mk (IsS46.grown pwk_ hg (IsS46.own_ne HI0.out HO186.out (by decide)))
                     have n2_ := Aside0.mk (Kd.R_after (ok := (fun k_ => some k_ ≠ (.slice (some ad183) x7_2.length co98 : Value).ownBlock)) (by (with_reducible repeat apply Kd.R_alloc); exact HL183_0.out) hg hat)
                     have n3_ := Aside0.mk (Kd.R_after (ok := (fun k_ => some k_ ≠ (.slice (some ad183) x7_2.length co98 : Value).ownBlock)) (by (with_reducible repeat apply Kd.R_alloc); exact HL187_0.out) hg hat)
                     have n4_ := Aside0.mk (below_weaken pwm_ HL.out hb)
                     have n5_ := Aside0.mk (KeepBut.trans pwj_ (KeepBut.of_grown hg g) (Kd.R_base2 HO186.out))
                     have n6_ := Aside0.mk (ho)
                     clear HO_7
                     clear HI0
                     clear HL183_0
                     clear HL187_0
                     clear HB
                     clear HK
                     clear HO186
                     have HO_7 := n0_
                     have HI0 := n1_
                     have HL183_0 := n2_
                     have HL187_0 := n3_
                     have HB := n4_
                     have HK := n5_
                     have HO190 := n6_
                     clear n0_ n1_ n2_ n3_ n4_ n5_ n6_
                     clear ho hb hg hat
                     refine hK.out _ _ ⟨HS0_, HS1_⟩ (fun hHeld => ?_)
                     clear hK K
                     refine norm_ (a' := ?_) ?_ ?_
                     rotate_left
                     ·show Act.put _ (some 85) _ = _
                      simp only [Act.put, List.setIfInBounds_toArray, List.set_cons_zero, List.set_cons_succ, i64_w, i32_w]
                      rfl
                     refine one_ (i := 13) (N := some 87) #[true, true, true, true, true, true, true, true, true, true, true, true, true, true, false, false, false, false, false] rfl rfl (one_of HT_.out (by kernel_rfl)) (by decide) (fun K hK => ?_)
                     refine goes_ Try.func19 (by kernel_rfl) rfl #[.pointer (some ⟨g, 0, none⟩), .int .i64 3] (by rfl) rfl rfl pwi_ ?_
                     with_reducible refine (spec_l20Rd_pick.calls k2 g s0_0 t130 3 t191 t192 w0 _ ?side1 ?side2 A89.out).mono ?_
                     (case side1 => repeat (first | (with_reducible first | exact HI0.out | apply IsS46.alloc | apply IsS46.drewN | apply IsS46.drew | apply IsS46.set_1) | exact HI0.out))
                     (case side2 => repeat (first | (with_reducible first | exact HB.out | apply below_alloc | apply pw_below_drewN | apply below_drew1 | refine below_set ?_ (IsS46.ge HI0.out)) | exact HB.out))
                     rintro e w105 ⟨rfl, hi, hb, hk⟩
                     have HS0_ := keep_cell hk (hHeld.1) (by first | (rw [add_block]; exact Kd.own_blk (IsS46.own_ne HI0.out HO_7.out (by decide))) | (show (Addr.add _ _).block ≠ _; rw [add_block]; exact Kd.own_blk (IsS46.own_ne HI0.out HO_7.out (by decide))) | exact Kd.own_blk (IsS46.own_ne HI0.out HO_7.out (by decide)))
                     have HS1_ := keep_cell hk (hHeld.2) (by first | (rw [add_block]; exact Kd.own_blk (IsS46.own_ne HI0.out HO_7.out (by decide))) | (show (Addr.add _ _).block ≠ _; rw [add_block]; exact Kd.own_blk (IsS46.own_ne HI0.out HO_7.out (by decide))) | exact Kd.own_blk (IsS46.own_ne HI0.out HO_7.out (by decide)))
                     refine ⟨_, rfl, ?_⟩
                     have n0_ := Aside0.mk (Kd.R_mono (Kd.R_keep (IsS46.apart (show IsS46 w0 _ g s0_0 t130 from by repeat (first | (with_reducible first | exact HI0.out | apply IsS46.alloc | apply IsS46.drewN | apply IsS46.drew | apply IsS46.set_1) | exact HI0.out)) pwc_ (by decide)) hk (fun _ h => h.2)) (fun _ h => h.1))
                     have n1_ := Aside0.mk (Kd.R_mono (Kd.R_keep (IsS46.apart (show IsS46 w0 _ g s0_0 t130 from by repeat (first | (with_reducible first | exact HI0.out | apply IsS46.alloc | apply IsS46.drewN | apply IsS46.drew | apply IsS46.set_1) | exact HI0.out)) (by (with_reducible repeat apply Kd.R_alloc); exact HL183_0.out) (by decide)) hk (fun _ h => h.2)) (fun _ h => h.1))
                     have n2_ := Aside0.mk (Kd.R_mono (Kd.R_keep (IsS46.apart (show IsS46 w0 _ g s0_0 t130 from by repeat (first | (with_reducible first | exact HI0.out | apply IsS46.alloc | apply IsS46.drewN | apply IsS46.drew | apply IsS46.set_1) | exact HI0.out)) (by (with_reducible repeat apply Kd.R_alloc); exact HL187_0.out) (by decide)) hk (fun _ h => h.2)) (fun _ h => h.1))
                     have n3_ := Aside0.mk (Kd.R_mono (Kd.R_keep (IsS46.apart (show IsS46 w0 _ g s0_0 t130 from by repeat (first | (with_reducible first | exact HI0.out | apply IsS46.alloc | apply IsS46.drewN | apply IsS46.drew | apply IsS46.set_1) | exact HI0.out)) (by (with_reducible repeat apply Kd.R_alloc); exact HO190.out) (by decide)) hk (fun _ h => h.2)) (fun _ h => h.1))
                     have n4_ := Aside0.mk (KeepBut.trans pwj_ hk (.inl rfl))
                     have n5_ := Aside0.mk (hb)
                     have n6_ := Aside0.mk (hi)
                     clear HO_7
                     clear HL183_0
                     clear HL187_0
                     clear HO190
                     clear HK
                     clear HB
                     clear HI0
                     have HO_7 := n0_
                     have HL183_0 := n1_
                     have HL187_0 := n2_
                     have HO190 := n3_
                     have HK := n4_
                     have HB := n5_
                     have HI0 := n6_
                     clear n0_ n1_ n2_ n3_ n4_ n5_ n6_
                     (try clear hb)
                     (try clear hb2)
                     (try clear hk)
                     (try clear hi)
                     refine hK.out _ _ ⟨HS0_, HS1_⟩ (fun hHeld => ?_)
                     clear hK K
                     refine norm_ (a' := ?_) ?_ ?_
                     rotate_left
                     ·show Act.put _ (some 87) _ = _
                      simp only [Act.put, List.setIfInBounds_toArray, List.set_cons_zero, List.set_cons_succ, i64_w, i32_w]
                      rfl
                     refine pure_ (i := 14) (N := some 88) (v := ?_) (a' := ?_) #[true, true, true, true, true, true, true, true, true, true, true, true, true, true, true, false, false, false, false] rfl rfl (any_of HT_.out (by kernel_rfl)) (fun _ _ _ h => h) (Or.inl ⟨by rfl, ?_⟩) ?_ ?_
                     rotate_left
                     ·intro w'
                      go_simp
                      with_reducible rfl
                     rotate_left
                     ·simp only [Act.put, List.setIfInBounds_toArray, List.set_cons_zero, List.set_cons_succ, i64_w, i32_w]
                      rfl
                     refine pure_ (i := 15) (N := some 89) (v := ?_) (a' := ?_) #[true, true, true, true, true, true, true, true, true, true, true, true, true, true, true, true, false, false, false] rfl rfl (any_of HT_.out (by kernel_rfl)) (fun _ _ _ h => h) (Or.inl ⟨by rfl, ?_⟩) ?_ ?_
                     rotate_left
                     ·intro w'
                      go_simp
                      with_reducible rfl
                     rotate_left
                     ·simp only [Act.put, List.setIfInBounds_toArray, List.set_cons_zero, List.set_cons_succ, i64_w, i32_w]
                      rfl
                     refine last_ (i := 16) (N := some 90) #[true, true, true, true, true, true, true, true, true, true, true, true, true, true, true, true, true, false, false] rfl rfl (one_of HT_.out (by kernel_rfl)) (by decide) (fun K hK => ?_)
                     refine value_ (w1 := ?_) (v := ?_) (by rfl) rfl ?_ ?_
                     rotate_left 2
                     ·go_simp
                      constructor
                      ·rfl
                      ·rfl
                     refine hK.out _ _ ?_
                     clear hK K
                     refine norm_ (a' := ?_) ?_ ?_
                     rotate_left
                     ·show Act.put _ (some 90) _ = _
                      simp only [Act.put, List.setIfInBounds_toArray, List.set_cons_zero, List.set_cons_succ, i64_w, i32_w]
                      rfl
                     refine one_ (i := 17) (N := some 91) #[true, true, true, true, true, true, true, true, true, true, true, true, true, true, true, true, true, true, false] rfl rfl (one_of HT_.out (by kernel_rfl)) (by decide) (fun K hK => ?_)
                     refine Kd.R_append_step k39 w.heap.size (by rfl) (.tmp 85) (.tmp 90) 23 39 (.agg #[(.int .i64 0), (.int .i64 0)]) 16 rfl Try.underlying23 info39 rfl (by decide) (by omega) v189 y188 (⟨wrap64 (3 + t191), 0⟩ : S39) [.int .i64 (wrap64 (3 + t191)), .int .i64 0] (fun k_ => some k_ ≠ (.slice A183_0 (rd_L3 x7_2 t129).length c183_0 : Value).ownBlock ∧ some k_ ≠ (.slice A187_0 (rd_L3 x7_2 (ji85)).length c187_0 : Value).ownBlock) (fun _ => False) rfl rfl ?aP (fun _ hk => hk.elim) ?aF ?aO (Below.refl _ _) ?aS ?aL ?_
                     (case aP => exact k39_mkM _ _ _ (⟨wrap64 (3 + t191), 0⟩ : S39))
                     (case aF => exact (fun k_ hk => ⟨Kd.fresh' (Kd.R_lt (by (with_reducible repeat apply Kd.R_alloc); exact HL183_0.out)) k_ hk, Kd.fresh' (Kd.R_lt (by (with_reducible repeat apply Kd.R_alloc); exact HL187_0.out)) k_ hk⟩))
                     (case aO => exact (by (with_reducible repeat apply Kd.R_alloc); exact HO190.out))
                     (case aS => exact (keep_size (w := w) (g := g) (row := none) pwj_))
                     (case aL => have := LMc90.out; omega)
                     intro v194 w106 ho hb hg hat
                     have HS0_ := cell_grown hg (hHeld.1) (by first | (rw [add_block]; exact ((HO_7.out.1 _ rfl).2)) | (show some (Addr.add _ _).block ≠ _; rw [add_block]; exact ((HO_7.out.1 _ rfl).2)) | exact ((HO_7.out.1 _ rfl).2))
                     have HS1_ := cell_grown hg (hHeld.2) (by first | (rw [add_block]; exact ((HO_7.out.1 _ rfl).2)) | (show some (Addr.add _ _).block ≠ _; rw [add_block]; exact ((HO_7.out.1 _ rfl).2)) | exact ((HO_7.out.1 _ rfl).2))
                     rw [← Ny193.out] at ho
                     have n0_ := Aside0.mk (Kd.R_after (ok := (fun _ => True)) pwc_ hg hat)
                     have n1_ := Aside0.mk (IsS46.grown pwk_ hg (IsS46.own_ne HI0.out HO190.out (by decide)))
                     have n2_ := Aside0.mk (Kd.R_after (ok := (fun k_ => some k_ ≠ (.slice (some ad183) x7_2.length co98 : Value).ownBlock)) (by (with_reducible repeat apply Kd.R_alloc); exact HL183_0.out) hg hat)
                     have n3_ := Aside0.mk (Kd.R_after (ok := (fun k_ => some k_ ≠ (.slice (some ad183) x7_2.length co98 : Value).ownBlock)) (by (with_reducible repeat apply Kd.R_alloc); exact HL187_0.out) hg hat)
                     have n4_ := Aside0.mk (below_weaken pwm_ HL.out hb)
                     have n5_ := Aside0.mk (KeepBut.trans pwj_ (KeepBut.of_grown hg g) (Kd.R_base2 HO190.out))
                     have n6_ := Aside0.mk (ho)
                     clear HO_7
                     clear HI0
                     clear HL183_0
                     clear HL187_0
                     clear HB
                     clear HK
                     clear HO190
                     have HO_7 := n0_
                     have HI0 := n1_
                     have HL183_0 := n2_
                     have HL187_0 := n3_
                     have HB := n4_
                     have HK := n5_
                     have HO195 := n6_
                     clear n0_ n1_ n2_ n3_ n4_ n5_ n6_
                     clear ho hb hg hat
                     refine hK.out _ _ ⟨HS0_, HS1_⟩ (fun hHeld => ?_)
                     clear hK K
                     refine norm_ (a' := ?_) ?_ ?_
                     rotate_left
                     ·show Act.put _ (some 91) _ = _
                      simp only [Act.put, List.setIfInBounds_toArray, List.set_cons_zero, List.set_cons_succ, i64_w, i32_w]
                      rfl
                     refine pure_ (i := 18) (N := some 11) (v := ?_) (a' := ?_) #[true, true, true, true, true, true, true, true, true, true, true, true, true, true, true, true, true, true, true] rfl rfl (any_of HT_.out (by kernel_rfl)) (fun _ _ _ h => h) (Or.inl ⟨by rfl, ?_⟩) ?_ ?_
                     rotate_left
                     ·intro w'
                      go_simp
                      with_reducible rfl
                     rotate_left
                     ·simp only [Act.put, List.setIfInBounds_toArray, List.set_cons_zero, List.set_cons_succ, i64_w, i32_w]
                      rfl
                     refine done_ (done_of HT_.out (by kernel_rfl)) ?_
                     try go_wp2_with (first | ((with_reducible refine gate_dst (N := 92) rfl ?_); refine Kd.R_lit (Kd.slice 39 k39) _ 23 ?hg (N := 92) ?hd (xs := ([] : List (List (S39)))) (inner := []) (ok := fun _ => True) (okp := fun _ => True) ?hr ?hp (fun _ hk => hk) trivial (Below.refl _ _) (Nat.le_refl _) (by simp) ?_; (case hd => rfl); (case hg => rfl); (case hr => first | (go_simp; done) | (go_simp; rfl)); (case hp => exact (Reps.none _ _)); intro v197 w107 ho108 hb hg_ hnew_; clear hg_ hnew_; (first | rw [← Ny196.out] at ho108 | (simp only [Int.reduceToNat] at ho108; rw [← Ny196.out] at ho108)); have n0_ := Aside0.mk (Kd.R_elder' pwc_ (Kd.R_base ho108) hb); have n1_ := Aside0.mk (Kd.R_below (by (with_reducible repeat apply Kd.R_alloc); exact HL183_0.out) hb); have n2_ := Aside0.mk (Kd.R_below (by (with_reducible repeat apply Kd.R_alloc); exact HL187_0.out) hb); have n3_ := Aside0.mk (Kd.R_below (by (with_reducible repeat apply Kd.R_alloc); exact HO195.out) hb); have n4_ := Aside0.mk (Kd.R_lower (Kd.R_new' (Kd.R_new' (Kd.R_new' (Kd.R_new' ho108 (Kd.R_lt pwc_)) (Kd.R_lt (by (with_reducible repeat apply Kd.R_alloc); exact HL183_0.out))) (Kd.R_lt (by (with_reducible repeat apply Kd.R_alloc); exact HL187_0.out))) (Kd.R_lt (by (with_reducible repeat apply Kd.R_alloc); exact HO195.out))) (keep_size (w := w) (g := g) (row := none) pwj_)); have n5_ := Aside0.mk (IsS46.below pwk_ hb); have n6_ := Aside0.mk (KeepBut.trans pwj_ (KeepBut.of_below hb g none) (.inl rfl)); have n7_ := Aside0.mk (below_step pwm_ hb); clear HO_7; clear HL183_0; clear HL187_0; clear HO195; clear HI0; clear HK; clear HB; have HO_7 := n0_; have HL183_0 := n1_; have HL187_0 := n2_; have HO195 := n3_; have HO198 := n4_; have HI0 := n5_; have HK := n6_; have HB := n7_; clear n0_ n1_ n2_ n3_ n4_ n5_ n6_ n7_; clear hb ho108; have q109 : (t129 : Int) ≤ ((x7_2.length : Int) : Int) := of_decide_eq_true pwb_; obtain ⟨i0109, hi0109, _, hsz109, _⟩ := info_parts info23; have hroom109 : x7_2.length ≤ co98 := (Kd.R_reads' HO_7.out).2.1; have hC109 : Kd.C (Kd.slice 39 k39) _ (some ad183) x7_2.length x7_2 := (Kd.R_reads' HO_7.out).2.2; have hcut109 := cut_to (P := Try.prog) 54 23 .i64 Try.underlying54 hi0109 (some ad183) x7_2.length co98 t129 (of_decide_eq_true pwb_) q109 hroom109; have hr109 := Kd.C_take (m := (t129 : Int).toNat) hC109 (by omega); have hy109 : y199.length = (t129 : Int).toNat := (by rw [Ny199.out, List.length_take]; omega); rw [← Ny199.out] at hr109; rw [← hy109] at hcut109; have HR202 := Aside0.mk hr109; have HC202 := Aside0.mk (show y199.length ≤ co98 from by omega); clear hr109 hC109 hroom109 hi0109 hsz109; have KY109 := Aside0.mk hy109; clear hy109; have KL109 := Aside0.mk (show (t129 : Int).toNat ≤ x7_2.length from by omega); replace q109 := eq_true q109) | ((with_reducible refine gate_builtin (b := .append) (xs := #[.tmp 92, .tmp 95]) rfl ?_); at_builtin; refine Kd.R_append_rows (Kd.slice 39 k39) w.heap.size rfl (.tmp 92) (.tmp 95) 54 23 (.slice none 0 0) 24 rfl Try.underlying54 info23 rfl (by decide) (by omega) v197 y196 y199 _ _ _ (fun k_ => some k_ ≠ (.slice (some ad183) x7_2.length co98 : Value).ownBlock ∧ some k_ ≠ (v194 : Value).ownBlock) (fun k_ => ((fun k_ => some k_ ≠ (.slice (some ad183) x7_2.length co98 : Value).ownBlock ∧ some k_ ≠ (v194 : Value).ownBlock)) k_ ∧ some k_ ≠ (v197 : Value).ownBlock) rfl rfl ?aO ?aR (fun _ _ h => h) (fun _ hk => hk) ?aF (Below.refl _ _) ?aS ?aL ?_; (case aR => rw [Ny199.out]; exact Kd.C_take (m := (t129 : Int).toNat) (Kd.R_frozen (okp := (fun k_ => ((fun k_ => some k_ ≠ (.slice (some ad183) x7_2.length co98 : Value).ownBlock ∧ some k_ ≠ (v194 : Value).ownBlock)) k_ ∧ some k_ ≠ (v197 : Value).ownBlock)) (HO_7.out) (fun k_ hk => ⟨⟨hk.2, hk.1.1.2⟩, hk.1.2⟩)).2.2 KL109.out); (case aF => exact (fun k_ hk => ⟨Kd.fresh' (Kd.R_lt pwc_) k_ hk, Kd.fresh' (Kd.R_lt (by (with_reducible repeat apply Kd.R_alloc); exact HO195.out)) k_ hk⟩)); (case aO => exact (by (with_reducible repeat apply Kd.R_alloc); exact Kd.R_mono HO198.out (fun _ hk => ⟨hk.1.1.1.2, hk.2⟩))); (case aS => exact (keep_size (w := w) (g := g) (row := none) pwj_)); (case aL => have := LMc93.out; omega); intro v204 w110 ho hb hg hat; rw [← Ny203.out] at ho; have n0_ := Aside0.mk (Kd.R_after (ok := (fun k_ => some k_ ≠ (v194 : Value).ownBlock)) (by (with_reducible repeat apply Kd.R_alloc); exact Kd.R_mono HO_7.out (fun _ hk => ⟨hk.1.2, hk.2⟩)) hg hat); have n1_ := Aside0.mk (IsS46.grown pwk_ hg (IsS46.own_ne HI0.out HO198.out (by decide))); have n2_ := Aside0.mk (Kd.R_over' (by (with_reducible repeat apply Kd.R_alloc); exact HO195.out) (Kd.R_typed (by (with_reducible repeat apply Kd.R_alloc); exact HO198.out)) (by decide) hg); have n3_ := Aside0.mk (below_weaken pwm_ HL.out hb); have n4_ := Aside0.mk (KeepBut.trans pwj_ (KeepBut.of_grown hg g) (Kd.R_base2 HO198.out)); have n5_ := Aside0.mk ((show Kd.C (Kd.slice 39 k39) w110 (some ad183) y199.length y199 from by rw [Ny199.out]; exact Kd.C_take (m := (t129 : Int).toNat) ((Kd.R_reads' (Kd.R_after (ok := (fun k_ => some k_ ≠ (v194 : Value).ownBlock)) (by (with_reducible repeat apply Kd.R_alloc); exact Kd.R_mono HO_7.out (fun _ hk => ⟨hk.1.2, hk.2⟩)) hg hat)).2.2) KL109.out)); have n6_ := Aside0.mk (ho); clear HO_7; clear HI0; clear HO195; clear HB; clear HK; clear HR202; clear HO198; have HO_7 := n0_; have HI0 := n1_; have HO195 := n2_; have HB := n3_; have HK := n4_; have HR202 := n5_; have HO205 := n6_; clear n0_ n1_ n2_ n3_ n4_ n5_ n6_; clear ho hb hg hat; obtain ⟨Ao112, co112, eo112⟩ := Kd.R_slice HO195.out; subst eo112) | ((with_reducible refine gate_builtin (b := .append) (xs := #[.tmp 97, .tmp 99]) rfl ?_); at_builtin; refine Kd.R_append (Kd.slice 39 k39) w.heap.size rfl (.tmp 97) (.tmp 99) 54 23 (.slice none 0 0) 24 rfl Try.underlying54 info23 rfl (by decide) (by omega) v204 y203 y193 [.slice Ao112 y193.length co112] (fun k_ => some k_ ≠ (.slice (some ad183) x7_2.length co98 : Value).ownBlock) (fun k_ => ((fun k_ => some k_ ≠ (.slice (some ad183) x7_2.length co98 : Value).ownBlock)) k_ ∧ some k_ ≠ (v204 : Value).ownBlock) rfl rfl ?aP (fun _ hk => hk) ?aF ?aO (Below.refl _ _) ?aS ?aL ?_; (case aP => exact Kd.M_row (Kd.R_mono (Kd.R_apart' (Kd.R_apart' (HO195.out) (Kd.R_typed HO_7.out) (by decide)) (Kd.R_typed HO205.out) (by decide)) (fun k_ hk => ⟨hk.1.2, hk.2⟩))); (case aF => exact (fun k_ hk => Kd.fresh' (Kd.R_lt pwc_) k_ hk)); (case aO => exact (by (with_reducible repeat apply Kd.R_alloc); exact Kd.R_mono HO205.out (fun _ hk => hk.1))); (case aS => exact (keep_size (w := w) (g := g) (row := none) pwj_)); (case aL => have := LMc94.out; omega); intro v207 w111 ho hb hg hat; rw [← Ny206.out] at ho; have n0_ := Aside0.mk (Kd.R_after (ok := (fun k_ => some k_ ≠ (.slice Ao112 y193.length co112 : Value).ownBlock)) pwc_ hg hat); have n1_ := Aside0.mk (IsS46.grown pwk_ hg (IsS46.own_ne HI0.out HO205.out (by decide))); have n2_ := Aside0.mk (below_weaken pwm_ HL.out hb); have n3_ := Aside0.mk (KeepBut.trans pwj_ (KeepBut.of_grown hg g) (Kd.R_base2 HO205.out)); have n4_ := Aside0.mk ((show Kd.C (Kd.slice 39 k39) w111 (some ad183) y199.length y199 from by rw [Ny199.out]; exact Kd.C_take (m := (t129 : Int).toNat) ((Kd.R_reads' (Kd.R_after (ok := (fun k_ => some k_ ≠ (.slice Ao112 y193.length co112 : Value).ownBlock)) pwc_ hg hat)).2.2) KL109.out)); have n5_ := Aside0.mk (ho); clear HO_7; clear HI0; clear HB; clear HK; clear HR202; clear HO205; clear HO195; have HO_7 := n0_; have HI0 := n1_; have HB := n2_; have HK := n3_; have HR202 := n4_; have HO208 := n5_; clear n0_ n1_ n2_ n3_ n4_ n5_; clear ho hb hg hat; have q113 : ((wrap64 (t129 + 2)) : Int) ≤ ((x7_2.length : Int) : Int) := of_decide_eq_true pwb_; obtain ⟨i0113, hi0113, _, hsz113, _⟩ := info_parts info23; have hroom113 : x7_2.length ≤ co98 := (Kd.R_reads' HO_7.out).2.1; have hC113 : Kd.C (Kd.slice 39 k39) _ (some ad183) x7_2.length x7_2 := (Kd.R_reads' HO_7.out).2.2; have q0113 : (0 : Int) ≤ ((wrap64 (t129 + 2)) : Int) := of_decide_eq_true pwb_; have hcut113 := cut_from (P := Try.prog) 54 23 .i64 Try.underlying54 hi0113 1 hsz113 (some ad183) x7_2.length co98 (wrap64 (t129 + 2)) q0113 q113; have hr113 := Kd.C_drop (m := ((wrap64 (t129 + 2)) : Int).toNat) (c := co98) hC113 (by omega) hroom113; obtain ⟨A113, hA113⟩ : ∃ A1, A1 = (if co98 = ((wrap64 (t129 + 2)) : Int).toNat then (some ad183) else ((some ad183) : Option Addr).map (·.add (((wrap64 (t129 + 2)) : Int).toNat * 1))) := ⟨_, rfl⟩; obtain ⟨c113, hc113⟩ : ∃ c1, c1 = co98 - ((wrap64 (t129 + 2)) : Int).toNat := ⟨_, rfl⟩; have hy113 : y209.length = x7_2.length - ((wrap64 (t129 + 2)) : Int).toNat := (by rw [Ny209.out, List.length_drop] <;> omega); rw [show (x7_2).drop ((wrap64 (t129 + 2)) : Int).toNat = y209 from Ny209.out.symm] at hr113; replace hr113 : Kd.C (Kd.slice 39 k39) _ A113 y209.length y209 := (by rw [hA113]; exact hr113); rw [← hy113, ← hA113, ← hc113] at hcut113; have HR212 := Aside0.mk hr113; have HC212 := Aside0.mk (show y209.length ≤ c113 from by rw [hy113, hc113]; exact Nat.sub_le_sub_right hroom113 _); clear hr113 hC113 hroom113 hi0113 hsz113 hc113; have KY113 := Aside0.mk hy113; have KA113 := Aside0.mk hA113; clear hy113 hA113; have KL113 := Aside0.mk (show ((wrap64 (t129 + 2)) : Int).toNat ≤ x7_2.length from by omega); replace q113 := eq_true q113) | ((with_reducible refine gate_builtin (b := .append) (xs := #[.tmp 101, .tmp 105]) rfl ?_); at_builtin; refine Kd.R_append_rows (Kd.slice 39 k39) w.heap.size rfl (.tmp 101) (.tmp 105) 54 23 (.slice none 0 0) 24 rfl Try.underlying54 info23 rfl (by decide) (by omega) v207 y206 y209 _ _ _ (fun k_ => some k_ ≠ (.slice (some ad183) x7_2.length co98 : Value).ownBlock) (fun k_ => ((fun k_ => some k_ ≠ (.slice (some ad183) x7_2.length co98 : Value).ownBlock)) k_ ∧ some k_ ≠ (v207 : Value).ownBlock) rfl rfl ?aO ?aR (fun _ _ h => h) (fun _ hk => hk) ?aF (Below.refl _ _) ?aS ?aL ?_; (case aR => rw [Ny209.out, KA113.out]; exact Kd.C_drop (m := ((wrap64 (t129 + 2)) : Int).toNat) (c := co98) (Kd.R_frozen (okp := (fun k_ => ((fun k_ => some k_ ≠ (.slice (some ad183) x7_2.length co98 : Value).ownBlock)) k_ ∧ some k_ ≠ (v207 : Value).ownBlock)) (HO_7.out) (fun k_ hk => ⟨hk.2, hk.1.2⟩)).2.2 KL113.out (Kd.R_frozen (okp := (fun k_ => ((fun k_ => some k_ ≠ (.slice (some ad183) x7_2.length co98 : Value).ownBlock)) k_ ∧ some k_ ≠ (v207 : Value).ownBlock)) (HO_7.out) (fun k_ hk => ⟨hk.2, hk.1.2⟩)).2.1); (case aF => exact (fun k_ hk => Kd.fresh' (Kd.R_lt pwc_) k_ hk)); (case aO => exact (by (with_reducible repeat apply Kd.R_alloc); exact HO208.out)); (case aS => exact (keep_size (w := w) (g := g) (row := none) pwj_)); (case aL => have := LMc97.out; omega); intro v214 w114 ho hb hg hat; rw [← Ny213.out] at ho; have n0_ := Aside0.mk (Kd.R_after (ok := (fun _ => True)) (by (with_reducible repeat apply Kd.R_alloc); exact Kd.R_mono HO_7.out (fun _ hk => ⟨trivial, hk.2⟩)) hg hat); have n1_ := Aside0.mk (IsS46.grown pwk_ hg (IsS46.own_ne HI0.out HO208.out (by decide))); have n2_ := Aside0.mk (below_weaken pwm_ HL.out hb); have n3_ := Aside0.mk (KeepBut.trans pwj_ (KeepBut.of_grown hg g) (Kd.R_base2 HO208.out)); have n4_ := Aside0.mk ((show Kd.C (Kd.slice 39 k39) w114 (some ad183) y199.length y199 from by rw [Ny199.out]; exact Kd.C_take (m := (t129 : Int).toNat) ((Kd.R_reads' (Kd.R_after (ok := (fun _ => True)) (by (with_reducible repeat apply Kd.R_alloc); exact Kd.R_mono HO_7.out (fun _ hk => ⟨trivial, hk.2⟩)) hg hat)).2.2) KL109.out)); have n5_ := Aside0.mk ((show Kd.C (Kd.slice 39 k39) w114 A113 y209.length y209 from by rw [Ny209.out, KA113.out]; exact Kd.C_drop (m := ((wrap64 (t129 + 2)) : Int).toNat) (c := co98) ((Kd.R_reads' (Kd.R_after (ok := (fun _ => True)) (by (with_reducible repeat apply Kd.R_alloc); exact Kd.R_mono HO_7.out (fun _ hk => ⟨trivial, hk.2⟩)) hg hat)).2.2) KL113.out ((Kd.R_reads' (Kd.R_after (ok := (fun _ => True)) (by (with_reducible repeat apply Kd.R_alloc); exact Kd.R_mono HO_7.out (fun _ hk => ⟨trivial, hk.2⟩)) hg hat)).2.1))); have n6_ := Aside0.mk (ho); clear HO_7; clear HI0; clear HB; clear HK; clear HR202; clear HR212; clear HO208; have HO_7 := n0_; have HI0 := n1_; have HB := n2_; have HK := n3_; have HR202 := n4_; have HR212 := n5_; have HO215 := n6_; clear n0_ n1_ n2_ n3_ n4_ n5_ n6_; clear ho hb hg hat))
                     go_roundg k2
                     case measure => have := HK1.out; have := HK2.out; omega
                     case rel => exact ⟨(y213), (x9_2), (t192), pwa_, H', ⟨by have := HK1.out; have := HK2.out; omega⟩, ⟨by (with_reducible repeat apply Kd.R_alloc); exact Kd.R_mono HO215.out (fun _ hk => trivial)⟩, ⟨pwk_⟩, ⟨pwj_⟩, ⟨pwm_⟩⟩
                    ·rw [if_neg c97] at H
                     exact absurd H (by simp)
                   ·rw [if_neg c96] at H
                    exact absurd H (by simp)
                  ·rw [if_neg c95] at H
                   exact absurd H (by simp)
                 ·rw [if_neg c94] at H
                  exact absurd H (by simp)
                ·rw [if_neg c93] at H
                 exact absurd H (by simp)
               ·rw [if_neg c92] at H
                exact absurd H (by simp)
              ·rw [if_neg c90] at H
               exact absurd H (by simp)
             ·rw [if_neg c88] at H
              exact absurd H (by simp)
            ·rw [if_neg c87] at H
             exact absurd H (by simp)
           ·rw [if_neg c86] at H
            exact absurd H (by simp)
          ·rw [if_neg c84] at H
           exact absurd H (by simp)
         ·rw [if_neg c83] at H
          exact absurd H (by simp)
        ·rw [if_neg c82] at H
         exact absurd H (by simp)
      ·rw [if_neg c29] at H
       have c29b0 : decide (1 < (x7_2.length : Int)) = false := decide_eq_false c29
       have c29b1 : decide (1 < x7_2.length) = false := decide_eq_false (by omega)
       clear c29
       by_cases c115 : 0 < (x7_2.length : Int)
       ·rw [if_pos c115] at H
        have c115b0 : decide (0 < (x7_2.length : Int)) = true := decide_eq_true c115
        have c115b1 : decide (0 < x7_2.length) = true := decide_eq_true (by omega)
        clear c115
        replace H := Option.bind_eq_some_iff.mp H
        obtain ⟨⟨t217, t218⟩, A1160, H⟩ := H
        replace H : (if t217 = 0 then (if (rd_L3 x7_2 0).length < 8796093022208 then (spec_l20Term.j2 k2 a2 ((rd_L3 x7_2 0) ++ [(⟨2, 0⟩ : S39)]) s0_0 t218) else (none)) else (spec_l20Term.j2 k2 a2 (rd_L3 x7_2 0) s0_0 t218)) = some (r1, r2) := H
        have A116 := Aside0.mk A1160
        clear A1160
        have HC117 := Aside0.mk H
        clear H
        obtain ⟨Ao118, co118, eo118⟩ := Kd.R_slice HO_7.out
        subst eo118
        have p216 : 0 ≤ (0 : Int) := (by omega)
        have q216 : 0 < (x7_2.length : Int) := of_decide_eq_true pwb_
        obtain ⟨ad216, A216_0, c216_0, e216, hx216_0, hl216_0, hi216_0⟩ := at_L3 (Kd.R_reads' HO_7.out).2.2 0 p216 q216
        cases e216
        obtain ⟨ce216, hce216, hMe216, hcc216⟩ := Kd.R_get HO_7.out [] 0 p216 (by first | exact q216 | exact of_decide_eq_true pwb_ | (have e_ := (Kd.R_reads' HO_7.out).1; omega))
        obtain ⟨ve216_0, rfl, ge216_0⟩ := hMe216
        have hv216_0 := hcc216 0 _ rfl
        rw [Nat.add_zero, show ((Kd.slice 39 k39)).sz = 1 from rfl, Nat.mul_one] at hv216_0
        replace hv216_0 := Option.some.inj (hv216_0.symm.trans hx216_0)
        rw [hv216_0] at ge216_0
        have HL216_0 := Aside0.mk (show Kd.R k39 39 _ _ _ _ (rd_L3 x7_2 0) from ge216_0)
        clear hv216_0 ge216_0
        clear hcc216 hce216
        have qi216 : (0 < x7_2.length) = True := eq_true (by omega)
        (try rw [show ((0 : Int)).toNat = 0 from rfl] at hx216_0)
        (try rw [Addr.add_zero'] at hx216_0)
        have HR216_0 := Aside0.mk hi216_0
        have HC216_0 := Aside0.mk hl216_0
        clear hi216_0 hl216_0
        replace p216 := eq_true p216
        replace q216 := eq_true q216
        replace HL216_0 := Aside0.mk (show Kd.R k39 39 _ _ (fun _ => True) _ (rd_L3 x7_2 0) from Kd.R_mono HL216_0.out (fun _ hk => trivial))
        go_upto_if 112 with (first | ((with_reducible refine gate_callee (f := 19) rfl ?_); refine goesL_ (some 111) rfl rfl Try.func19 (by kernel_rfl) rfl #[.pointer (some ⟨g, 0, none⟩), .int .i64 5] rfl pwi_ ?_; (with_reducible refine (spec_l20Rd_pick.calls k2 g s0_0 x1001_2 5 t217 t218 w0 _ ?side1 ?side2 A116.out).mono ?_); (case side1 => repeat (first | (with_reducible first | exact HI0.out | apply IsS46.alloc | apply IsS46.drewN | apply IsS46.drew | apply IsS46.set_1) | exact HI0.out)); (case side2 => repeat (first | (with_reducible first | exact HB.out | apply below_alloc | apply pw_below_drewN | apply below_drew1 | refine below_set ?_ (IsS46.ge HI0.out)) | exact HB.out)); rintro e w119 ⟨rfl, hi, hb, hk⟩; refine ⟨_, rfl, ?_⟩; have n0_ := Aside0.mk (Kd.R_mono (Kd.R_keep (IsS46.apart (show IsS46 w0 _ g s0_0 x1001_2 from by repeat (first | (with_reducible first | exact HI0.out | apply IsS46.alloc | apply IsS46.drewN | apply IsS46.drew | apply IsS46.set_1) | exact HI0.out)) (by (with_reducible repeat apply Kd.R_alloc); exact HL216_0.out) (by decide)) hk (fun _ h => h.2)) (fun _ h => h.1)); have n1_ := Aside0.mk (KeepBut.trans pwj_ hk (.inl rfl)); have n2_ := Aside0.mk (hb); have n3_ := Aside0.mk (hi); clear HL216_0; clear HK; clear HB; clear HI0; have HL216_0 := n0_; have HK := n1_; have HB := n2_; have HI0 := n3_; clear n0_ n1_ n2_ n3_; (try clear hb); (try clear hb2); (try clear hk); (try clear hi)))
        (try simp only [Act.put, List.setIfInBounds_toArray, List.set_cons_zero, List.set_cons_succ])
        go_cut [13] (fun v13 wc => ∃ (kq : Nat) (x13_116 : List (S39)), Aside0 (spec_l20Term.j2 kq a2 x13_116 s0_0 t218 = some (r1, r2)) ∧ Aside0 (kq ≤ k2) ∧ Aside0 (Kd.R k39 39 wc w.heap.size (fun _ => True) v13 x13_116) ∧ Aside0 (IsS46 w0 wc g s0_0 t218) ∧ Aside0 (KeepBut w wc g none) ∧ Aside0 (Below w0.heap.size w0 wc))
        case first =>
         have H := HC117.out
         clear HC117
         by_cases c120 : t217 = 0
         ·rw [if_pos c120] at H
          have c120b0 : (t217 == 0) = true := beq_iff_eq.mpr c120
          have c120b1 : (t217 != 0) = false := bne_eq_false_iff_eq.mpr c120
          clear c120
          (first | rw [c120b0] | (simp only [i64_w, i32_w]; rw [c120b0]) | skip)
          by_cases c121 : (rd_L3 x7_2 0).length < 8796093022208
          ·rw [if_pos c121] at H
           have LMc121 := Aside0.mk c121
           clear c121
           obtain ⟨y219, hy219⟩ : ∃ y_ : List (S39), y_ = ((rd_L3 x7_2 0) ++ [(⟨2, 0⟩ : S39)]) := ⟨_, rfl⟩
           replace H : (spec_l20Term.j2 k2 a2 y219 s0_0 t218) = some (r1, r2) := by first | (rw [hy219]; with_reducible exact H) | (have H2_ := (Option.bind_some _ _).symm.trans H; rw [hy219]; with_reducible exact H2_) | (have H2_ := (Option.bind_some _ _).symm.trans H; with_reducible exact H2_) | with_reducible exact H | (rw [hy219]; exact H) | exact H
           have Ny219 := Aside0.mk hy219
           clear hy219
           have H' := Aside0.mk H
           clear H
           go_wp2_with (first | ((with_reducible refine gate_builtin (b := .append) (xs := #[.tmp 113, .tmp 115]) rfl ?_); at_builtin; refine Kd.R_append k39 w.heap.size rfl (.tmp 113) (.tmp 115) 23 39 (.agg #[(.int .i64 0), (.int .i64 0)]) 16 rfl Try.underlying23 info39 rfl (by decide) (by omega) (.slice A216_0 (rd_L3 x7_2 0).length c216_0) (rd_L3 x7_2 0) (⟨2, 0⟩ : S39) [.int .i64 2, .int .i64 0] (fun _ => True) (fun _ => False) rfl rfl ?aP (fun _ hk => hk.elim) ?aF ?aO (Below.refl _ _) ?aS ?aL ?_; (case aP => exact k39_mkM _ _ _ (⟨2, 0⟩ : S39)); (case aF => exact (fun _ _ => trivial)); (case aO => exact (by (with_reducible repeat apply Kd.R_alloc); exact HL216_0.out)); (case aS => exact (keep_size (w := w) (g := g) (row := none) pwj_)); (case aL => have := LMc121.out; omega); intro v220 w122 ho hb hg hat; rw [← Ny219.out] at ho; have n0_ := Aside0.mk (IsS46.grown pwk_ hg (IsS46.own_ne HI0.out HL216_0.out (by decide))); have n1_ := Aside0.mk (below_weaken pwm_ HL.out hb); have n2_ := Aside0.mk (KeepBut.trans pwj_ (KeepBut.of_grown hg g) (Kd.R_base2 HL216_0.out)); have n3_ := Aside0.mk (ho); clear HI0; clear HB; clear HK; clear HL216_0; have HI0 := n0_; have HB := n1_; have HK := n2_; have HO221 := n3_; clear n0_ n1_ n2_ n3_; clear ho hb hg hat))
           go_meet
           case rel => exact ⟨_, (y219), H', ⟨by have := HK1.out; have := HK2.out; first | omega | exact Nat.le_refl _⟩, ⟨by (with_reducible repeat apply Kd.R_alloc); exact HO221.out⟩, ⟨pwk_⟩, ⟨pwj_⟩, ⟨pwm_⟩⟩
          ·rw [if_neg c121] at H
           exact absurd H (by simp)
         ·rw [if_neg c120] at H
          have c120b0 : (t217 == 0) = false := beq_eq_false_iff_ne.mpr c120
          have c120b1 : (t217 != 0) = true := bne_iff_ne.mpr c120
          (first | rw [c120b0] | (simp only [i64_w, i32_w]; rw [c120b0]) | skip)
          have H' := Aside0.mk H
          clear H
          go_wp2
          go_meet
          case rel => exact ⟨_, (rd_L3 x7_2 0), H', ⟨by have := HK1.out; have := HK2.out; first | omega | exact Nat.le_refl _⟩, ⟨by (with_reducible repeat apply Kd.R_alloc); exact HL216_0.out⟩, ⟨pwk_⟩, ⟨pwj_⟩, ⟨pwm_⟩⟩
        case rest =>
         clear HC117
         try clear c1
         try clear p1
         try clear q1
         try clear hx1
         try clear c2
         try clear p2
         try clear q2
         try clear hx2
         try clear qi2
         try clear c3
         try clear c4
         try clear p6
         try clear c8
         try clear c9
         try clear q10
         try clear c11
         try clear q11
         try clear c12
         try clear c18
         try clear p18
         try clear q18
         try clear hx18
         try clear c19
         try clear c21
         try clear p21
         try clear q21
         try clear hx21
         try clear qi21
         try clear c29
         try clear c29b0
         try clear c29b1
         try clear c31
         try clear c31b0
         try clear c48
         try clear c49
         try clear p64
         try clear c82
         try clear c82b0
         try clear c83
         try clear c83b0
         try clear c84
         try clear c86
         try clear c86b0
         try clear c87
         try clear c87b0
         try clear c88
         try clear c90
         try clear c91
         try clear c91b0
         try clear c92
         try clear c92b0
         try clear c92b1
         try clear c93
         try clear c94
         try clear c95
         try clear c95b0
         try clear c95b1
         try clear c96
         try clear c96b0
         try clear c96b1
         try clear c97
         try clear q109
         try clear c113
         try clear q113
         try clear c115
         try clear c115b0
         try clear c115b1
         try clear c120
         try clear c120b0
         try clear c120b1
         try clear c121
         try clear hx183_0
         try clear hx187_0
         try clear hx216_0
         try clear p183
         try clear p187
         try clear p216
         try clear q0113
         try clear q109
         try clear q113
         try clear q183
         try clear q187
         try clear q216
         obtain ⟨kq, x13_116, HA, HJ116, HO_13, HI0, HK, HB⟩ := hcut
         cases kq with
         | zero => exact absurd HA.out (by simp [spec_l20Term.j2])
         | succ kj116 =>
          have H := HA.out
          clear HA
          simp only [spec_l20Term.j2] at H
          replace H := Option.bind_eq_some_iff.mp H
          obtain ⟨⟨t222, t223⟩, A1230, H⟩ := H
          replace H : (if t222 = true then ((spec_l20Rd_pick.f kj116 s0_0 t223 3).bind fun bt224 => (if bt224.1 = 0 then (some ((([] : List (S39))), bt224.2)) else (if bt224.1 = 1 then (if x13_116.length < 8796093022208 then (some ((x13_116 ++ [(⟨5, 0⟩ : S39)]), bt224.2)) else (none)) else ((spec_l20Rd_pick.f kj116 s0_0 bt224.2 2).bind fun bt232 => (if 0 < (x13_116.length : Int) then (some ((x13_116.set (0 : Int).toNat (⟨bt232.1, 6⟩ : S39)), bt232.2)) else (none)))))) else (some (x13_116, t223))) = some (r1, r2) := H
          have A123 := Aside0.mk A1230
          clear A1230
          by_cases c124 : t222 = true
          ·subst c124
           have H1 : ((spec_l20Rd_pick.f kj116 s0_0 t223 3).bind fun bt224 => (if bt224.1 = 0 then (some ((([] : List (S39))), bt224.2)) else (if bt224.1 = 1 then (if x13_116.length < 8796093022208 then (some ((x13_116 ++ [(⟨5, 0⟩ : S39)]), bt224.2)) else (none)) else ((spec_l20Rd_pick.f kj116 s0_0 bt224.2 2).bind fun bt232 => (if 0 < (x13_116.length : Int) then (some ((x13_116.set (0 : Int).toNat (⟨bt232.1, 6⟩ : S39)), bt232.2)) else (none)))))) = some (r1, r2) := by rw [if_pos rfl] at H; exact H
           clear H
           have H := H1
           clear H1
           replace H := Option.bind_eq_some_iff.mp H
           obtain ⟨⟨t224, t225⟩, A1250, H⟩ := H
           replace H : (if t224 = 0 then (some ((([] : List (S39))), t225)) else (if t224 = 1 then (if x13_116.length < 8796093022208 then (some ((x13_116 ++ [(⟨5, 0⟩ : S39)]), t225)) else (none)) else ((spec_l20Rd_pick.f kj116 s0_0 t225 2).bind fun bt232 => (if 0 < (x13_116.length : Int) then (some ((x13_116.set (0 : Int).toNat (⟨bt232.1, 6⟩ : S39)), bt232.2)) else (none))))) = some (r1, r2) := H
           have A125 := Aside0.mk A1250
           clear A1250
           by_cases c126 : t224 = 0
           ·rw [if_pos c126] at H
            have c126b0 : (t224 == 0) = true := beq_iff_eq.mpr c126
            have c126b1 : (t224 != 0) = false := bne_eq_false_iff_eq.mpr c126
            clear c126
            obtain ⟨y226, hy226⟩ : ∃ y_ : List (S39), y_ = (([] : List (S39))) := ⟨_, rfl⟩
            replace H : (some (y226, t225)) = some (r1, r2) := by first | (rw [hy226]; with_reducible exact H) | (have H2_ := (Option.bind_some _ _).symm.trans H; rw [hy226]; with_reducible exact H2_) | (have H2_ := (Option.bind_some _ _).symm.trans H; with_reducible exact H2_) | with_reducible exact H | (rw [hy226]; exact H) | exact H
            have Ny226 := Aside0.mk hy226
            clear hy226
            simp only [Option.some.injEq, Prod.mk.injEq] at H
            obtain ⟨rfl, rfl⟩ := H
            go_wp2_with (first | ((with_reducible refine gate_callee (f := 30) rfl ?_); refine goesL_ (some 119) rfl rfl Try.func30 (by kernel_rfl) rfl #[.pointer (some ⟨g, 0, none⟩), .int .i64 a2] rfl pwi_ ?_; (with_reducible refine (spec_l20Rd_odd.calls kj116 g s0_0 t218 a2 true t223 w0 _ ?side1 ?side2 A123.out).mono ?_); (case side1 => repeat (first | (with_reducible first | exact HI0.out | apply IsS46.alloc | apply IsS46.drewN | apply IsS46.drew | apply IsS46.set_1) | exact HI0.out)); (case side2 => repeat (first | (with_reducible first | exact HB.out | apply below_alloc | apply pw_below_drewN | apply below_drew1 | refine below_set ?_ (IsS46.ge HI0.out)) | exact HB.out)); rintro e w127 ⟨rfl, hi, hb, hk⟩; refine ⟨_, rfl, ?_⟩; have n0_ := Aside0.mk (Kd.R_mono (Kd.R_keep (IsS46.apart (show IsS46 w0 _ g s0_0 t218 from by repeat (first | (with_reducible first | exact HI0.out | apply IsS46.alloc | apply IsS46.drewN | apply IsS46.drew | apply IsS46.set_1) | exact HI0.out)) pwe_ (by decide)) hk (fun _ h => h.2)) (fun _ h => h.1)); have n1_ := Aside0.mk (KeepBut.trans pwj_ hk (.inl rfl)); have n2_ := Aside0.mk (hb); have n3_ := Aside0.mk (hi); clear HO_13; clear HK; clear HB; clear HI0; have HO_13 := n0_; have HK := n1_; have HB := n2_; have HI0 := n3_; clear n0_ n1_ n2_ n3_; (try clear hb); (try clear hb2); (try clear hk); (try clear hi)) | ((with_reducible refine gate_callee (f := 19) rfl ?_); refine goesL_ (some 121) rfl rfl Try.func19 (by kernel_rfl) rfl #[.pointer (some ⟨g, 0, none⟩), .int .i64 3] rfl pwi_ ?_; (with_reducible refine (spec_l20Rd_pick.calls kj116 g s0_0 t223 3 t224 t225 w0 _ ?side1 ?side2 A125.out).mono ?_); (case side1 => repeat (first | (with_reducible first | exact HI0.out | apply IsS46.alloc | apply IsS46.drewN | apply IsS46.drew | apply IsS46.set_1) | exact HI0.out)); (case side2 => repeat (first | (with_reducible first | exact HB.out | apply below_alloc | apply pw_below_drewN | apply below_drew1 | refine below_set ?_ (IsS46.ge HI0.out)) | exact HB.out)); rintro e w128 ⟨rfl, hi, hb, hk⟩; refine ⟨_, rfl, ?_⟩; have n0_ := Aside0.mk (Kd.R_mono (Kd.R_keep (IsS46.apart (show IsS46 w0 _ g s0_0 t223 from by repeat (first | (with_reducible first | exact HI0.out | apply IsS46.alloc | apply IsS46.drewN | apply IsS46.drew | apply IsS46.set_1) | exact HI0.out)) pwe_ (by decide)) hk (fun _ h => h.2)) (fun _ h => h.1)); have n1_ := Aside0.mk (KeepBut.trans pwj_ hk (.inl rfl)); have n2_ := Aside0.mk (hb); have n3_ := Aside0.mk (hi); clear HO_13; clear HK; clear HB; clear HI0; have HO_13 := n0_; have HK := n1_; have HB := n2_; have HI0 := n3_; clear n0_ n1_ n2_ n3_; (try clear hb); (try clear hb2); (try clear hk); (try clear hi)) | ((with_reducible refine gate_dst (N := 129) rfl ?_); refine Kd.R_lit k39 _ 39 ?hg (N := 129) ?hd (xs := ([] : List (S39))) (inner := []) (ok := fun _ => True) (okp := fun _ => True) ?hr ?hp (fun _ hk => hk) trivial (Below.refl _ _) (Nat.le_refl _) (by simp) ?_; (case hd => rfl); (case hg => rfl); (case hr => first | (go_simp; done) | (go_simp; rfl)); (case hp => exact (Reps.none _ _)); intro v227 w129 ho130 hb hg_ hnew_; clear hg_ hnew_; (first | rw [← Ny226.out] at ho130 | (simp only [Int.reduceToNat] at ho130; rw [← Ny226.out] at ho130)); have n0_ := Aside0.mk (Kd.R_elder' pwe_ (Kd.R_base ho130) hb); have n1_ := Aside0.mk (Kd.R_lower (Kd.R_new' ho130 (Kd.R_lt pwe_)) (keep_size (w := w) (g := g) (row := none) pwj_)); have n2_ := Aside0.mk (IsS46.below pwk_ hb); have n3_ := Aside0.mk (KeepBut.trans pwj_ (KeepBut.of_below hb g none) (.inl rfl)); have n4_ := Aside0.mk (below_step pwm_ hb); clear HO_13; clear HI0; clear HK; clear HB; have HO_13 := n0_; have HO228 := n1_; have HI0 := n2_; have HK := n3_; have HB := n4_; clear n0_ n1_ n2_ n3_ n4_; clear hb ho130))
            go_ret
            exact ⟨_, by first | rfl | (simp [errW_none, errW_some] <;> rfl) | (simp only [← hji4, ← hji5]; first | rfl | (simp [errW_none, errW_some] <;> rfl)) | (simp [*, errW_none, errW_some] <;> rfl), by (with_reducible repeat apply Kd.R_alloc); exact Kd.R_mono HO228.out (fun _ hk => trivial), pwk_, pwm_, pwj_⟩
           ·rw [if_neg c126] at H
            have c126b0 : (t224 == 0) = false := beq_eq_false_iff_ne.mpr c126
            have c126b1 : (t224 != 0) = true := bne_iff_ne.mpr c126
            by_cases c131 : t224 = 1
            ·rw [if_pos c131] at H
             have c131b0 : (t224 == 1) = true := beq_iff_eq.mpr c131
             have c131b1 : (t224 != 1) = false := bne_eq_false_iff_eq.mpr c131
             clear c131
             by_cases c132 : x13_116.length < 8796093022208
             ·rw [if_pos c132] at H
              have LMc132 := Aside0.mk c132
              clear c132
              obtain ⟨y229, hy229⟩ : ∃ y_ : List (S39), y_ = (x13_116 ++ [(⟨5, 0⟩ : S39)]) := ⟨_, rfl⟩
              replace H : (some (y229, t225)) = some (r1, r2) := by first | (rw [hy229]; with_reducible exact H) | (have H2_ := (Option.bind_some _ _).symm.trans H; rw [hy229]; with_reducible exact H2_) | (have H2_ := (Option.bind_some _ _).symm.trans H; with_reducible exact H2_) | with_reducible exact H | (rw [hy229]; exact H) | exact H
              have Ny229 := Aside0.mk hy229
              clear hy229
              simp only [Option.some.injEq, Prod.mk.injEq] at H
              obtain ⟨rfl, rfl⟩ := H
              go_wp2_with (first | ((with_reducible refine gate_callee (f := 30) rfl ?_); refine goesL_ (some 119) rfl rfl Try.func30 (by kernel_rfl) rfl #[.pointer (some ⟨g, 0, none⟩), .int .i64 a2] rfl pwi_ ?_; (with_reducible refine (spec_l20Rd_odd.calls kj116 g s0_0 t218 a2 true t223 w0 _ ?side1 ?side2 A123.out).mono ?_); (case side1 => repeat (first | (with_reducible first | exact HI0.out | apply IsS46.alloc | apply IsS46.drewN | apply IsS46.drew | apply IsS46.set_1) | exact HI0.out)); (case side2 => repeat (first | (with_reducible first | exact HB.out | apply below_alloc | apply pw_below_drewN | apply below_drew1 | refine below_set ?_ (IsS46.ge HI0.out)) | exact HB.out)); rintro e w133 ⟨rfl, hi, hb, hk⟩; refine ⟨_, rfl, ?_⟩; have n0_ := Aside0.mk (Kd.R_mono (Kd.R_keep (IsS46.apart (show IsS46 w0 _ g s0_0 t218 from by repeat (first | (with_reducible first | exact HI0.out | apply IsS46.alloc | apply IsS46.drewN | apply IsS46.drew | apply IsS46.set_1) | exact HI0.out)) pwe_ (by decide)) hk (fun _ h => h.2)) (fun _ h => h.1)); have n1_ := Aside0.mk (KeepBut.trans pwj_ hk (.inl rfl)); have n2_ := Aside0.mk (hb); have n3_ := Aside0.mk (hi); clear HO_13; clear HK; clear HB; clear HI0; have HO_13 := n0_; have HK := n1_; have HB := n2_; have HI0 := n3_; clear n0_ n1_ n2_ n3_; (try clear hb); (try clear hb2); (try clear hk); (try clear hi)) | ((with_reducible refine gate_callee (f := 19) rfl ?_); refine goesL_ (some 121) rfl rfl Try.func19 (by kernel_rfl) rfl #[.pointer (some ⟨g, 0, none⟩), .int .i64 3] rfl pwi_ ?_; (with_reducible refine (spec_l20Rd_pick.calls kj116 g s0_0 t223 3 t224 t225 w0 _ ?side1 ?side2 A125.out).mono ?_); (case side1 => repeat (first | (with_reducible first | exact HI0.out | apply IsS46.alloc | apply IsS46.drewN | apply IsS46.drew | apply IsS46.set_1) | exact HI0.out)); (case side2 => repeat (first | (with_reducible first | exact HB.out | apply below_alloc | apply pw_below_drewN | apply below_drew1 | refine below_set ?_ (IsS46.ge HI0.out)) | exact HB.out)); rintro e w134 ⟨rfl, hi, hb, hk⟩; refine ⟨_, rfl, ?_⟩; have n0_ := Aside0.mk (Kd.R_mono (Kd.R_keep (IsS46.apart (show IsS46 w0 _ g s0_0 t223 from by repeat (first | (with_reducible first | exact HI0.out | apply IsS46.alloc | apply IsS46.drewN | apply IsS46.drew | apply IsS46.set_1) | exact HI0.out)) pwe_ (by decide)) hk (fun _ h => h.2)) (fun _ h => h.1)); have n1_ := Aside0.mk (KeepBut.trans pwj_ hk (.inl rfl)); have n2_ := Aside0.mk (hb); have n3_ := Aside0.mk (hi); clear HO_13; clear HK; clear HB; clear HI0; have HO_13 := n0_; have HK := n1_; have HB := n2_; have HI0 := n3_; clear n0_ n1_ n2_ n3_; (try clear hb); (try clear hb2); (try clear hk); (try clear hi)) | ((with_reducible refine gate_builtin (b := .append) (xs := #[.tmp 132, .tmp 134]) rfl ?_); at_builtin; refine Kd.R_append k39 w.heap.size rfl (.tmp 132) (.tmp 134) 23 39 (.agg #[(.int .i64 0), (.int .i64 0)]) 16 rfl Try.underlying23 info39 rfl (by decide) (by omega) u13 x13_116 (⟨5, 0⟩ : S39) [.int .i64 5, .int .i64 0] (fun _ => True) (fun _ => False) rfl rfl ?aP (fun _ hk => hk.elim) ?aF ?aO (Below.refl _ _) ?aS ?aL ?_; (case aP => exact k39_mkM _ _ _ (⟨5, 0⟩ : S39)); (case aF => exact (fun _ _ => trivial)); (case aO => exact pwe_); (case aS => exact (keep_size (w := w) (g := g) (row := none) pwj_)); (case aL => have := LMc132.out; omega); intro v230 w135 ho hb hg hat; rw [← Ny229.out] at ho; have n0_ := Aside0.mk (IsS46.grown pwk_ hg (IsS46.own_ne HI0.out HO_13.out (by decide))); have n1_ := Aside0.mk (below_weaken pwm_ HL.out hb); have n2_ := Aside0.mk (KeepBut.trans pwj_ (KeepBut.of_grown hg g) (Kd.R_base2 HO_13.out)); have n3_ := Aside0.mk (ho); clear HI0; clear HB; clear HK; clear HO_13; have HI0 := n0_; have HB := n1_; have HK := n2_; have HO231 := n3_; clear n0_ n1_ n2_ n3_; clear ho hb hg hat))
              go_ret
              exact ⟨_, by first | rfl | (simp [errW_none, errW_some] <;> rfl) | (simp only [← hji4, ← hji5]; first | rfl | (simp [errW_none, errW_some] <;> rfl)) | (simp [*, errW_none, errW_some] <;> rfl), by (with_reducible repeat apply Kd.R_alloc); exact HO231.out, pwk_, pwm_, pwj_⟩
             ·rw [if_neg c132] at H
              exact absurd H (by simp)
            ·rw [if_neg c131] at H
             have c131b0 : (t224 == 1) = false := beq_eq_false_iff_ne.mpr c131
             have c131b1 : (t224 != 1) = true := bne_iff_ne.mpr c131
             replace H := Option.bind_eq_some_iff.mp H
             obtain ⟨⟨t232, t233⟩, A1360, H⟩ := H
             replace H : (if 0 < (x13_116.length : Int) then (some ((x13_116.set (0 : Int).toNat (⟨t232, 6⟩ : S39)), t233)) else (none)) = some (r1, r2) := H
             have A136 := Aside0.mk A1360
             clear A1360
             by_cases c137 : 0 < (x13_116.length : Int)
             ·rw [if_pos c137] at H
              have c137b0 : decide (0 < (x13_116.length : Int)) = true := decide_eq_true c137
              have c137b1 : decide (0 < x13_116.length) = true := decide_eq_true (by omega)
              clear c137
              obtain ⟨y234, hy234⟩ : ∃ y_ : List (S39), y_ = (x13_116.set (0 : Int).toNat (⟨t232, 6⟩ : S39)) := ⟨_, rfl⟩
              replace H : (some (y234, t233)) = some (r1, r2) := by first | (rw [hy234]; with_reducible exact H) | (have H2_ := (Option.bind_some _ _).symm.trans H; rw [hy234]; with_reducible exact H2_) | (have H2_ := (Option.bind_some _ _).symm.trans H; with_reducible exact H2_) | with_reducible exact H | (rw [hy234]; exact H) | exact H
              have Ny234 := Aside0.mk hy234
              clear hy234
              simp only [Option.some.injEq, Prod.mk.injEq] at H
              obtain ⟨rfl, rfl⟩ := H
              go_wp2_with (first | ((with_reducible refine gate_callee (f := 30) rfl ?_); refine goesL_ (some 119) rfl rfl Try.func30 (by kernel_rfl) rfl #[.pointer (some ⟨g, 0, none⟩), .int .i64 a2] rfl pwi_ ?_; (with_reducible refine (spec_l20Rd_odd.calls kj116 g s0_0 t218 a2 true t223 w0 _ ?side1 ?side2 A123.out).mono ?_); (case side1 => repeat (first | (with_reducible first | exact HI0.out | apply IsS46.alloc | apply IsS46.drewN | apply IsS46.drew | apply IsS46.set_1) | exact HI0.out)); (case side2 => repeat (first | (with_reducible first | exact HB.out | apply below_alloc | apply pw_below_drewN | apply below_drew1 | refine below_set ?_ (IsS46.ge HI0.out)) | exact HB.out)); rintro e w139 ⟨rfl, hi, hb, hk⟩; refine ⟨_, rfl, ?_⟩; have n0_ := Aside0.mk (Kd.R_mono (Kd.R_keep (IsS46.apart (show IsS46 w0 _ g s0_0 t218 from by repeat (first | (with_reducible first | exact HI0.out | apply IsS46.alloc | apply IsS46.drewN | apply IsS46.drew | apply IsS46.set_1) | exact HI0.out)) pwe_ (by decide)) hk (fun _ h => h.2)) (fun _ h => h.1)); have n1_ := Aside0.mk (KeepBut.trans pwj_ hk (.inl rfl)); have n2_ := Aside0.mk (hb); have n3_ := Aside0.mk (hi); clear HO_13; clear HK; clear HB; clear HI0; have HO_13 := n0_; have HK := n1_; have HB := n2_; have HI0 := n3_; clear n0_ n1_ n2_ n3_; (try clear hb); (try clear hb2); (try clear hk); (try clear hi)) | ((with_reducible refine gate_callee (f := 19) rfl ?_); refine goesL_ (some 121) rfl rfl Try.func19 (by kernel_rfl) rfl #[.pointer (some ⟨g, 0, none⟩), .int .i64 3] rfl pwi_ ?_; (with_reducible refine (spec_l20Rd_pick.calls kj116 g s0_0 t223 3 t224 t225 w0 _ ?side1 ?side2 A125.out).mono ?_); (case side1 => repeat (first | (with_reducible first | exact HI0.out | apply IsS46.alloc | apply IsS46.drewN | apply IsS46.drew | apply IsS46.set_1) | exact HI0.out)); (case side2 => repeat (first | (with_reducible first | exact HB.out | apply below_alloc | apply pw_below_drewN | apply below_drew1 | refine below_set ?_ (IsS46.ge HI0.out)) | exact HB.out)); rintro e w140 ⟨rfl, hi, hb, hk⟩; refine ⟨_, rfl, ?_⟩; have n0_ := Aside0.mk (Kd.R_mono (Kd.R_keep (IsS46.apart (show IsS46 w0 _ g s0_0 t223 from by repeat (first | (with_reducible first | exact HI0.out | apply IsS46.alloc | apply IsS46.drewN | apply IsS46.drew | apply IsS46.set_1) | exact HI0.out)) pwe_ (by decide)) hk (fun _ h => h.2)) (fun _ h => h.1)); have n1_ := Aside0.mk (KeepBut.trans pwj_ hk (.inl rfl)); have n2_ := Aside0.mk (hb); have n3_ := Aside0.mk (hi); clear HO_13; clear HK; clear HB; clear HI0; have HO_13 := n0_; have HK := n1_; have HB := n2_; have HI0 := n3_; clear n0_ n1_ n2_ n3_; (try clear hb); (try clear hb2); (try clear hk); (try clear hi)) | ((with_reducible refine gate_callee (f := 19) rfl ?_); refine goesL_ (some 124) rfl rfl Try.func19 (by kernel_rfl) rfl #[.pointer (some ⟨g, 0, none⟩), .int .i64 2] rfl pwi_ ?_; (with_reducible refine (spec_l20Rd_pick.calls kj116 g s0_0 t225 2 t232 t233 w0 _ ?side1 ?side2 A136.out).mono ?_); (case side1 => repeat (first | (with_reducible first | exact HI0.out | apply IsS46.alloc | apply IsS46.drewN | apply IsS46.drew | apply IsS46.set_1) | exact HI0.out)); (case side2 => repeat (first | (with_reducible first | exact HB.out | apply below_alloc | apply pw_below_drewN | apply below_drew1 | refine below_set ?_ (IsS46.ge HI0.out)) | exact HB.out)); rintro e w141 ⟨rfl, hi, hb, hk⟩; refine ⟨_, rfl, ?_⟩; have n0_ := Aside0.mk (Kd.R_mono (Kd.R_keep (IsS46.apart (show IsS46 w0 _ g s0_0 t225 from by repeat (first | (with_reducible first | exact HI0.out | apply IsS46.alloc | apply IsS46.drewN | apply IsS46.drew | apply IsS46.set_1) | exact HI0.out)) pwe_ (by decide)) hk (fun _ h => h.2)) (fun _ h => h.1)); have n1_ := Aside0.mk (KeepBut.trans pwj_ hk (.inl rfl)); have n2_ := Aside0.mk (hb); have n3_ := Aside0.mk (hi); clear HO_13; clear HK; clear HB; clear HI0; have HO_13 := n0_; have HK := n1_; have HB := n2_; have HI0 := n3_; clear n0_ n1_ n2_ n3_; (try clear hb); (try clear hb2); (try clear hk); (try clear hi); have p138 : 0 ≤ (0 : Int) := (by omega); have q138 : (0 : Int) < ((x13_116.length : Int) : Int) := of_decide_eq_true pwb_; have qi138 : (0 < x13_116.length) = True := eq_true (by omega); obtain ⟨go138, co138, eo138, gb138, gl138, cl138, HG138⟩ := Kd.R_form HO_13.out (by omega); (first | cases eo138 | (injection eo138 with ea_ en_ ec_; (first | subst ea_ | (injection ea_ with ea_; subst ea_)); subst ec_; clear en_)); have GB138 := Aside0.mk gb138; have GG138 := Aside0.mk HG138; clear gb138 gl138 HG138; obtain ⟨ce138, hcl138, hM138, hcc138, hfr138⟩ := Kd.R_elem HO_13.out z39 (0 : Int) p138 q138; obtain rfl := k39_openM hM138; have hx138_0 : w141.cell? ⟨go138, (0 : Int).toNat * 2, none⟩ = some (.int .i64 ((rd_T39 x13_116 0).f0)) := hcc138 0 _ rfl; have hx138_1 : w141.cell? ⟨go138, (0 : Int).toNat * 2 + 1, none⟩ = some (.int .i64 ((rd_T39 x13_116 0).f1)) := hcc138 1 _ rfl; have hf138_0 : w141.frozen? ⟨go138, (0 : Int).toNat * 2, none⟩ = false := hfr138 0; have hf138_1 : w141.frozen? ⟨go138, (0 : Int).toNat * 2 + 1, none⟩ = false := hfr138 1; clear hcl138 hcc138 hfr138; (try clear hM138); skip; (try rw [show ((0 : Int)).toNat = 0 from rfl] at hx138_0); (try simp only [Nat.reduceMul, Nat.zero_mul, Nat.zero_add, Nat.reduceAdd] at hx138_0); (try rw [show ((0 : Int)).toNat = 0 from rfl] at hf138_0); (try simp only [Nat.reduceMul, Nat.zero_mul, Nat.zero_add, Nat.reduceAdd] at hf138_0); (try rw [show ((0 : Int)).toNat = 0 from rfl] at hx138_1); (try simp only [Nat.reduceMul, Nat.zero_mul, Nat.zero_add, Nat.reduceAdd] at hx138_1); (try rw [show ((0 : Int)).toNat = 0 from rfl] at hf138_1); (try simp only [Nat.reduceMul, Nat.zero_mul, Nat.zero_add, Nat.reduceAdd] at hf138_1); replace p138 := eq_true p138; replace q138 := eq_true q138; have HX142 := Aside0.mk (show Kd.R k39 39 w141 w.heap.size (fun _ => True) (.slice (some ⟨go138, 0, none⟩) x13_116.length co138) x13_116 from pwe_); obtain ⟨ce142, hcl142, hM142, hcc142, hfr142⟩ := Kd.R_elem HX142.out z39 (0 : Int) (by omega) (by have h_ : (0 : Int) < ((x13_116.length : Int) : Int) := of_decide_eq_true pwb_; first | exact h_ | (have e_ := (Kd.R_reads' HO_13.out).1; omega) | simpa using h_); obtain rfl := k39_openM hM142; have HP142 := Kd.R_seg HX142.out (0 : Int) (by omega) (by have h_ : (0 : Int) < ((x13_116.length : Int) : Int) := of_decide_eq_true pwb_; first | exact h_ | (have e_ := (Kd.R_reads' HO_13.out).1; omega) | simpa using h_) (seg := [.int .i64 t232, .int .i64 6]) (j := 0) hcl142 hcc142 (show 2 ≤ 2 from by decide) (x' := (⟨t232, 6⟩ : S39)) (k39_mkM _ _ _ (⟨t232, 6⟩ : S39) ) (fun _ hk => hk); have hx142_0 := hcc142 0 _ rfl; (try simp only [show (k39).sz = 2 from rfl, Nat.mul_one, Nat.add_zero] at hx142_0); (try rw [show ((0 : Int)).toNat = 0 from rfl] at hx142_0); (try simp only [Nat.reduceMul, Nat.zero_mul, Nat.zero_add, Nat.reduceAdd] at hx142_0); have hf142_0 := hfr142 0; (try simp only [show (k39).sz = 2 from rfl, Nat.mul_one, Nat.add_zero] at hf142_0); (try rw [show ((0 : Int)).toNat = 0 from rfl] at hf142_0); (try simp only [Nat.reduceMul, Nat.zero_mul, Nat.zero_add, Nat.reduceAdd] at hf142_0); have hx142_1 := hcc142 1 _ rfl; (try simp only [show (k39).sz = 2 from rfl, Nat.mul_one, Nat.add_zero] at hx142_1); (try rw [show ((0 : Int)).toNat = 0 from rfl] at hx142_1); (try simp only [Nat.reduceMul, Nat.zero_mul, Nat.zero_add, Nat.reduceAdd] at hx142_1); have hf142_1 := hfr142 1; (try simp only [show (k39).sz = 2 from rfl, Nat.mul_one, Nat.add_zero] at hf142_1); (try rw [show ((0 : Int)).toNat = 0 from rfl] at hf142_1); (try simp only [Nat.reduceMul, Nat.zero_mul, Nat.zero_add, Nat.reduceAdd] at hf142_1); clear hcl142 hcc142 hfr142; (try clear hM142); skip) | ((with_reducible refine gate_store (t := 39) (p := 126) rfl ?_); refine store_event (t := 39) (p := 126) (v := ?vo_w143) (w1 := ((w141.setCell ⟨go138, 0, none⟩ (.int .i64 t232)).setCell ⟨go138, 1, none⟩ (.int .i64 6))) ?hg ?ho ?hn ?hr ?_; (case ho => rfl); (case hg => rfl); (case hn => rfl); (case hr => first | (go_simp; done) | (go_simp; rfl)); intro w143 hw; have hg : w141.grownBy w143 (some go138) := (by rw [hw]; exact HP142.2); have hp_ : Kd.R k39 39 w143 w.heap.size (fun _ => True) (.slice (some ⟨go138, 0, none⟩) x13_116.length co138) y234 := (by rw [hw, Ny234.out]; exact HP142.1); clear HP142; have n0_ := Aside0.mk (hp_); have n1_ := Aside0.mk (IsS46.grown pwk_ hg (IsS46.own_ne HI0.out HO_13.out (by decide))); have n2_ := Aside0.mk ((by rw [hw]; exact below_set (below_set (HB.out) (Nat.le_trans HL.out GB138.out)) (Nat.le_trans HL.out GB138.out) : Below w0.heap.size w0 w143)); have n3_ := Aside0.mk (KeepBut.trans pwj_ (KeepBut.of_grown hg g) (Kd.R_base2 HO_13.out)); clear HO_13; clear HI0; clear HB; clear HK; have HO_13 := n0_; have HI0 := n1_; have HB := n2_; have HK := n3_; clear n0_ n1_ n2_ n3_; clear hg hw hp_))
              go_ret
              exact ⟨_, by first | rfl | (simp [errW_none, errW_some] <;> rfl) | (simp only [← hji4, ← hji5]; first | rfl | (simp [errW_none, errW_some] <;> rfl)) | (simp [*, errW_none, errW_some] <;> rfl), pwe_, pwk_, pwm_, pwj_⟩
             ·rw [if_neg c137] at H
              exact absurd H (by simp)
          ·replace c124 := Bool.eq_false_iff.mpr c124
           subst c124
           have H1 : (some (x13_116, t223)) = some (r1, r2) := by rw [if_neg (show ¬ (false = true) by decide)] at H; exact H
           clear H
           have H := H1
           clear H1
           simp only [Option.some.injEq, Prod.mk.injEq] at H
           obtain ⟨rfl, rfl⟩ := H
           go_wp2_with (first | ((with_reducible refine gate_callee (f := 30) rfl ?_); refine goesL_ (some 119) rfl rfl Try.func30 (by kernel_rfl) rfl #[.pointer (some ⟨g, 0, none⟩), .int .i64 a2] rfl pwi_ ?_; (with_reducible refine (spec_l20Rd_odd.calls kj116 g s0_0 t218 a2 false t223 w0 _ ?side1 ?side2 A123.out).mono ?_); (case side1 => repeat (first | (with_reducible first | exact HI0.out | apply IsS46.alloc | apply IsS46.drewN | apply IsS46.drew | apply IsS46.set_1) | exact HI0.out)); (case side2 => repeat (first | (with_reducible first | exact HB.out | apply below_alloc | apply pw_below_drewN | apply below_drew1 | refine below_set ?_ (IsS46.ge HI0.out)) | exact HB.out)); rintro e w144 ⟨rfl, hi, hb, hk⟩; refine ⟨_, rfl, ?_⟩; have n0_ := Aside0.mk (Kd.R_mono (Kd.R_keep (IsS46.apart (show IsS46 w0 _ g s0_0 t218 from by repeat (first | (with_reducible first | exact HI0.out | apply IsS46.alloc | apply IsS46.drewN | apply IsS46.drew | apply IsS46.set_1) | exact HI0.out)) pwe_ (by decide)) hk (fun _ h => h.2)) (fun _ h => h.1)); have n1_ := Aside0.mk (KeepBut.trans pwj_ hk (.inl rfl)); have n2_ := Aside0.mk (hb); have n3_ := Aside0.mk (hi); clear HO_13; clear HK; clear HB; clear HI0; have HO_13 := n0_; have HK := n1_; have HB := n2_; have HI0 := n3_; clear n0_ n1_ n2_ n3_; (try clear hb); (try clear hb2); (try clear hk); (try clear hi)))
           go_ret
           exact ⟨_, by first | rfl | (simp [errW_none, errW_some] <;> rfl) | (simp only [← hji4, ← hji5]; first | rfl | (simp [errW_none, errW_some] <;> rfl)) | (simp [*, errW_none, errW_some] <;> rfl), pwe_, pwk_, pwm_, pwj_⟩
       ·rw [if_neg c115] at H
        exact absurd H (by simp)

end Go.Proofs.Ytcadjbmekmnjaaa.PFnTermText
