-- Made by a program of this session (wip/tools/patchprint.py), not by the kit itself.
import Derived.Test.YtfhmafmfaoknlaaPFnExactDenyClaimx0
import Derived.Test.YtfhmafmfaoknlaaPFnExactDenyClaimx4
import Derived.Test.YtfhmafmfaoknlaaPFnExactDenyClaimy0
namespace Go.Proofs.Ytfhmafmfaoknlaa.PFnExactDenyClaim
open Go.RowKit Go.Proofs.YtfhmafmfaoknlaaW.PrintWords Go.Proofs.YtfhmafmfaoknlaaW.PrintLast Go.Proofs.YtfhmafmfaoknlaaW.PrintMore
attribute [local go_sem] max2_int min2_int max_two min_two max_three min_three max_four min_four   -- for this text's walks alone
set_option linter.unusedVariables false
set_option linter.unusedSimpArgs false

attribute [local go_sem] setCell_isSome
set_option maxHeartbeats 8000000 in
set_option maxRecDepth 100000 in
theorem spec_DenyClaim.calls2 (k : Nat) (a0 : Int) (a1_0 : Int) (A1_1 : Option Addr) (c1_1 : Nat) (l1_1 : List (S62)) (r1 : Int) (r2 : List (S62)) (r3 : Bool) (w : World) (hr1_1 : Kd.C k62 w A1_1 l1_1.length l1_1) (hc1_1 : l1_1.length ≤ c1_1) (h : spec_DenyClaim.f k a0 a1_0 l1_1 = some (r1, r2, r3)) (hx : r3 = false) (hy : spec_ClaimOk.f k a0 a1_0 l1_1 = some true) :
  Calls Try.prog 47 #[.int .i64 a0, .agg #[.int .i64 a1_0, .slice A1_1 l1_1.length c1_1]] w fun e w' => ∃ v1_ : Value, e = .returned (.tuple #[.agg #[.int .i64 r1, v1_], .bool r3]) ∧ Kd.R k62 62 w' w.heap.size (fun _ => True) v1_ r2 ∧ Below w.heap.size w w' := by
 have hu47 := Try.underlying47
 have hu62 := Try.underlying62
 have HR1_1 := Aside0.mk hr1_1
 have HC1_1 := Aside0.mk hc1_1
 clear hr1_1 hc1_1
 have HB := Aside0.mk (Below.refl w.heap.size w)
 have H : ((some (([] : List (S62)) : List (S62))).bind fun y148 => (if y148.length + l1_1.length < 8796093022208 then ((some (y148 ++ l1_1 : List (S62))).bind fun y151 => ((some (([(⟨2, 0⟩ : S62)] : List (S62)) : List (S62))).bind fun y154 => (if y151.length + y154.length < 8796093022208 then ((some (y151 ++ y154 : List (S62))).bind fun y157 => ((spec_ClaimOk.f k a0 a1_0 l1_1).bind fun t161 => (if t161 = true then ((spec_ClaimOk.f k a0 a1_0 y157).bind fun t162 => (if t162 = true then (some (a1_0, y157, true)) else (some (0, ([] : List (S62)), false)))) else (some (0, ([] : List (S62)), false))))) else (none)))) else (none))) = some (r1, r2, r3) := h
 clear h
 obtain ⟨y148, hy148⟩ : ∃ y_ : List (S62), y_ = (([] : List (S62))) := ⟨_, rfl⟩
 replace H : (if y148.length + l1_1.length < 8796093022208 then ((some (y148 ++ l1_1 : List (S62))).bind fun y151 => ((some (([(⟨2, 0⟩ : S62)] : List (S62)) : List (S62))).bind fun y154 => (if y151.length + y154.length < 8796093022208 then ((some (y151 ++ y154 : List (S62))).bind fun y157 => ((spec_ClaimOk.f k a0 a1_0 l1_1).bind fun t161 => (if t161 = true then ((spec_ClaimOk.f k a0 a1_0 y157).bind fun t162 => (if t162 = true then (some (a1_0, y157, true)) else (some (0, ([] : List (S62)), false)))) else (some (0, ([] : List (S62)), false))))) else (none)))) else (none)) = some (r1, r2, r3) := by first | (rw [hy148]; with_reducible exact H) | (have H2_ := (Option.bind_some _ _).symm.trans H; rw [hy148]; with_reducible exact H2_) | (have H2_ := (Option.bind_some _ _).symm.trans H; with_reducible exact H2_) | with_reducible exact H | (rw [hy148]; exact H) | exact H
 have Ny148 := Aside0.mk hy148
 clear hy148
 by_cases c3 : y148.length + l1_1.length < 8796093022208
 ·rw [if_pos c3] at H
  have LMc3 := Aside0.mk c3
  clear c3
  obtain ⟨y151, hy151⟩ : ∃ y_ : List (S62), y_ = (y148 ++ l1_1) := ⟨_, rfl⟩
  replace H : ((some (([(⟨2, 0⟩ : S62)] : List (S62)) : List (S62))).bind fun y154 => (if y151.length + y154.length < 8796093022208 then ((some (y151 ++ y154 : List (S62))).bind fun y157 => ((spec_ClaimOk.f k a0 a1_0 l1_1).bind fun t161 => (if t161 = true then ((spec_ClaimOk.f k a0 a1_0 y157).bind fun t162 => (if t162 = true then (some (a1_0, y157, true)) else (some (0, ([] : List (S62)), false)))) else (some (0, ([] : List (S62)), false))))) else (none))) = some (r1, r2, r3) := by first | (rw [hy151]; with_reducible exact H) | (have H2_ := (Option.bind_some _ _).symm.trans H; rw [hy151]; with_reducible exact H2_) | (have H2_ := (Option.bind_some _ _).symm.trans H; with_reducible exact H2_) | with_reducible exact H | (rw [hy151]; exact H) | exact H
  have Ny151 := Aside0.mk hy151
  clear hy151
  obtain ⟨y154, hy154⟩ : ∃ y_ : List (S62), y_ = (([(⟨2, 0⟩ : S62)] : List (S62))) := ⟨_, rfl⟩
  replace H : (if y151.length + y154.length < 8796093022208 then ((some (y151 ++ y154 : List (S62))).bind fun y157 => ((spec_ClaimOk.f k a0 a1_0 l1_1).bind fun t161 => (if t161 = true then ((spec_ClaimOk.f k a0 a1_0 y157).bind fun t162 => (if t162 = true then (some (a1_0, y157, true)) else (some (0, ([] : List (S62)), false)))) else (some (0, ([] : List (S62)), false))))) else (none)) = some (r1, r2, r3) := by first | (rw [hy154]; with_reducible exact H) | (have H2_ := (Option.bind_some _ _).symm.trans H; rw [hy154]; with_reducible exact H2_) | (have H2_ := (Option.bind_some _ _).symm.trans H; with_reducible exact H2_) | with_reducible exact H | (rw [hy154]; exact H) | exact H
  have Ny154 := Aside0.mk hy154
  clear hy154
  by_cases c4 : y151.length + y154.length < 8796093022208
  ·rw [if_pos c4] at H
   have LMc4 := Aside0.mk c4
   clear c4
   obtain ⟨y157, hy157⟩ : ∃ y_ : List (S62), y_ = (y151 ++ y154) := ⟨_, rfl⟩
   replace H : ((spec_ClaimOk.f k a0 a1_0 l1_1).bind fun t161 => (if t161 = true then ((spec_ClaimOk.f k a0 a1_0 y157).bind fun t162 => (if t162 = true then (some (a1_0, y157, true)) else (some (0, ([] : List (S62)), false)))) else (some (0, ([] : List (S62)), false)))) = some (r1, r2, r3) := by first | (rw [hy157]; with_reducible exact H) | (have H2_ := (Option.bind_some _ _).symm.trans H; rw [hy157]; with_reducible exact H2_) | (have H2_ := (Option.bind_some _ _).symm.trans H; with_reducible exact H2_) | with_reducible exact H | (rw [hy157]; exact H) | exact H
   have Ny157 := Aside0.mk hy157
   clear hy157
   replace H := Option.bind_eq_some_iff.mp H
   obtain ⟨t161, A50, H⟩ := H
   replace H : (if t161 = true then ((spec_ClaimOk.f k a0 a1_0 y157).bind fun t162 => (if t162 = true then (some (a1_0, y157, true)) else (some (0, ([] : List (S62)), false)))) else (some (0, ([] : List (S62)), false))) = some (r1, r2, r3) := H
   have A5 := Aside0.mk A50
   clear A50
   by_cases c6 : t161 = true
   ·subst c6
    have H1 : ((spec_ClaimOk.f k a0 a1_0 y157).bind fun t162 => (if t162 = true then (some (a1_0, y157, true)) else (some (0, ([] : List (S62)), false)))) = some (r1, r2, r3) := by rw [if_pos rfl] at H; exact H
    clear H
    have H := H1
    clear H1
    replace H := Option.bind_eq_some_iff.mp H
    obtain ⟨t162, A70, H⟩ := H
    replace H : (if t162 = true then (some (a1_0, y157, true)) else (some (0, ([] : List (S62)), false))) = some (r1, r2, r3) := H
    have A7 := Aside0.mk A70
    clear A70
    by_cases c8 : t162 = true
    ·subst c8
     have H1 : (some (a1_0, y157, true)) = some (r1, r2, r3) := by rw [if_pos rfl] at H; exact H
     clear H
     have H := H1
     clear H1
     simp only [Option.some.injEq, Prod.mk.injEq] at H
     obtain ⟨rfl, rfl, rfl⟩ := H
     exact absurd hx (by decide)
    ·replace c8 := Bool.eq_false_iff.mpr c8
     subst c8
     have H1 : (some (0, ([] : List (S62)), false)) = some (r1, r2, r3) := by rw [if_neg (show ¬ (false = true) by decide)] at H; exact H
     clear H
     have H := H1
     clear H1
     simp only [Option.some.injEq, Prod.mk.injEq] at H
     obtain ⟨rfl, rfl, rfl⟩ := H
     go_enter Try.func47, Try.ntmps47
     try go_wp2_with (first | ((with_reducible refine gate_dst (N := 3) rfl ?_); refine box_event ?hg (N := 3) ?hd (cs := #[.int .i64 a1_0, .slice A1_1 l1_1.length c1_1]) (t := 47) ?hr ?_; (case hd => rfl); (case hg => rfl); (case hr => first | (go_simp; done) | (go_simp; rfl)); intro gb146 hg w34 hbox hb; have n0_ := Aside0.mk (below_step pwx_ hb); have n1_ := Aside0.mk (hbox); have n2_ := Aside0.mk ((by rw [hg]; exact (below_size pwx_) : w.heap.size ≤ gb146)); have n3_ := Aside0.mk ((by rw [hg]; exact (below_size pwx_) : w.heap.size ≤ gb146)); clear HB; have HB := n0_; have BK146 := n1_; have GW146 := n2_; have GE146 := n3_; clear n0_ n1_ n2_ n3_; clear hb hbox hg) | ((with_reducible refine gate_dst (N := 4) rfl ?_); refine box_event ?hg (N := 4) ?hd (cs := #[.int .i64 0, .slice none 0 0]) (t := 47) ?hr ?_; (case hd => rfl); (case hg => rfl); (case hr => first | (go_simp; done) | (go_simp; rfl)); intro gb147 hg w35 hbox hb; have n0_ := Aside0.mk (blk_below (g := gb146) (o := .cells #[.int .i64 a1_0, .slice A1_1 l1_1.length c1_1] 47 (0, 0)) pwl_ hb); have n1_ := Aside0.mk (below_step (by repeat (first | (with_reducible first | exact HB.out | apply below_alloc | apply pw_below_drewN | apply below_drew1 | refine below_set ?_ GE146.out) | exact HB.out)) hb); have n2_ := Aside0.mk (hbox); have n3_ := Aside0.mk ((by rw [hg]; exact (below_size (by repeat (first | (with_reducible first | exact HB.out | apply below_alloc | apply pw_below_drewN | apply below_drew1 | refine below_set ?_ GE146.out) | exact HB.out))) : w.heap.size ≤ gb147)); have n4_ := Aside0.mk ((by rw [hg]; exact (below_size (by repeat (first | (with_reducible first | exact HB.out | apply below_alloc | apply pw_below_drewN | apply below_drew1 | refine below_set ?_ GE146.out) | exact HB.out))) : w.heap.size ≤ gb147)); have n5_ := Aside0.mk ((by rw [hg]; exact Nat.ne_of_lt (blk_lt (g := gb146) (o := .cells #[.int .i64 a1_0, .slice A1_1 l1_1.length c1_1] 47 (0, 0)) pwl_) : gb146 ≠ gb147)); have n6_ := Aside0.mk ((by rw [hg]; exact Nat.ne_of_gt (blk_lt (g := gb146) (o := .cells #[.int .i64 a1_0, .slice A1_1 l1_1.length c1_1] 47 (0, 0)) pwl_) : gb147 ≠ gb146)); clear BK146; clear HB; have BK146 := n0_; have HB := n1_; have BK147 := n2_; have GW147 := n3_; have GE147 := n4_; have NB146_147 := n5_; have NB147_146 := n6_; clear n0_ n1_ n2_ n3_ n4_ n5_ n6_; clear hb hbox hg))
     have n0_ := Aside0.mk (blk_drew BK146.out)
     have n1_ := Aside0.mk (blk_drew BK147.out)
     have n2_ := Aside0.mk (below_drew1 HB.out)
     clear BK146
     clear BK147
     clear HB
     have BK146 := n0_
     have BK147 := n1_
     have HB := n2_
     clear n0_ n1_ n2_
     refine start_ (n := 12) (S := fun w' => w'.cell? ⟨gb146, 0, none⟩ = some (.int .i64 a1_0) ∧ w'.cell? ⟨gb146, 1, none⟩ = some (.slice A1_1 l1_1.length c1_1)) (ds := []) #[false, false, false, false, false, false, false, false, false, false, false, false] (by kernel_rfl) rfl rfl ⟨(blk_cell BK146.out 0).trans rfl, (blk_cell BK146.out 1).trans rfl⟩ (fun hHeld => ?_); refine with_tabW spec_DenyClaim.tab1 spec_DenyClaim.bits1 (fun HT_ HW_ => ?_)
     generalize w35.drew = w36 at BK146 BK147 HB hHeld ⊢
     refine pure_ (i := 0) (N := some 7) (v := ?_) (a' := ?_) #[true, false, false, false, false, false, false, false, false, false, false, false] rfl rfl (any_of HT_.out (by kernel_rfl)) (fun _ _ _ h => h) (Or.inl ⟨by rfl, ?_⟩) ?_ ?_
     rotate_left
     ·intro w'
      go_simp
      with_reducible rfl
     rotate_left
     ·simp only [Act.put, List.setIfInBounds_toArray, List.set_cons_zero, List.set_cons_succ, i64_w, i32_w]
      rfl
     refine pure_ (i := 3) (N := some 10) (v := ?_) (a' := ?_) #[true, false, false, true, false, false, false, false, false, false, false, false] rfl rfl (any_of HT_.out (by kernel_rfl)) (fun _ _ _ h => h) (Or.inl ⟨by rfl, ?_⟩) ?_ ?_
     rotate_left
     ·intro w'
      go_simp
      with_reducible rfl
     rotate_left
     ·simp only [Act.put, List.setIfInBounds_toArray, List.set_cons_zero, List.set_cons_succ, i64_w, i32_w]
      rfl
     refine pure_ (i := 6) (N := some 13) (v := ?_) (a' := ?_) #[true, false, false, true, false, false, true, false, false, false, false, false] rfl rfl (any_of HT_.out (by kernel_rfl)) (fun _ _ _ h => h) (Or.inl ⟨by rfl, ?_⟩) ?_ ?_
     rotate_left
     ·intro w'
      go_simp
      with_reducible rfl
     rotate_left
     ·simp only [Act.put, List.setIfInBounds_toArray, List.set_cons_zero, List.set_cons_succ, i64_w, i32_w]
      rfl
     refine take_ (i := 1) (N := some 8) (v := ?_) (a' := ?_) #[true, true, false, true, false, false, true, false, false, false, false, false] rfl rfl (take_ofW HT_.out HW_.out (by kernel_rfl)) (fun _ _ _ h => h) (Or.inl ⟨by rfl, ?_⟩) hHeld ?_ ?_
     rotate_left
     ·rintro w' ⟨s0, s1⟩
      go_simp
      with_reducible rfl
     rotate_left
     ·simp only [Act.put, List.setIfInBounds_toArray, List.set_cons_zero, List.set_cons_succ, i64_w, i32_w]
      rfl
     refine take_ (i := 4) (N := some 11) (v := ?_) (a' := ?_) #[true, true, false, true, true, false, true, false, false, false, false, false] rfl rfl (take_ofW HT_.out HW_.out (by kernel_rfl)) (fun _ _ _ h => h) (Or.inl ⟨by rfl, ?_⟩) hHeld ?_ ?_
     rotate_left
     ·rintro w' ⟨s0, s1⟩
      go_simp
      with_reducible rfl
     rotate_left
     ·simp only [Act.put, List.setIfInBounds_toArray, List.set_cons_zero, List.set_cons_succ, i64_w, i32_w]
      rfl
     refine join_ (σ := Value × Value × Value × Value × Nat) 1 #[true, true, true, true, true, true, true, true, true, true, true, false] (fun s_ => [(9, s_.1), (12, s_.2.1), (14, s_.2.2.1), (15, s_.2.2.2.1), (6, .pointer (some ⟨s_.2.2.2.2, 0, none⟩)), (16, .agg #[.int .i64 a1_0, s_.2.2.2.1])]) (fun s_ w' => (w'.cell? ⟨gb146, 0, none⟩ = some (.int .i64 a1_0) ∧ w'.cell? ⟨gb146, 1, none⟩ = some (.slice A1_1 l1_1.length c1_1)) ∧ (Kd.R k62 62 w' w.heap.size (fun k_ => some k_ ≠ (s_.2.2.2.1 : Value).ownBlock) s_.2.2.1 y154) ∧ (Kd.R k62 62 w' w.heap.size (fun k_ => some k_ ≠ (s_.2.2.1 : Value).ownBlock) s_.2.2.2.1 y157) ∧ (w'.heap[gb146]? = some (.cells #[.int .i64 a1_0, .slice A1_1 l1_1.length c1_1] 47 (0, 0))) ∧ (w'.heap[gb147]? = some (.cells #[.int .i64 0, .slice none 0 0] 47 (0, 0))) ∧ (w'.heap[s_.2.2.2.2]? = some (.cells #[.int .i64 0, .slice none 0 0] 47 (0, 0))) ∧ (w.heap.size ≤ s_.2.2.2.2) ∧ (w.heap.size ≤ s_.2.2.2.2) ∧ (gb146 ≠ s_.2.2.2.2) ∧ (s_.2.2.2.2 ≠ gb146) ∧ (gb147 ≠ s_.2.2.2.2) ∧ (s_.2.2.2.2 ≠ gb147) ∧ (Below w.heap.size w w')) ?_ ?_
     rotate_left
     ·intro hJ2_5_7_8_10
      refine join_ (σ := Value × Value × Value × Value) 2 #[true, true, true, true, true, true, true, true, true, true, false, false] (fun s_ => [(9, s_.1), (12, s_.2.1), (14, s_.2.2.1), (15, s_.2.2.2), (16, .agg #[.int .i64 a1_0, s_.2.2.2])]) (fun s_ w' => (w'.cell? ⟨gb146, 0, none⟩ = some (.int .i64 a1_0) ∧ w'.cell? ⟨gb146, 1, none⟩ = some (.slice A1_1 l1_1.length c1_1)) ∧ (Kd.R k62 62 w' w.heap.size (fun k_ => some k_ ≠ (s_.2.2.2 : Value).ownBlock) s_.2.2.1 y154) ∧ (Kd.R k62 62 w' w.heap.size (fun k_ => some k_ ≠ (s_.2.2.1 : Value).ownBlock) s_.2.2.2 y157) ∧ (w'.heap[gb146]? = some (.cells #[.int .i64 a1_0, .slice A1_1 l1_1.length c1_1] 47 (0, 0))) ∧ (w'.heap[gb147]? = some (.cells #[.int .i64 0, .slice none 0 0] 47 (0, 0))) ∧ (Below w.heap.size w w')) ?_ ?_
      rotate_left
      ·intro hJ2_5_7_8
       refine join_ (σ := Value × Value × Value × Nat) 3 #[true, true, true, true, true, true, true, true, false, false, true, false] (fun s_ => [(9, s_.1), (12, s_.2.1), (14, s_.2.2.1), (6, .pointer (some ⟨s_.2.2.2, 0, none⟩))]) (fun s_ w' => (w'.cell? ⟨gb146, 0, none⟩ = some (.int .i64 a1_0) ∧ w'.cell? ⟨gb146, 1, none⟩ = some (.slice A1_1 l1_1.length c1_1)) ∧ (Kd.R k62 62 w' w.heap.size (fun k_ => some k_ ≠ (s_.2.2.1 : Value).ownBlock) s_.2.1 y151) ∧ (Kd.R k62 62 w' w.heap.size (fun k_ => some k_ ≠ (s_.2.1 : Value).ownBlock) s_.2.2.1 y154) ∧ (w'.heap[gb146]? = some (.cells #[.int .i64 a1_0, .slice A1_1 l1_1.length c1_1] 47 (0, 0))) ∧ (w'.heap[gb147]? = some (.cells #[.int .i64 0, .slice none 0 0] 47 (0, 0))) ∧ (w'.heap[s_.2.2.2]? = some (.cells #[.int .i64 0, .slice none 0 0] 47 (0, 0))) ∧ (w.heap.size ≤ s_.2.2.2) ∧ (w.heap.size ≤ s_.2.2.2) ∧ (gb146 ≠ s_.2.2.2) ∧ (s_.2.2.2 ≠ gb146) ∧ (gb147 ≠ s_.2.2.2) ∧ (s_.2.2.2 ≠ gb147) ∧ (Below w.heap.size w w')) ?_ ?_
       rotate_left
       ·intro hJ2_5_7_10
        refine join_ (σ := Value × Value × Value) 4 #[true, true, true, true, true, true, true, true, false, false, false, false] (fun s_ => [(9, s_.1), (12, s_.2.1), (14, s_.2.2)]) (fun s_ w' => (w'.cell? ⟨gb146, 0, none⟩ = some (.int .i64 a1_0) ∧ w'.cell? ⟨gb146, 1, none⟩ = some (.slice A1_1 l1_1.length c1_1)) ∧ (Kd.R k62 62 w' w.heap.size (fun k_ => some k_ ≠ (s_.2.2 : Value).ownBlock) s_.2.1 y151) ∧ (Kd.R k62 62 w' w.heap.size (fun k_ => some k_ ≠ (s_.2.1 : Value).ownBlock) s_.2.2 y154) ∧ (w'.heap[gb146]? = some (.cells #[.int .i64 a1_0, .slice A1_1 l1_1.length c1_1] 47 (0, 0))) ∧ (w'.heap[gb147]? = some (.cells #[.int .i64 0, .slice none 0 0] 47 (0, 0))) ∧ (Below w.heap.size w w')) ?_ ?_
        rotate_left
        ·intro hJ2_5_7
         refine join_ (σ := Value × Value × Nat) 4 #[true, true, true, true, true, true, true, false, false, false, true, false] (fun s_ => [(9, s_.1), (12, s_.2.1), (6, .pointer (some ⟨s_.2.2, 0, none⟩))]) (fun s_ w' => (w'.cell? ⟨gb146, 0, none⟩ = some (.int .i64 a1_0) ∧ w'.cell? ⟨gb146, 1, none⟩ = some (.slice A1_1 l1_1.length c1_1)) ∧ (Kd.R k62 62 w' w.heap.size (fun _ => True) s_.2.1 y151) ∧ (w'.heap[gb146]? = some (.cells #[.int .i64 a1_0, .slice A1_1 l1_1.length c1_1] 47 (0, 0))) ∧ (w'.heap[gb147]? = some (.cells #[.int .i64 0, .slice none 0 0] 47 (0, 0))) ∧ (w'.heap[s_.2.2]? = some (.cells #[.int .i64 0, .slice none 0 0] 47 (0, 0))) ∧ (w.heap.size ≤ s_.2.2) ∧ (w.heap.size ≤ s_.2.2) ∧ (gb146 ≠ s_.2.2) ∧ (s_.2.2 ≠ gb146) ∧ (gb147 ≠ s_.2.2) ∧ (s_.2.2 ≠ gb147) ∧ (Below w.heap.size w w')) ?_ ?_
         rotate_left
         ·intro hJ2_5_10
          refine join_ (σ := Value × Value × Nat) 4 #[true, true, true, true, true, false, true, true, false, false, true, false] (fun s_ => [(9, s_.1), (14, s_.2.1), (6, .pointer (some ⟨s_.2.2, 0, none⟩))]) (fun s_ w' => (w'.cell? ⟨gb146, 0, none⟩ = some (.int .i64 a1_0) ∧ w'.cell? ⟨gb146, 1, none⟩ = some (.slice A1_1 l1_1.length c1_1)) ∧ (Kd.R k62 62 w' w.heap.size (fun k_ => some k_ ≠ (s_.2.1 : Value).ownBlock) s_.1 y148) ∧ (Kd.R k62 62 w' w.heap.size (fun k_ => some k_ ≠ (s_.1 : Value).ownBlock) s_.2.1 y154) ∧ (w'.heap[gb146]? = some (.cells #[.int .i64 a1_0, .slice A1_1 l1_1.length c1_1] 47 (0, 0))) ∧ (w'.heap[gb147]? = some (.cells #[.int .i64 0, .slice none 0 0] 47 (0, 0))) ∧ (w'.heap[s_.2.2]? = some (.cells #[.int .i64 0, .slice none 0 0] 47 (0, 0))) ∧ (w.heap.size ≤ s_.2.2) ∧ (w.heap.size ≤ s_.2.2) ∧ (gb146 ≠ s_.2.2) ∧ (s_.2.2 ≠ gb146) ∧ (gb147 ≠ s_.2.2) ∧ (s_.2.2 ≠ gb147) ∧ (Below w.heap.size w w')) ?_ ?_
          rotate_left
          ·intro hJ2_7_10
           refine join_ (σ := Value × Value) 5 #[true, true, true, true, true, true, true, false, false, false, false, false] (fun s_ => [(9, s_.1), (12, s_.2)]) (fun s_ w' => (w'.cell? ⟨gb146, 0, none⟩ = some (.int .i64 a1_0) ∧ w'.cell? ⟨gb146, 1, none⟩ = some (.slice A1_1 l1_1.length c1_1)) ∧ (Kd.R k62 62 w' w.heap.size (fun _ => True) s_.2 y151) ∧ (w'.heap[gb146]? = some (.cells #[.int .i64 a1_0, .slice A1_1 l1_1.length c1_1] 47 (0, 0))) ∧ (w'.heap[gb147]? = some (.cells #[.int .i64 0, .slice none 0 0] 47 (0, 0))) ∧ (Below w.heap.size w w')) ?_ ?_
           rotate_left
           ·intro hJ2_5
            refine join_ (σ := Value × Value) 5 #[true, true, true, true, true, false, true, true, false, false, false, false] (fun s_ => [(9, s_.1), (14, s_.2)]) (fun s_ w' => (w'.cell? ⟨gb146, 0, none⟩ = some (.int .i64 a1_0) ∧ w'.cell? ⟨gb146, 1, none⟩ = some (.slice A1_1 l1_1.length c1_1)) ∧ (Kd.R k62 62 w' w.heap.size (fun k_ => some k_ ≠ (s_.2 : Value).ownBlock) s_.1 y148) ∧ (Kd.R k62 62 w' w.heap.size (fun k_ => some k_ ≠ (s_.1 : Value).ownBlock) s_.2 y154) ∧ (w'.heap[gb146]? = some (.cells #[.int .i64 a1_0, .slice A1_1 l1_1.length c1_1] 47 (0, 0))) ∧ (w'.heap[gb147]? = some (.cells #[.int .i64 0, .slice none 0 0] 47 (0, 0))) ∧ (Below w.heap.size w w')) ?_ ?_
            rotate_left
            ·intro hJ2_7
             refine join_ (σ := Value × Nat) 5 #[true, true, true, true, true, false, true, false, false, false, true, false] (fun s_ => [(9, s_.1), (6, .pointer (some ⟨s_.2, 0, none⟩))]) (fun s_ w' => (w'.cell? ⟨gb146, 0, none⟩ = some (.int .i64 a1_0) ∧ w'.cell? ⟨gb146, 1, none⟩ = some (.slice A1_1 l1_1.length c1_1)) ∧ (Kd.R k62 62 w' w.heap.size (fun _ => True) s_.1 y148) ∧ (w'.heap[gb146]? = some (.cells #[.int .i64 a1_0, .slice A1_1 l1_1.length c1_1] 47 (0, 0))) ∧ (w'.heap[gb147]? = some (.cells #[.int .i64 0, .slice none 0 0] 47 (0, 0))) ∧ (w'.heap[s_.2]? = some (.cells #[.int .i64 0, .slice none 0 0] 47 (0, 0))) ∧ (w.heap.size ≤ s_.2) ∧ (w.heap.size ≤ s_.2) ∧ (gb146 ≠ s_.2) ∧ (s_.2 ≠ gb146) ∧ (gb147 ≠ s_.2) ∧ (s_.2 ≠ gb147) ∧ (Below w.heap.size w w')) ?_ ?_
             rotate_left
             ·intro hJ2_10
              refine join_ (σ := Value × Nat) 5 #[true, true, false, true, true, false, true, true, false, false, true, false] (fun s_ => [(14, s_.1), (6, .pointer (some ⟨s_.2, 0, none⟩))]) (fun s_ w' => (w'.cell? ⟨gb146, 0, none⟩ = some (.int .i64 a1_0) ∧ w'.cell? ⟨gb146, 1, none⟩ = some (.slice A1_1 l1_1.length c1_1)) ∧ (Kd.R k62 62 w' w.heap.size (fun _ => True) s_.1 y154) ∧ (w'.heap[gb146]? = some (.cells #[.int .i64 a1_0, .slice A1_1 l1_1.length c1_1] 47 (0, 0))) ∧ (w'.heap[gb147]? = some (.cells #[.int .i64 0, .slice none 0 0] 47 (0, 0))) ∧ (w'.heap[s_.2]? = some (.cells #[.int .i64 0, .slice none 0 0] 47 (0, 0))) ∧ (w.heap.size ≤ s_.2) ∧ (w.heap.size ≤ s_.2) ∧ (gb146 ≠ s_.2) ∧ (s_.2 ≠ gb146) ∧ (gb147 ≠ s_.2) ∧ (s_.2 ≠ gb147) ∧ (Below w.heap.size w w')) ?_ ?_
              rotate_left
              ·intro hJ7_10
               refine join_ (σ := Value) 6 #[true, true, true, true, true, false, true, false, false, false, false, false] (fun s_ => [(9, s_)]) (fun s_ w' => (w'.cell? ⟨gb146, 0, none⟩ = some (.int .i64 a1_0) ∧ w'.cell? ⟨gb146, 1, none⟩ = some (.slice A1_1 l1_1.length c1_1)) ∧ (Kd.R k62 62 w' w.heap.size (fun _ => True) s_ y148) ∧ (w'.heap[gb146]? = some (.cells #[.int .i64 a1_0, .slice A1_1 l1_1.length c1_1] 47 (0, 0))) ∧ (w'.heap[gb147]? = some (.cells #[.int .i64 0, .slice none 0 0] 47 (0, 0))) ∧ (Below w.heap.size w w')) ?_ ?_
               rotate_left
               ·intro hJ2
                refine join_ (σ := Value) 6 #[true, true, false, true, true, false, true, true, false, false, false, false] (fun s_ => [(14, s_)]) (fun s_ w' => (w'.cell? ⟨gb146, 0, none⟩ = some (.int .i64 a1_0) ∧ w'.cell? ⟨gb146, 1, none⟩ = some (.slice A1_1 l1_1.length c1_1)) ∧ (Kd.R k62 62 w' w.heap.size (fun _ => True) s_ y154) ∧ (w'.heap[gb146]? = some (.cells #[.int .i64 a1_0, .slice A1_1 l1_1.length c1_1] 47 (0, 0))) ∧ (w'.heap[gb147]? = some (.cells #[.int .i64 0, .slice none 0 0] 47 (0, 0))) ∧ (Below w.heap.size w w')) ?_ ?_
                rotate_left
                ·intro hJ7
                 refine join_ (σ := Nat) 6 #[true, true, false, true, true, false, true, false, false, false, true, false] (fun s_ => [(6, .pointer (some ⟨s_, 0, none⟩))]) (fun s_ w' => (w'.cell? ⟨gb146, 0, none⟩ = some (.int .i64 a1_0) ∧ w'.cell? ⟨gb146, 1, none⟩ = some (.slice A1_1 l1_1.length c1_1)) ∧ (w'.heap[gb146]? = some (.cells #[.int .i64 a1_0, .slice A1_1 l1_1.length c1_1] 47 (0, 0))) ∧ (w'.heap[gb147]? = some (.cells #[.int .i64 0, .slice none 0 0] 47 (0, 0))) ∧ (w'.heap[s_]? = some (.cells #[.int .i64 0, .slice none 0 0] 47 (0, 0))) ∧ (w.heap.size ≤ s_) ∧ (w.heap.size ≤ s_) ∧ (gb146 ≠ s_) ∧ (s_ ≠ gb146) ∧ (gb147 ≠ s_) ∧ (s_ ≠ gb147) ∧ (Below w.heap.size w w')) ?_ ?_
                 rotate_left
                 ·intro hJ10
                  refine three_ (i := 2) (j := 7) (k := 10) (Ni := some 9) (Nj := some 14) (Nk := some 6) #[true, true, true, true, true, false, true, false, false, false, false, false] #[true, true, false, true, true, false, true, true, false, false, false, false] #[true, true, false, true, true, false, true, false, false, false, true, false] rfl rfl rfl rfl rfl rfl (three_of HT_.out (by kernel_rfl)) (by decide) (by decide) (by decide) (fun K hK => ?_) (fun K hK => ?_) (fun K hK => ?_)
                  ·skip
                   refine Kd.R_lit_step k62 _ 62 ?hg (N := 9) ?hd (xs := ([] : List (S62))) (inner := []) (ok := fun _ => True) (okp := fun _ => True) ?hr ?hp (fun _ hk => hk) trivial (Below.refl _ _) (Nat.le_refl _) (by simp) ?_; (case hd => rfl); (case hg => rfl); (case hr => first | (go_simp; done) | (go_simp; rfl)); (case hp => exact (Reps.none _ _))
                   intro v149 w37 ho38 hb hg_ hnew_
                   clear hg_ hnew_
                   (first | rw [← Ny148.out] at ho38 | (simp only [Int.reduceToNat] at ho38; rw [← Ny148.out] at ho38))
                   have n0_ := Aside0.mk (Kd.R_lower ho38 (below_size pwz_))
                   have n1_ := Aside0.mk (blk_below (g := gb146) (o := .cells #[.int .i64 a1_0, .slice A1_1 l1_1.length c1_1] 47 (0, 0)) pwl_ hb)
                   have n2_ := Aside0.mk (blk_below (g := gb147) (o := .cells #[.int .i64 0, .slice none 0 0] 47 (0, 0)) pwm_ hb)
                   have n3_ := Aside0.mk (below_step pwz_ hb)
                   clear BK146
                   clear BK147
                   clear HB
                   have HO150 := n0_
                   have BK146 := n1_
                   have BK147 := n2_
                   have HB := n3_
                   clear n0_ n1_ n2_ n3_
                   clear hb ho38
                   refine hK.out _ _ ⟨(blk_cell BK146.out 0).trans rfl, (blk_cell BK146.out 1).trans rfl⟩ (fun hHeld => ?_)
                   clear hK K
                   refine norm_ (a' := ?_) ?_ ?_
                   rotate_left
                   ·show Act.put _ (some 9) _ = _
                    simp only [Act.put, List.setIfInBounds_toArray, List.set_cons_zero, List.set_cons_succ, i64_w, i32_w]
                    rfl
                   exact norm_ pwbb_ (hJ2 (v149) _ ⟨hHeld, (by (with_reducible repeat apply Kd.R_alloc); exact HO150.out), pwl_, pwm_, pwz_⟩)
                  ·skip
                   refine Kd.R_lit_step k62 _ 62 ?hg (N := 14) ?hd (xs := ([(⟨2, 0⟩ : S62)] : List (S62))) (inner := [.int .i64 2, .int .i64 0]) (ok := fun _ => True) (okp := fun _ => True) ?hr ?hp (fun _ hk => hk) trivial (Below.refl _ _) (Nat.le_refl _) (by simp) ?_; (case hd => rfl); (case hg => rfl); (case hr => first | (go_simp; done) | (go_simp; rfl)); (case hp => exact (Reps.c2 (show Kd.M k62 _ _ _ (⟨2, 0⟩ : S62) [.int .i64 2, .int .i64 0] from (k62_mkM _ _ _ (⟨2, 0⟩ : S62) )) (Reps.none _ _)))
                   intro v155 w37 ho38 hb hg_ hnew_
                   clear hg_ hnew_
                   (first | rw [← Ny154.out] at ho38 | (simp only [Int.reduceToNat] at ho38; rw [← Ny154.out] at ho38))
                   have n0_ := Aside0.mk (Kd.R_lower ho38 (below_size pwz_))
                   have n1_ := Aside0.mk (blk_below (g := gb146) (o := .cells #[.int .i64 a1_0, .slice A1_1 l1_1.length c1_1] 47 (0, 0)) pwl_ hb)
                   have n2_ := Aside0.mk (blk_below (g := gb147) (o := .cells #[.int .i64 0, .slice none 0 0] 47 (0, 0)) pwm_ hb)
                   have n3_ := Aside0.mk (below_step pwz_ hb)
                   clear BK146
                   clear BK147
                   clear HB
                   have HO156 := n0_
                   have BK146 := n1_
                   have BK147 := n2_
                   have HB := n3_
                   clear n0_ n1_ n2_ n3_
                   clear hb ho38
                   refine hK.out _ _ ⟨(blk_cell BK146.out 0).trans rfl, (blk_cell BK146.out 1).trans rfl⟩ (fun hHeld => ?_)
                   clear hK K
                   refine norm_ (a' := ?_) ?_ ?_
                   rotate_left
                   ·show Act.put _ (some 14) _ = _
                    simp only [Act.put, List.setIfInBounds_toArray, List.set_cons_zero, List.set_cons_succ, i64_w, i32_w]
                    rfl
                   exact norm_ pwbb_ (hJ7 (v155) _ ⟨hHeld, (by (with_reducible repeat apply Kd.R_alloc); exact HO156.out), pwl_, pwm_, pwz_⟩)
                  ·skip
                   refine box_step ?hg (N := 6) ?hd (cs := #[.int .i64 0, .slice none 0 0]) (t := 47) ?hr ?_; (case hd => rfl); (case hg => rfl); (case hr => first | (go_simp; done) | (go_simp; rfl))
                   intro gb160 hg w37 hbox hb
                   have n0_ := Aside0.mk (blk_below (g := gb146) (o := .cells #[.int .i64 a1_0, .slice A1_1 l1_1.length c1_1] 47 (0, 0)) pwl_ hb)
                   have n1_ := Aside0.mk (blk_below (g := gb147) (o := .cells #[.int .i64 0, .slice none 0 0] 47 (0, 0)) pwm_ hb)
                   have n2_ := Aside0.mk (below_step pwz_ hb)
                   have n3_ := Aside0.mk (hbox)
                   have n4_ := Aside0.mk ((by rw [hg]; exact (below_size pwz_) : w.heap.size ≤ gb160))
                   have n5_ := Aside0.mk ((by rw [hg]; exact (below_size pwz_) : w.heap.size ≤ gb160))
                   have n6_ := Aside0.mk ((by rw [hg]; exact Nat.ne_of_lt (blk_lt (g := gb146) (o := .cells #[.int .i64 a1_0, .slice A1_1 l1_1.length c1_1] 47 (0, 0)) pwl_) : gb146 ≠ gb160))
                   have n7_ := Aside0.mk ((by rw [hg]; exact Nat.ne_of_gt (blk_lt (g := gb146) (o := .cells #[.int .i64 a1_0, .slice A1_1 l1_1.length c1_1] 47 (0, 0)) pwl_) : gb160 ≠ gb146))
                   have n8_ := Aside0.mk ((by rw [hg]; exact Nat.ne_of_lt (blk_lt (g := gb147) (o := .cells #[.int .i64 0, .slice none 0 0] 47 (0, 0)) pwm_) : gb147 ≠ gb160))
                   have n9_ := Aside0.mk ((by rw [hg]; exact Nat.ne_of_gt (blk_lt (g := gb147) (o := .cells #[.int .i64 0, .slice none 0 0] 47 (0, 0)) pwm_) : gb160 ≠ gb147))
                   clear BK146
                   clear BK147
                   clear HB
                   have BK146 := n0_
                   have BK147 := n1_
                   have HB := n2_
                   have BK160 := n3_
                   have GW160 := n4_
                   have GE160 := n5_
                   have NB146_160 := n6_
                   have NB160_146 := n7_
                   have NB147_160 := n8_
                   have NB160_147 := n9_
                   clear n0_ n1_ n2_ n3_ n4_ n5_ n6_ n7_ n8_ n9_
                   clear hb hbox hg
                   refine hK.out _ _ ⟨(blk_cell BK146.out 0).trans rfl, (blk_cell BK146.out 1).trans rfl⟩ (fun hHeld => ?_)
                   clear hK K
                   refine norm_ (a' := ?_) ?_ ?_
                   rotate_left
                   ·show Act.put _ (some 6) _ = _
                    simp only [Act.put, List.setIfInBounds_toArray, List.set_cons_zero, List.set_cons_succ, i64_w, i32_w]
                    rfl
                   exact norm_ pwbb_ (hJ10 (gb160) _ ⟨hHeld, pwl_, pwm_, pwn_, GW160.out, GE160.out, NB146_160.out, NB160_146.out, NB147_160.out, NB160_147.out, pwdd_⟩)
                 ·skip
                  rintro gb160 w38 ⟨hS_, h0_, h1_, h2_, h3_, h4_, h5_, h6_, h7_, h8_, h9_⟩
                  have n0_ : Aside0 (w38.heap[gb146]? = some (.cells #[.int .i64 a1_0, .slice A1_1 l1_1.length c1_1] 47 (0, 0))) := ⟨h0_⟩
                  have n1_ : Aside0 (w38.heap[gb147]? = some (.cells #[.int .i64 0, .slice none 0 0] 47 (0, 0))) := ⟨h1_⟩
                  have n2_ : Aside0 (w38.heap[gb160]? = some (.cells #[.int .i64 0, .slice none 0 0] 47 (0, 0))) := ⟨h2_⟩
                  have n3_ : Aside0 (w.heap.size ≤ gb160) := ⟨h3_⟩
                  have n4_ : Aside0 (w.heap.size ≤ gb160) := ⟨h4_⟩
                  have n5_ : Aside0 (gb146 ≠ gb160) := ⟨h5_⟩
                  have n6_ : Aside0 (gb160 ≠ gb146) := ⟨h6_⟩
                  have n7_ : Aside0 (gb147 ≠ gb160) := ⟨h7_⟩
                  have n8_ : Aside0 (gb160 ≠ gb147) := ⟨h8_⟩
                  have n9_ : Aside0 (Below w.heap.size w w38) := ⟨h9_⟩
                  clear BK146
                  clear BK147
                  clear HB
                  clear h0_ h1_ h2_ h3_ h4_ h5_ h6_ h7_ h8_ h9_
                  have BK146 := n0_
                  have BK147 := n1_
                  have BK160 := n2_
                  have GW160 := n3_
                  have GE160 := n4_
                  have NB146_160 := n5_
                  have NB160_146 := n6_
                  have NB147_160 := n7_
                  have NB160_147 := n8_
                  have HB := n9_
                  clear n0_ n1_ n2_ n3_ n4_ n5_ n6_ n7_ n8_ n9_
                  have hHeld : w38.cell? ⟨gb146, 0, none⟩ = some (.int .i64 a1_0) ∧ w38.cell? ⟨gb146, 1, none⟩ = some (.slice A1_1 l1_1.length c1_1) := hS_
                  refine norm_ (a' := ?_) ?_ ?_
                  rotate_left
                  ·simp only [putAll, Act.put, List.setIfInBounds_toArray, List.set_cons_zero, List.set_cons_succ]
                   rfl
                  refine two_ (i := 2) (j := 7) (Ni := some 9) (Nj := some 14) #[true, true, true, true, true, false, true, false, false, false, true, false] #[true, true, false, true, true, false, true, true, false, false, true, false] rfl rfl rfl rfl (two_of HT_.out (by kernel_rfl)) (by decide) (by decide) (fun K hK => ?_) (fun K hK => ?_)
                  ·skip
                   refine Kd.R_lit_step k62 _ 62 ?hg (N := 9) ?hd (xs := ([] : List (S62))) (inner := []) (ok := fun _ => True) (okp := fun _ => True) ?hr ?hp (fun _ hk => hk) trivial (Below.refl _ _) (Nat.le_refl _) (by simp) ?_; (case hd => rfl); (case hg => rfl); (case hr => first | (go_simp; done) | (go_simp; rfl)); (case hp => exact (Reps.none _ _))
                   intro v149 w39 ho40 hb hg_ hnew_
                   clear hg_ hnew_
                   (first | rw [← Ny148.out] at ho40 | (simp only [Int.reduceToNat] at ho40; rw [← Ny148.out] at ho40))
                   have n0_ := Aside0.mk (Kd.R_lower ho40 (below_size pwdd_))
                   have n1_ := Aside0.mk (blk_below (g := gb146) (o := .cells #[.int .i64 a1_0, .slice A1_1 l1_1.length c1_1] 47 (0, 0)) pwl_ hb)
                   have n2_ := Aside0.mk (blk_below (g := gb147) (o := .cells #[.int .i64 0, .slice none 0 0] 47 (0, 0)) pwm_ hb)
                   have n3_ := Aside0.mk (blk_below (g := gb160) (o := .cells #[.int .i64 0, .slice none 0 0] 47 (0, 0)) pwn_ hb)
                   have n4_ := Aside0.mk (below_step pwdd_ hb)
                   clear BK146
                   clear BK147
                   clear BK160
                   clear HB
                   have HO150 := n0_
                   have BK146 := n1_
                   have BK147 := n2_
                   have BK160 := n3_
                   have HB := n4_
                   clear n0_ n1_ n2_ n3_ n4_
                   clear hb ho40
                   refine hK.out _ _ ⟨(blk_cell BK146.out 0).trans rfl, (blk_cell BK146.out 1).trans rfl⟩ (fun hHeld => ?_)
                   clear hK K
                   refine norm_ (a' := ?_) ?_ ?_
                   rotate_left
                   ·show Act.put _ (some 9) _ = _
                    simp only [Act.put, List.setIfInBounds_toArray, List.set_cons_zero, List.set_cons_succ, i64_w, i32_w]
                    rfl
                   exact norm_ pwbb_ (hJ2_10 (v149, gb160) _ ⟨hHeld, (by (with_reducible repeat apply Kd.R_alloc); exact HO150.out), pwl_, pwm_, pwn_, GW160.out, GE160.out, NB146_160.out, NB160_146.out, NB147_160.out, NB160_147.out, pwdd_⟩)
                  ·skip
                   refine Kd.R_lit_step k62 _ 62 ?hg (N := 14) ?hd (xs := ([(⟨2, 0⟩ : S62)] : List (S62))) (inner := [.int .i64 2, .int .i64 0]) (ok := fun _ => True) (okp := fun _ => True) ?hr ?hp (fun _ hk => hk) trivial (Below.refl _ _) (Nat.le_refl _) (by simp) ?_; (case hd => rfl); (case hg => rfl); (case hr => first | (go_simp; done) | (go_simp; rfl)); (case hp => exact (Reps.c2 (show Kd.M k62 _ _ _ (⟨2, 0⟩ : S62) [.int .i64 2, .int .i64 0] from (k62_mkM _ _ _ (⟨2, 0⟩ : S62) )) (Reps.none _ _)))
                   intro v155 w39 ho40 hb hg_ hnew_
                   clear hg_ hnew_
                   (first | rw [← Ny154.out] at ho40 | (simp only [Int.reduceToNat] at ho40; rw [← Ny154.out] at ho40))
                   have n0_ := Aside0.mk (Kd.R_lower ho40 (below_size pwdd_))
                   have n1_ := Aside0.mk (blk_below (g := gb146) (o := .cells #[.int .i64 a1_0, .slice A1_1 l1_1.length c1_1] 47 (0, 0)) pwl_ hb)
                   have n2_ := Aside0.mk (blk_below (g := gb147) (o := .cells #[.int .i64 0, .slice none 0 0] 47 (0, 0)) pwm_ hb)
                   have n3_ := Aside0.mk (blk_below (g := gb160) (o := .cells #[.int .i64 0, .slice none 0 0] 47 (0, 0)) pwn_ hb)
                   have n4_ := Aside0.mk (below_step pwdd_ hb)
                   clear BK146
                   clear BK147
                   clear BK160
                   clear HB
                   have HO156 := n0_
                   have BK146 := n1_
                   have BK147 := n2_
                   have BK160 := n3_
                   have HB := n4_
                   clear n0_ n1_ n2_ n3_ n4_
                   clear hb ho40
                   refine hK.out _ _ ⟨(blk_cell BK146.out 0).trans rfl, (blk_cell BK146.out 1).trans rfl⟩ (fun hHeld => ?_)
                   clear hK K
                   refine norm_ (a' := ?_) ?_ ?_
                   rotate_left
                   ·show Act.put _ (some 14) _ = _
                    simp only [Act.put, List.setIfInBounds_toArray, List.set_cons_zero, List.set_cons_succ, i64_w, i32_w]
                    rfl
                   exact norm_ pwbb_ (hJ7_10 (v155, gb160) _ ⟨hHeld, (by (with_reducible repeat apply Kd.R_alloc); exact HO156.out), pwl_, pwm_, pwn_, GW160.out, GE160.out, NB146_160.out, NB160_146.out, NB147_160.out, NB160_147.out, pwdd_⟩)
                ·skip
                 rintro v155 w39 ⟨hS_, h0_, h1_, h2_, h3_⟩
                 have n0_ : Aside0 (Kd.R k62 62 w39 w.heap.size (fun _ => True) v155 y154) := ⟨h0_⟩
                 have n1_ : Aside0 (w39.heap[gb146]? = some (.cells #[.int .i64 a1_0, .slice A1_1 l1_1.length c1_1] 47 (0, 0))) := ⟨h1_⟩
                 have n2_ : Aside0 (w39.heap[gb147]? = some (.cells #[.int .i64 0, .slice none 0 0] 47 (0, 0))) := ⟨h2_⟩
                 have n3_ : Aside0 (Below w.heap.size w w39) := ⟨h3_⟩
                 clear BK146
                 clear BK147
                 clear HB
                 clear h0_ h1_ h2_ h3_
                 have HO156 := n0_
                 have BK146 := n1_
                 have BK147 := n2_
                 have HB := n3_
                 clear n0_ n1_ n2_ n3_
                 have hHeld : w39.cell? ⟨gb146, 0, none⟩ = some (.int .i64 a1_0) ∧ w39.cell? ⟨gb146, 1, none⟩ = some (.slice A1_1 l1_1.length c1_1) := hS_
                 refine norm_ (a' := ?_) ?_ ?_
                 rotate_left
                 ·simp only [putAll, Act.put, List.setIfInBounds_toArray, List.set_cons_zero, List.set_cons_succ]
                  rfl
                 refine two_ (i := 2) (j := 10) (Ni := some 9) (Nj := some 6) #[true, true, true, true, true, false, true, true, false, false, false, false] #[true, true, false, true, true, false, true, true, false, false, true, false] rfl rfl rfl rfl (two_of HT_.out (by kernel_rfl)) (by decide) (by decide) (fun K hK => ?_) (fun K hK => ?_)
                 ·skip
                  refine Kd.R_lit_step k62 _ 62 ?hg (N := 9) ?hd (xs := ([] : List (S62))) (inner := []) (ok := fun _ => True) (okp := fun _ => True) ?hr ?hp (fun _ hk => hk) trivial (Below.refl _ _) (Nat.le_refl _) (by simp) ?_; (case hd => rfl); (case hg => rfl); (case hr => first | (go_simp; done) | (go_simp; rfl)); (case hp => exact (Reps.none _ _))
                  intro v149 w40 ho41 hb hg_ hnew_
                  clear hg_ hnew_
                  (first | rw [← Ny148.out] at ho41 | (simp only [Int.reduceToNat] at ho41; rw [← Ny148.out] at ho41))
                  have n0_ := Aside0.mk (Kd.R_elder' (by (with_reducible repeat apply Kd.R_alloc); exact HO156.out) (Kd.R_base ho41) hb)
                  have n1_ := Aside0.mk (Kd.R_lower (Kd.R_new' ho41 (Kd.R_lt (by (with_reducible repeat apply Kd.R_alloc); exact HO156.out))) (below_size pwz_))
                  have n2_ := Aside0.mk (blk_below (g := gb146) (o := .cells #[.int .i64 a1_0, .slice A1_1 l1_1.length c1_1] 47 (0, 0)) pwl_ hb)
                  have n3_ := Aside0.mk (blk_below (g := gb147) (o := .cells #[.int .i64 0, .slice none 0 0] 47 (0, 0)) pwm_ hb)
                  have n4_ := Aside0.mk (below_step pwz_ hb)
                  clear HO156
                  clear BK146
                  clear BK147
                  clear HB
                  have HO156 := n0_
                  have HO150 := n1_
                  have BK146 := n2_
                  have BK147 := n3_
                  have HB := n4_
                  clear n0_ n1_ n2_ n3_ n4_
                  clear hb ho41
                  refine hK.out _ _ ⟨(blk_cell BK146.out 0).trans rfl, (blk_cell BK146.out 1).trans rfl⟩ (fun hHeld => ?_)
                  clear hK K
                  refine norm_ (a' := ?_) ?_ ?_
                  rotate_left
                  ·show Act.put _ (some 9) _ = _
                   simp only [Act.put, List.setIfInBounds_toArray, List.set_cons_zero, List.set_cons_succ, i64_w, i32_w]
                   rfl
                  exact norm_ pwbb_ (hJ2_7 (v149, v155) _ ⟨hHeld, (by (with_reducible repeat apply Kd.R_alloc); exact Kd.R_mono HO150.out (fun _ hk => hk.2)), (by (with_reducible repeat apply Kd.R_alloc); exact Kd.R_mono HO156.out (fun _ hk => hk.2)), pwl_, pwm_, pwz_⟩)
                 ·skip
                  refine box_step ?hg (N := 6) ?hd (cs := #[.int .i64 0, .slice none 0 0]) (t := 47) ?hr ?_; (case hd => rfl); (case hg => rfl); (case hr => first | (go_simp; done) | (go_simp; rfl))
                  intro gb160 hg w40 hbox hb
                  have n0_ := Aside0.mk (Kd.R_below (by (with_reducible repeat apply Kd.R_alloc); exact HO156.out) hb)
                  have n1_ := Aside0.mk (blk_below (g := gb146) (o := .cells #[.int .i64 a1_0, .slice A1_1 l1_1.length c1_1] 47 (0, 0)) pwl_ hb)
                  have n2_ := Aside0.mk (blk_below (g := gb147) (o := .cells #[.int .i64 0, .slice none 0 0] 47 (0, 0)) pwm_ hb)
                  have n3_ := Aside0.mk (below_step pwz_ hb)
                  have n4_ := Aside0.mk (hbox)
                  have n5_ := Aside0.mk ((by rw [hg]; exact (below_size pwz_) : w.heap.size ≤ gb160))
                  have n6_ := Aside0.mk ((by rw [hg]; exact (below_size pwz_) : w.heap.size ≤ gb160))
                  have n7_ := Aside0.mk ((by rw [hg]; exact Nat.ne_of_lt (blk_lt (g := gb146) (o := .cells #[.int .i64 a1_0, .slice A1_1 l1_1.length c1_1] 47 (0, 0)) pwl_) : gb146 ≠ gb160))
                  have n8_ := Aside0.mk ((by rw [hg]; exact Nat.ne_of_gt (blk_lt (g := gb146) (o := .cells #[.int .i64 a1_0, .slice A1_1 l1_1.length c1_1] 47 (0, 0)) pwl_) : gb160 ≠ gb146))
                  have n9_ := Aside0.mk ((by rw [hg]; exact Nat.ne_of_lt (blk_lt (g := gb147) (o := .cells #[.int .i64 0, .slice none 0 0] 47 (0, 0)) pwm_) : gb147 ≠ gb160))
                  have n10_ := Aside0.mk ((by rw [hg]; exact Nat.ne_of_gt (blk_lt (g := gb147) (o := .cells #[.int .i64 0, .slice none 0 0] 47 (0, 0)) pwm_) : gb160 ≠ gb147))
                  clear HO156
                  clear BK146
                  clear BK147
                  clear HB
                  have HO156 := n0_
                  have BK146 := n1_
                  have BK147 := n2_
                  have HB := n3_
                  have BK160 := n4_
                  have GW160 := n5_
                  have GE160 := n6_
                  have NB146_160 := n7_
                  have NB160_146 := n8_
                  have NB147_160 := n9_
                  have NB160_147 := n10_
                  clear n0_ n1_ n2_ n3_ n4_ n5_ n6_ n7_ n8_ n9_ n10_
                  clear hb hbox hg
                  refine hK.out _ _ ⟨(blk_cell BK146.out 0).trans rfl, (blk_cell BK146.out 1).trans rfl⟩ (fun hHeld => ?_)
                  clear hK K
                  refine norm_ (a' := ?_) ?_ ?_
                  rotate_left
                  ·show Act.put _ (some 6) _ = _
                   simp only [Act.put, List.setIfInBounds_toArray, List.set_cons_zero, List.set_cons_succ, i64_w, i32_w]
                   rfl
                  exact norm_ pwbb_ (hJ7_10 (v155, gb160) _ ⟨hHeld, (by (with_reducible repeat apply Kd.R_alloc); exact HO156.out), pwl_, pwm_, pwn_, GW160.out, GE160.out, NB146_160.out, NB160_146.out, NB147_160.out, NB160_147.out, pwdd_⟩)
               ·skip
                rintro v149 w39 ⟨hS_, h0_, h1_, h2_, h3_⟩
                have n0_ : Aside0 (Kd.R k62 62 w39 w.heap.size (fun _ => True) v149 y148) := ⟨h0_⟩
                have n1_ : Aside0 (w39.heap[gb146]? = some (.cells #[.int .i64 a1_0, .slice A1_1 l1_1.length c1_1] 47 (0, 0))) := ⟨h1_⟩
                have n2_ : Aside0 (w39.heap[gb147]? = some (.cells #[.int .i64 0, .slice none 0 0] 47 (0, 0))) := ⟨h2_⟩
                have n3_ : Aside0 (Below w.heap.size w w39) := ⟨h3_⟩
                clear BK146
                clear BK147
                clear HB
                clear h0_ h1_ h2_ h3_
                have HO150 := n0_
                have BK146 := n1_
                have BK147 := n2_
                have HB := n3_
                clear n0_ n1_ n2_ n3_
                have hHeld : w39.cell? ⟨gb146, 0, none⟩ = some (.int .i64 a1_0) ∧ w39.cell? ⟨gb146, 1, none⟩ = some (.slice A1_1 l1_1.length c1_1) := hS_
                refine norm_ (a' := ?_) ?_ ?_
                rotate_left
                ·simp only [putAll, Act.put, List.setIfInBounds_toArray, List.set_cons_zero, List.set_cons_succ]
                 rfl
                refine three_ (i := 5) (j := 7) (k := 10) (Ni := some 12) (Nj := some 14) (Nk := some 6) #[true, true, true, true, true, true, true, false, false, false, false, false] #[true, true, true, true, true, false, true, true, false, false, false, false] #[true, true, true, true, true, false, true, false, false, false, true, false] rfl rfl rfl rfl rfl rfl (three_of HT_.out (by kernel_rfl)) (by decide) (by decide) (by decide) (fun K hK => ?_) (fun K hK => ?_) (fun K hK => ?_)
                ·skip
                 refine Kd.R_append_rows_step k62 (w0 := w) w.heap.size (by rfl) (.tmp 9) (.tmp 11) 25 62 (.agg #[(.int .i64 0), (.int .i64 0)]) 16 rfl Try.underlying25 info62 rfl (by decide) (by omega) v149 y148 l1_1 _ _ _ (fun _ => True) (fun _ => False) rfl rfl ?aO ?aR (fun _ _ h => h) (fun _ h => h.elim) ?aF ?aB ?aS ?aL ?_
                 (case aR => repeat (first | exact (Kd.C_below HR1_1.out HB.out) | (with_reducible refine Kd.C_alloc ?_ _) | (with_reducible refine Kd.C_drewN ?_ _) | (with_reducible refine Kd.C_drew ?_)))
                 (case aB => exact pwz_)
                 (case aF => exact (fun _ _ => trivial))
                 (case aO => exact (by (with_reducible repeat apply Kd.R_alloc); exact HO150.out))
                 (case aS => exact (below_size pwz_))
                 (case aL => have := LMc3.out; omega)
                 intro v152 w40 ho hb hg hat
                 rw [← Ny151.out] at ho
                 have n0_ := Aside0.mk (blk_grown (g := gb146) (o := .cells #[.int .i64 a1_0, .slice A1_1 l1_1.length c1_1] 47 (0, 0)) pwl_ hg (Kd.R_ne HO150.out BK146.out (by decide)))
                 have n1_ := Aside0.mk (blk_grown (g := gb147) (o := .cells #[.int .i64 0, .slice none 0 0] 47 (0, 0)) pwm_ hg (Kd.R_ne HO150.out BK147.out (by decide)))
                 have n2_ := Aside0.mk (hb)
                 have n3_ := Aside0.mk (ho)
                 clear BK146
                 clear BK147
                 clear HB
                 clear HO150
                 have BK146 := n0_
                 have BK147 := n1_
                 have HB := n2_
                 have HO153 := n3_
                 clear n0_ n1_ n2_ n3_
                 clear ho hb hg hat
                 refine hK.out _ _ ⟨(blk_cell BK146.out 0).trans rfl, (blk_cell BK146.out 1).trans rfl⟩ (fun hHeld => ?_)
                 clear hK K
                 refine norm_ (a' := ?_) ?_ ?_
                 rotate_left
                 ·show Act.put _ (some 12) _ = _
                  simp only [Act.put, List.setIfInBounds_toArray, List.set_cons_zero, List.set_cons_succ, i64_w, i32_w]
                  rfl
                 exact norm_ pwbb_ (hJ2_5 (v149, v152) _ ⟨hHeld, (by (with_reducible repeat apply Kd.R_alloc); exact HO153.out), pwl_, pwm_, pwz_⟩)
                ·skip
                 refine Kd.R_lit_step k62 _ 62 ?hg (N := 14) ?hd (xs := ([(⟨2, 0⟩ : S62)] : List (S62))) (inner := [.int .i64 2, .int .i64 0]) (ok := fun _ => True) (okp := fun _ => True) ?hr ?hp (fun _ hk => hk) trivial (Below.refl _ _) (Nat.le_refl _) (by simp) ?_; (case hd => rfl); (case hg => rfl); (case hr => first | (go_simp; done) | (go_simp; rfl)); (case hp => exact (Reps.c2 (show Kd.M k62 _ _ _ (⟨2, 0⟩ : S62) [.int .i64 2, .int .i64 0] from (k62_mkM _ _ _ (⟨2, 0⟩ : S62) )) (Reps.none _ _)))
                 intro v155 w40 ho41 hb hg_ hnew_
                 clear hg_ hnew_
                 (first | rw [← Ny154.out] at ho41 | (simp only [Int.reduceToNat] at ho41; rw [← Ny154.out] at ho41))
                 have n0_ := Aside0.mk (Kd.R_elder' (by (with_reducible repeat apply Kd.R_alloc); exact HO150.out) (Kd.R_base ho41) hb)
                 have n1_ := Aside0.mk (Kd.R_lower (Kd.R_new' ho41 (Kd.R_lt (by (with_reducible repeat apply Kd.R_alloc); exact HO150.out))) (below_size pwz_))
                 have n2_ := Aside0.mk (blk_below (g := gb146) (o := .cells #[.int .i64 a1_0, .slice A1_1 l1_1.length c1_1] 47 (0, 0)) pwl_ hb)
                 have n3_ := Aside0.mk (blk_below (g := gb147) (o := .cells #[.int .i64 0, .slice none 0 0] 47 (0, 0)) pwm_ hb)
                 have n4_ := Aside0.mk (below_step pwz_ hb)
                 clear HO150
                 clear BK146
                 clear BK147
                 clear HB
                 have HO150 := n0_
                 have HO156 := n1_
                 have BK146 := n2_
                 have BK147 := n3_
                 have HB := n4_
                 clear n0_ n1_ n2_ n3_ n4_
                 clear hb ho41
                 refine hK.out _ _ ⟨(blk_cell BK146.out 0).trans rfl, (blk_cell BK146.out 1).trans rfl⟩ (fun hHeld => ?_)
                 clear hK K
                 refine norm_ (a' := ?_) ?_ ?_
                 rotate_left
                 ·show Act.put _ (some 14) _ = _
                  simp only [Act.put, List.setIfInBounds_toArray, List.set_cons_zero, List.set_cons_succ, i64_w, i32_w]
                  rfl
                 exact norm_ pwbb_ (hJ2_7 (v149, v155) _ ⟨hHeld, (by (with_reducible repeat apply Kd.R_alloc); exact Kd.R_mono HO150.out (fun _ hk => hk.2)), (by (with_reducible repeat apply Kd.R_alloc); exact Kd.R_mono HO156.out (fun _ hk => hk.2)), pwl_, pwm_, pwz_⟩)
                ·skip
                 refine box_step ?hg (N := 6) ?hd (cs := #[.int .i64 0, .slice none 0 0]) (t := 47) ?hr ?_; (case hd => rfl); (case hg => rfl); (case hr => first | (go_simp; done) | (go_simp; rfl))
                 intro gb160 hg w40 hbox hb
                 have n0_ := Aside0.mk (Kd.R_below (by (with_reducible repeat apply Kd.R_alloc); exact HO150.out) hb)
                 have n1_ := Aside0.mk (blk_below (g := gb146) (o := .cells #[.int .i64 a1_0, .slice A1_1 l1_1.length c1_1] 47 (0, 0)) pwl_ hb)
                 have n2_ := Aside0.mk (blk_below (g := gb147) (o := .cells #[.int .i64 0, .slice none 0 0] 47 (0, 0)) pwm_ hb)
                 have n3_ := Aside0.mk (below_step pwz_ hb)
                 have n4_ := Aside0.mk (hbox)
                 have n5_ := Aside0.mk ((by rw [hg]; exact (below_size pwz_) : w.heap.size ≤ gb160))
                 have n6_ := Aside0.mk ((by rw [hg]; exact (below_size pwz_) : w.heap.size ≤ gb160))
                 have n7_ := Aside0.mk ((by rw [hg]; exact Nat.ne_of_lt (blk_lt (g := gb146) (o := .cells #[.int .i64 a1_0, .slice A1_1 l1_1.length c1_1] 47 (0, 0)) pwl_) : gb146 ≠ gb160))
                 have n8_ := Aside0.mk ((by rw [hg]; exact Nat.ne_of_gt (blk_lt (g := gb146) (o := .cells #[.int .i64 a1_0, .slice A1_1 l1_1.length c1_1] 47 (0, 0)) pwl_) : gb160 ≠ gb146))
                 have n9_ := Aside0.mk ((by rw [hg]; exact Nat.ne_of_lt (blk_lt (g := gb147) (o := .cells #[.int .i64 0, .slice none 0 0] 47 (0, 0)) pwm_) : gb147 ≠ gb160))
                 have n10_ := Aside0.mk ((by rw [hg]; exact Nat.ne_of_gt (blk_lt (g := gb147) (o := .cells #[.int .i64 0, .slice none 0 0] 47 (0, 0)) pwm_) : gb160 ≠ gb147))
                 clear HO150
                 clear BK146
                 clear BK147
                 clear HB
                 have HO150 := n0_
                 have BK146 := n1_
                 have BK147 := n2_
                 have HB := n3_
                 have BK160 := n4_
                 have GW160 := n5_
                 have GE160 := n6_
                 have NB146_160 := n7_
                 have NB160_146 := n8_
                 have NB147_160 := n9_
                 have NB160_147 := n10_
                 clear n0_ n1_ n2_ n3_ n4_ n5_ n6_ n7_ n8_ n9_ n10_
                 clear hb hbox hg
                 refine hK.out _ _ ⟨(blk_cell BK146.out 0).trans rfl, (blk_cell BK146.out 1).trans rfl⟩ (fun hHeld => ?_)
                 clear hK K
                 refine norm_ (a' := ?_) ?_ ?_
                 rotate_left
                 ·show Act.put _ (some 6) _ = _
                  simp only [Act.put, List.setIfInBounds_toArray, List.set_cons_zero, List.set_cons_succ, i64_w, i32_w]
                  rfl
                 exact norm_ pwbb_ (hJ2_10 (v149, gb160) _ ⟨hHeld, (by (with_reducible repeat apply Kd.R_alloc); exact HO150.out), pwl_, pwm_, pwn_, GW160.out, GE160.out, NB146_160.out, NB160_146.out, NB147_160.out, NB160_147.out, pwdd_⟩)
              ·skip
               rintro ⟨v155, gb160⟩ w40 ⟨hS_, h0_, h1_, h2_, h3_, h4_, h5_, h6_, h7_, h8_, h9_, h10_⟩
               have n0_ : Aside0 (Kd.R k62 62 w40 w.heap.size (fun _ => True) v155 y154) := ⟨h0_⟩
               have n1_ : Aside0 (w40.heap[gb146]? = some (.cells #[.int .i64 a1_0, .slice A1_1 l1_1.length c1_1] 47 (0, 0))) := ⟨h1_⟩
               have n2_ : Aside0 (w40.heap[gb147]? = some (.cells #[.int .i64 0, .slice none 0 0] 47 (0, 0))) := ⟨h2_⟩
               have n3_ : Aside0 (w40.heap[gb160]? = some (.cells #[.int .i64 0, .slice none 0 0] 47 (0, 0))) := ⟨h3_⟩
               have n4_ : Aside0 (w.heap.size ≤ gb160) := ⟨h4_⟩
               have n5_ : Aside0 (w.heap.size ≤ gb160) := ⟨h5_⟩
               have n6_ : Aside0 (gb146 ≠ gb160) := ⟨h6_⟩
               have n7_ : Aside0 (gb160 ≠ gb146) := ⟨h7_⟩
               have n8_ : Aside0 (gb147 ≠ gb160) := ⟨h8_⟩
               have n9_ : Aside0 (gb160 ≠ gb147) := ⟨h9_⟩
               have n10_ : Aside0 (Below w.heap.size w w40) := ⟨h10_⟩
               clear BK146
               clear BK147
               clear HB
               clear h0_ h1_ h2_ h3_ h4_ h5_ h6_ h7_ h8_ h9_ h10_
               have HO156 := n0_
               have BK146 := n1_
               have BK147 := n2_
               have BK160 := n3_
               have GW160 := n4_
               have GE160 := n5_
               have NB146_160 := n6_
               have NB160_146 := n7_
               have NB147_160 := n8_
               have NB160_147 := n9_
               have HB := n10_
               clear n0_ n1_ n2_ n3_ n4_ n5_ n6_ n7_ n8_ n9_ n10_
               have hHeld : w40.cell? ⟨gb146, 0, none⟩ = some (.int .i64 a1_0) ∧ w40.cell? ⟨gb146, 1, none⟩ = some (.slice A1_1 l1_1.length c1_1) := hS_
               refine norm_ (a' := ?_) ?_ ?_
               rotate_left
               ·simp only [putAll, Act.put, List.setIfInBounds_toArray, List.set_cons_zero, List.set_cons_succ]
                rfl
               refine one_ (i := 2) (N := some 9) #[true, true, true, true, true, false, true, true, false, false, true, false] rfl rfl (one_of HT_.out (by kernel_rfl)) (by decide) (fun K hK => ?_)
               refine Kd.R_lit_step k62 _ 62 ?hg (N := 9) ?hd (xs := ([] : List (S62))) (inner := []) (ok := fun _ => True) (okp := fun _ => True) ?hr ?hp (fun _ hk => hk) trivial (Below.refl _ _) (Nat.le_refl _) (by simp) ?_; (case hd => rfl); (case hg => rfl); (case hr => first | (go_simp; done) | (go_simp; rfl)); (case hp => exact (Reps.none _ _))
               intro v149 w41 ho42 hb hg_ hnew_
               clear hg_ hnew_
               (first | rw [← Ny148.out] at ho42 | (simp only [Int.reduceToNat] at ho42; rw [← Ny148.out] at ho42))
               have n0_ := Aside0.mk (Kd.R_elder' (by (with_reducible repeat apply Kd.R_alloc); exact HO156.out) (Kd.R_base ho42) hb)
               have n1_ := Aside0.mk (Kd.R_lower (Kd.R_new' ho42 (Kd.R_lt (by (with_reducible repeat apply Kd.R_alloc); exact HO156.out))) (below_size pwdd_))
               have n2_ := Aside0.mk (blk_below (g := gb146) (o := .cells #[.int .i64 a1_0, .slice A1_1 l1_1.length c1_1] 47 (0, 0)) pwl_ hb)
               have n3_ := Aside0.mk (blk_below (g := gb147) (o := .cells #[.int .i64 0, .slice none 0 0] 47 (0, 0)) pwm_ hb)
               have n4_ := Aside0.mk (blk_below (g := gb160) (o := .cells #[.int .i64 0, .slice none 0 0] 47 (0, 0)) pwn_ hb)
               have n5_ := Aside0.mk (below_step pwdd_ hb)
               clear HO156
               clear BK146
               clear BK147
               clear BK160
               clear HB
               have HO156 := n0_
               have HO150 := n1_
               have BK146 := n2_
               have BK147 := n3_
               have BK160 := n4_
               have HB := n5_
               clear n0_ n1_ n2_ n3_ n4_ n5_
               clear hb ho42
               refine hK.out _ _ ⟨(blk_cell BK146.out 0).trans rfl, (blk_cell BK146.out 1).trans rfl⟩ (fun hHeld => ?_)
               clear hK K
               refine norm_ (a' := ?_) ?_ ?_
               rotate_left
               ·show Act.put _ (some 9) _ = _
                simp only [Act.put, List.setIfInBounds_toArray, List.set_cons_zero, List.set_cons_succ, i64_w, i32_w]
                rfl
               exact norm_ pwbb_ (hJ2_7_10 (v149, v155, gb160) _ ⟨hHeld, (by (with_reducible repeat apply Kd.R_alloc); exact Kd.R_mono HO150.out (fun _ hk => hk.2)), (by (with_reducible repeat apply Kd.R_alloc); exact Kd.R_mono HO156.out (fun _ hk => hk.2)), pwl_, pwm_, pwn_, GW160.out, GE160.out, NB146_160.out, NB160_146.out, NB147_160.out, NB160_147.out, pwdd_⟩)
             ·skip
              rintro ⟨v149, gb160⟩ w40 ⟨hS_, h0_, h1_, h2_, h3_, h4_, h5_, h6_, h7_, h8_, h9_, h10_⟩
              have n0_ : Aside0 (Kd.R k62 62 w40 w.heap.size (fun _ => True) v149 y148) := ⟨h0_⟩
              have n1_ : Aside0 (w40.heap[gb146]? = some (.cells #[.int .i64 a1_0, .slice A1_1 l1_1.length c1_1] 47 (0, 0))) := ⟨h1_⟩
              have n2_ : Aside0 (w40.heap[gb147]? = some (.cells #[.int .i64 0, .slice none 0 0] 47 (0, 0))) := ⟨h2_⟩
              have n3_ : Aside0 (w40.heap[gb160]? = some (.cells #[.int .i64 0, .slice none 0 0] 47 (0, 0))) := ⟨h3_⟩
              have n4_ : Aside0 (w.heap.size ≤ gb160) := ⟨h4_⟩
              have n5_ : Aside0 (w.heap.size ≤ gb160) := ⟨h5_⟩
              have n6_ : Aside0 (gb146 ≠ gb160) := ⟨h6_⟩
              have n7_ : Aside0 (gb160 ≠ gb146) := ⟨h7_⟩
              have n8_ : Aside0 (gb147 ≠ gb160) := ⟨h8_⟩
              have n9_ : Aside0 (gb160 ≠ gb147) := ⟨h9_⟩
              have n10_ : Aside0 (Below w.heap.size w w40) := ⟨h10_⟩
              clear BK146
              clear BK147
              clear HB
              clear h0_ h1_ h2_ h3_ h4_ h5_ h6_ h7_ h8_ h9_ h10_
              have HO150 := n0_
              have BK146 := n1_
              have BK147 := n2_
              have BK160 := n3_
              have GW160 := n4_
              have GE160 := n5_
              have NB146_160 := n6_
              have NB160_146 := n7_
              have NB147_160 := n8_
              have NB160_147 := n9_
              have HB := n10_
              clear n0_ n1_ n2_ n3_ n4_ n5_ n6_ n7_ n8_ n9_ n10_
              have hHeld : w40.cell? ⟨gb146, 0, none⟩ = some (.int .i64 a1_0) ∧ w40.cell? ⟨gb146, 1, none⟩ = some (.slice A1_1 l1_1.length c1_1) := hS_
              refine norm_ (a' := ?_) ?_ ?_
              rotate_left
              ·simp only [putAll, Act.put, List.setIfInBounds_toArray, List.set_cons_zero, List.set_cons_succ]
               rfl
              refine two_ (i := 5) (j := 7) (Ni := some 12) (Nj := some 14) #[true, true, true, true, true, true, true, false, false, false, true, false] #[true, true, true, true, true, false, true, true, false, false, true, false] rfl rfl rfl rfl (two_of HT_.out (by kernel_rfl)) (by decide) (by decide) (fun K hK => ?_) (fun K hK => ?_)
              ·skip
               refine Kd.R_append_rows_step k62 (w0 := w) w.heap.size (by rfl) (.tmp 9) (.tmp 11) 25 62 (.agg #[(.int .i64 0), (.int .i64 0)]) 16 rfl Try.underlying25 info62 rfl (by decide) (by omega) v149 y148 l1_1 _ _ _ (fun _ => True) (fun _ => False) rfl rfl ?aO ?aR (fun _ _ h => h) (fun _ h => h.elim) ?aF ?aB ?aS ?aL ?_
               (case aR => repeat (first | exact (Kd.C_below HR1_1.out HB.out) | (with_reducible refine Kd.C_alloc ?_ _) | (with_reducible refine Kd.C_drewN ?_ _) | (with_reducible refine Kd.C_drew ?_)))
               (case aB => exact pwdd_)
               (case aF => exact (fun _ _ => trivial))
               (case aO => exact (by (with_reducible repeat apply Kd.R_alloc); exact HO150.out))
               (case aS => exact (below_size pwdd_))
               (case aL => have := LMc3.out; omega)
               intro v152 w41 ho hb hg hat
               rw [← Ny151.out] at ho
               have n0_ := Aside0.mk (blk_grown (g := gb146) (o := .cells #[.int .i64 a1_0, .slice A1_1 l1_1.length c1_1] 47 (0, 0)) pwl_ hg (Kd.R_ne HO150.out BK146.out (by decide)))
               have n1_ := Aside0.mk (blk_grown (g := gb147) (o := .cells #[.int .i64 0, .slice none 0 0] 47 (0, 0)) pwm_ hg (Kd.R_ne HO150.out BK147.out (by decide)))
               have n2_ := Aside0.mk (blk_grown (g := gb160) (o := .cells #[.int .i64 0, .slice none 0 0] 47 (0, 0)) pwn_ hg (Kd.R_ne HO150.out BK160.out (by decide)))
               have n3_ := Aside0.mk (hb)
               have n4_ := Aside0.mk (ho)
               clear BK146
               clear BK147
               clear BK160
               clear HB
               clear HO150
               have BK146 := n0_
               have BK147 := n1_
               have BK160 := n2_
               have HB := n3_
               have HO153 := n4_
               clear n0_ n1_ n2_ n3_ n4_
               clear ho hb hg hat
               refine hK.out _ _ ⟨(blk_cell BK146.out 0).trans rfl, (blk_cell BK146.out 1).trans rfl⟩ (fun hHeld => ?_)
               clear hK K
               refine norm_ (a' := ?_) ?_ ?_
               rotate_left
               ·show Act.put _ (some 12) _ = _
                simp only [Act.put, List.setIfInBounds_toArray, List.set_cons_zero, List.set_cons_succ, i64_w, i32_w]
                rfl
               exact norm_ pwbb_ (hJ2_5_10 (v149, v152, gb160) _ ⟨hHeld, (by (with_reducible repeat apply Kd.R_alloc); exact HO153.out), pwl_, pwm_, pwn_, GW160.out, GE160.out, NB146_160.out, NB160_146.out, NB147_160.out, NB160_147.out, pwdd_⟩)
              ·skip
               refine Kd.R_lit_step k62 _ 62 ?hg (N := 14) ?hd (xs := ([(⟨2, 0⟩ : S62)] : List (S62))) (inner := [.int .i64 2, .int .i64 0]) (ok := fun _ => True) (okp := fun _ => True) ?hr ?hp (fun _ hk => hk) trivial (Below.refl _ _) (Nat.le_refl _) (by simp) ?_; (case hd => rfl); (case hg => rfl); (case hr => first | (go_simp; done) | (go_simp; rfl)); (case hp => exact (Reps.c2 (show Kd.M k62 _ _ _ (⟨2, 0⟩ : S62) [.int .i64 2, .int .i64 0] from (k62_mkM _ _ _ (⟨2, 0⟩ : S62) )) (Reps.none _ _)))
               intro v155 w41 ho42 hb hg_ hnew_
               clear hg_ hnew_
               (first | rw [← Ny154.out] at ho42 | (simp only [Int.reduceToNat] at ho42; rw [← Ny154.out] at ho42))
               have n0_ := Aside0.mk (Kd.R_elder' (by (with_reducible repeat apply Kd.R_alloc); exact HO150.out) (Kd.R_base ho42) hb)
               have n1_ := Aside0.mk (Kd.R_lower (Kd.R_new' ho42 (Kd.R_lt (by (with_reducible repeat apply Kd.R_alloc); exact HO150.out))) (below_size pwdd_))
               have n2_ := Aside0.mk (blk_below (g := gb146) (o := .cells #[.int .i64 a1_0, .slice A1_1 l1_1.length c1_1] 47 (0, 0)) pwl_ hb)
               have n3_ := Aside0.mk (blk_below (g := gb147) (o := .cells #[.int .i64 0, .slice none 0 0] 47 (0, 0)) pwm_ hb)
               have n4_ := Aside0.mk (blk_below (g := gb160) (o := .cells #[.int .i64 0, .slice none 0 0] 47 (0, 0)) pwn_ hb)
               have n5_ := Aside0.mk (below_step pwdd_ hb)
               clear HO150
               clear BK146
               clear BK147
               clear BK160
               clear HB
               have HO150 := n0_
               have HO156 := n1_
               have BK146 := n2_
               have BK147 := n3_
               have BK160 := n4_
               have HB := n5_
               clear n0_ n1_ n2_ n3_ n4_ n5_
               clear hb ho42
               refine hK.out _ _ ⟨(blk_cell BK146.out 0).trans rfl, (blk_cell BK146.out 1).trans rfl⟩ (fun hHeld => ?_)
               clear hK K
               refine norm_ (a' := ?_) ?_ ?_
               rotate_left
               ·show Act.put _ (some 14) _ = _
                simp only [Act.put, List.setIfInBounds_toArray, List.set_cons_zero, List.set_cons_succ, i64_w, i32_w]
                rfl
               exact norm_ pwbb_ (hJ2_7_10 (v149, v155, gb160) _ ⟨hHeld, (by (with_reducible repeat apply Kd.R_alloc); exact Kd.R_mono HO150.out (fun _ hk => hk.2)), (by (with_reducible repeat apply Kd.R_alloc); exact Kd.R_mono HO156.out (fun _ hk => hk.2)), pwl_, pwm_, pwn_, GW160.out, GE160.out, NB146_160.out, NB160_146.out, NB147_160.out, NB160_147.out, pwdd_⟩)
            ·skip
             rintro ⟨v149, v155⟩ w41 ⟨hS_, h0_, h1_, h2_, h3_, h4_⟩
             have n0_ : Aside0 (Kd.R k62 62 w41 w.heap.size (fun k_ => some k_ ≠ (v155 : Value).ownBlock) v149 y148) := ⟨h0_⟩
             have n1_ : Aside0 (Kd.R k62 62 w41 w.heap.size (fun k_ => some k_ ≠ (v149 : Value).ownBlock) v155 y154) := ⟨h1_⟩
             have n2_ : Aside0 (w41.heap[gb146]? = some (.cells #[.int .i64 a1_0, .slice A1_1 l1_1.length c1_1] 47 (0, 0))) := ⟨h2_⟩
             have n3_ : Aside0 (w41.heap[gb147]? = some (.cells #[.int .i64 0, .slice none 0 0] 47 (0, 0))) := ⟨h3_⟩
             have n4_ : Aside0 (Below w.heap.size w w41) := ⟨h4_⟩
             clear BK146
             clear BK147
             clear HB
             clear h0_ h1_ h2_ h3_ h4_
             have HO150 := n0_
             have HO156 := n1_
             have BK146 := n2_
             have BK147 := n3_
             have HB := n4_
             clear n0_ n1_ n2_ n3_ n4_
             have hHeld : w41.cell? ⟨gb146, 0, none⟩ = some (.int .i64 a1_0) ∧ w41.cell? ⟨gb146, 1, none⟩ = some (.slice A1_1 l1_1.length c1_1) := hS_
             refine norm_ (a' := ?_) ?_ ?_
             rotate_left
             ·simp only [putAll, Act.put, List.setIfInBounds_toArray, List.set_cons_zero, List.set_cons_succ]
              rfl
             refine two_ (i := 5) (j := 10) (Ni := some 12) (Nj := some 6) #[true, true, true, true, true, true, true, true, false, false, false, false] #[true, true, true, true, true, false, true, true, false, false, true, false] rfl rfl rfl rfl (two_of HT_.out (by kernel_rfl)) (by decide) (by decide) (fun K hK => ?_) (fun K hK => ?_)
             ·skip
              refine Kd.R_append_rows_step k62 (w0 := w) w.heap.size (by rfl) (.tmp 9) (.tmp 11) 25 62 (.agg #[(.int .i64 0), (.int .i64 0)]) 16 rfl Try.underlying25 info62 rfl (by decide) (by omega) v149 y148 l1_1 _ _ _ (fun k_ => some k_ ≠ (v155 : Value).ownBlock) (fun _ => False) rfl rfl ?aO ?aR (fun _ _ h => h) (fun _ h => h.elim) ?aF ?aB ?aS ?aL ?_
              (case aR => repeat (first | exact (Kd.C_below HR1_1.out HB.out) | (with_reducible refine Kd.C_alloc ?_ _) | (with_reducible refine Kd.C_drewN ?_ _) | (with_reducible refine Kd.C_drew ?_)))
              (case aB => exact pwz_)
              (case aF => exact (fun k_ hk => Kd.fresh' (Kd.R_lt (by (with_reducible repeat apply Kd.R_alloc); exact HO156.out)) k_ hk))
              (case aO => exact (by (with_reducible repeat apply Kd.R_alloc); exact HO150.out))
              (case aS => exact (below_size pwz_))
              (case aL => have := LMc3.out; omega)
              intro v152 w42 ho hb hg hat
              rw [← Ny151.out] at ho
              have n0_ := Aside0.mk (blk_grown (g := gb146) (o := .cells #[.int .i64 a1_0, .slice A1_1 l1_1.length c1_1] 47 (0, 0)) pwl_ hg (Kd.R_ne HO150.out BK146.out (by decide)))
              have n1_ := Aside0.mk (blk_grown (g := gb147) (o := .cells #[.int .i64 0, .slice none 0 0] 47 (0, 0)) pwm_ hg (Kd.R_ne HO150.out BK147.out (by decide)))
              have n2_ := Aside0.mk (Kd.R_after (ok := (fun _ => True)) (by (with_reducible repeat apply Kd.R_alloc); exact Kd.R_mono HO156.out (fun _ hk => ⟨trivial, hk⟩)) hg hat)
              have n3_ := Aside0.mk (hb)
              have n4_ := Aside0.mk (ho)
              clear BK146
              clear BK147
              clear HO156
              clear HB
              clear HO150
              have BK146 := n0_
              have BK147 := n1_
              have HO156 := n2_
              have HB := n3_
              have HO153 := n4_
              clear n0_ n1_ n2_ n3_ n4_
              clear ho hb hg hat
              refine hK.out _ _ ⟨(blk_cell BK146.out 0).trans rfl, (blk_cell BK146.out 1).trans rfl⟩ (fun hHeld => ?_)
              clear hK K
              refine norm_ (a' := ?_) ?_ ?_
              rotate_left
              ·show Act.put _ (some 12) _ = _
               simp only [Act.put, List.setIfInBounds_toArray, List.set_cons_zero, List.set_cons_succ, i64_w, i32_w]
               rfl
              exact norm_ pwbb_ (hJ2_5_7 (v149, v152, v155) _ ⟨hHeld, (by (with_reducible repeat apply Kd.R_alloc); exact HO153.out), (by (with_reducible repeat apply Kd.R_alloc); exact Kd.R_mono HO156.out (fun _ hk => hk.2)), pwl_, pwm_, pwz_⟩)
             ·skip
              refine box_step ?hg (N := 6) ?hd (cs := #[.int .i64 0, .slice none 0 0]) (t := 47) ?hr ?_; (case hd => rfl); (case hg => rfl); (case hr => first | (go_simp; done) | (go_simp; rfl))
              intro gb160 hg w42 hbox hb
              have n0_ := Aside0.mk (Kd.R_below (by (with_reducible repeat apply Kd.R_alloc); exact HO150.out) hb)
              have n1_ := Aside0.mk (Kd.R_below (by (with_reducible repeat apply Kd.R_alloc); exact HO156.out) hb)
              have n2_ := Aside0.mk (blk_below (g := gb146) (o := .cells #[.int .i64 a1_0, .slice A1_1 l1_1.length c1_1] 47 (0, 0)) pwl_ hb)
              have n3_ := Aside0.mk (blk_below (g := gb147) (o := .cells #[.int .i64 0, .slice none 0 0] 47 (0, 0)) pwm_ hb)
              have n4_ := Aside0.mk (below_step pwz_ hb)
              have n5_ := Aside0.mk (hbox)
              have n6_ := Aside0.mk ((by rw [hg]; exact (below_size pwz_) : w.heap.size ≤ gb160))
              have n7_ := Aside0.mk ((by rw [hg]; exact (below_size pwz_) : w.heap.size ≤ gb160))
              have n8_ := Aside0.mk ((by rw [hg]; exact Nat.ne_of_lt (blk_lt (g := gb146) (o := .cells #[.int .i64 a1_0, .slice A1_1 l1_1.length c1_1] 47 (0, 0)) pwl_) : gb146 ≠ gb160))
              have n9_ := Aside0.mk ((by rw [hg]; exact Nat.ne_of_gt (blk_lt (g := gb146) (o := .cells #[.int .i64 a1_0, .slice A1_1 l1_1.length c1_1] 47 (0, 0)) pwl_) : gb160 ≠ gb146))
              have n10_ := Aside0.mk ((by rw [hg]; exact Nat.ne_of_lt (blk_lt (g := gb147) (o := .cells #[.int .i64 0, .slice none 0 0] 47 (0, 0)) pwm_) : gb147 ≠ gb160))
              have n11_ := Aside0.mk ((by rw [hg]; exact Nat.ne_of_gt (blk_lt (g := gb147) (o := .cells #[.int .i64 0, .slice none 0 0] 47 (0, 0)) pwm_) : gb160 ≠ gb147))
              clear HO150
              clear HO156
              clear BK146
              clear BK147
              clear HB
              have HO150 := n0_
              have HO156 := n1_
              have BK146 := n2_
              have BK147 := n3_
              have HB := n4_
              have BK160 := n5_
              have GW160 := n6_
              have GE160 := n7_
              have NB146_160 := n8_
              have NB160_146 := n9_
              have NB147_160 := n10_
              have NB160_147 := n11_
              clear n0_ n1_ n2_ n3_ n4_ n5_ n6_ n7_ n8_ n9_ n10_ n11_
              clear hb hbox hg
              refine hK.out _ _ ⟨(blk_cell BK146.out 0).trans rfl, (blk_cell BK146.out 1).trans rfl⟩ (fun hHeld => ?_)
              clear hK K
              refine norm_ (a' := ?_) ?_ ?_
              rotate_left
              ·show Act.put _ (some 6) _ = _
               simp only [Act.put, List.setIfInBounds_toArray, List.set_cons_zero, List.set_cons_succ, i64_w, i32_w]
               rfl
              exact norm_ pwbb_ (hJ2_7_10 (v149, v155, gb160) _ ⟨hHeld, (by (with_reducible repeat apply Kd.R_alloc); exact HO150.out), (by (with_reducible repeat apply Kd.R_alloc); exact HO156.out), pwl_, pwm_, pwn_, GW160.out, GE160.out, NB146_160.out, NB160_146.out, NB147_160.out, NB160_147.out, pwdd_⟩)
           ·skip
            rintro ⟨v149, v152⟩ w40 ⟨hS_, h0_, h1_, h2_, h3_⟩
            have n0_ : Aside0 (Kd.R k62 62 w40 w.heap.size (fun _ => True) v152 y151) := ⟨h0_⟩
            have n1_ : Aside0 (w40.heap[gb146]? = some (.cells #[.int .i64 a1_0, .slice A1_1 l1_1.length c1_1] 47 (0, 0))) := ⟨h1_⟩
            have n2_ : Aside0 (w40.heap[gb147]? = some (.cells #[.int .i64 0, .slice none 0 0] 47 (0, 0))) := ⟨h2_⟩
            have n3_ : Aside0 (Below w.heap.size w w40) := ⟨h3_⟩
            clear BK146
            clear BK147
            clear HB
            clear h0_ h1_ h2_ h3_
            have HO153 := n0_
            have BK146 := n1_
            have BK147 := n2_
            have HB := n3_
            clear n0_ n1_ n2_ n3_
            have hHeld : w40.cell? ⟨gb146, 0, none⟩ = some (.int .i64 a1_0) ∧ w40.cell? ⟨gb146, 1, none⟩ = some (.slice A1_1 l1_1.length c1_1) := hS_
            refine norm_ (a' := ?_) ?_ ?_
            rotate_left
            ·simp only [putAll, Act.put, List.setIfInBounds_toArray, List.set_cons_zero, List.set_cons_succ]
             rfl
            refine two_ (i := 7) (j := 10) (Ni := some 14) (Nj := some 6) #[true, true, true, true, true, true, true, true, false, false, false, false] #[true, true, true, true, true, true, true, false, false, false, true, false] rfl rfl rfl rfl (two_of HT_.out (by kernel_rfl)) (by decide) (by decide) (fun K hK => ?_) (fun K hK => ?_)
            ·skip
             refine Kd.R_lit_step k62 _ 62 ?hg (N := 14) ?hd (xs := ([(⟨2, 0⟩ : S62)] : List (S62))) (inner := [.int .i64 2, .int .i64 0]) (ok := fun _ => True) (okp := fun _ => True) ?hr ?hp (fun _ hk => hk) trivial (Below.refl _ _) (Nat.le_refl _) (by simp) ?_; (case hd => rfl); (case hg => rfl); (case hr => first | (go_simp; done) | (go_simp; rfl)); (case hp => exact (Reps.c2 (show Kd.M k62 _ _ _ (⟨2, 0⟩ : S62) [.int .i64 2, .int .i64 0] from (k62_mkM _ _ _ (⟨2, 0⟩ : S62) )) (Reps.none _ _)))
             intro v155 w41 ho42 hb hg_ hnew_
             clear hg_ hnew_
             (first | rw [← Ny154.out] at ho42 | (simp only [Int.reduceToNat] at ho42; rw [← Ny154.out] at ho42))
             have n0_ := Aside0.mk (Kd.R_elder' (by (with_reducible repeat apply Kd.R_alloc); exact HO153.out) (Kd.R_base ho42) hb)
             have n1_ := Aside0.mk (Kd.R_lower (Kd.R_new' ho42 (Kd.R_lt (by (with_reducible repeat apply Kd.R_alloc); exact HO153.out))) (below_size pwz_))
             have n2_ := Aside0.mk (blk_below (g := gb146) (o := .cells #[.int .i64 a1_0, .slice A1_1 l1_1.length c1_1] 47 (0, 0)) pwl_ hb)
             have n3_ := Aside0.mk (blk_below (g := gb147) (o := .cells #[.int .i64 0, .slice none 0 0] 47 (0, 0)) pwm_ hb)
             have n4_ := Aside0.mk (below_step pwz_ hb)
             clear HO153
             clear BK146
             clear BK147
             clear HB
             have HO153 := n0_
             have HO156 := n1_
             have BK146 := n2_
             have BK147 := n3_
             have HB := n4_
             clear n0_ n1_ n2_ n3_ n4_
             clear hb ho42
             refine hK.out _ _ ⟨(blk_cell BK146.out 0).trans rfl, (blk_cell BK146.out 1).trans rfl⟩ (fun hHeld => ?_)
             clear hK K
             refine norm_ (a' := ?_) ?_ ?_
             rotate_left
             ·show Act.put _ (some 14) _ = _
              simp only [Act.put, List.setIfInBounds_toArray, List.set_cons_zero, List.set_cons_succ, i64_w, i32_w]
              rfl
             exact norm_ pwbb_ (hJ2_5_7 (v149, v152, v155) _ ⟨hHeld, (by (with_reducible repeat apply Kd.R_alloc); exact Kd.R_mono HO153.out (fun _ hk => hk.2)), (by (with_reducible repeat apply Kd.R_alloc); exact Kd.R_mono HO156.out (fun _ hk => hk.2)), pwl_, pwm_, pwz_⟩)
            ·skip
             refine box_step ?hg (N := 6) ?hd (cs := #[.int .i64 0, .slice none 0 0]) (t := 47) ?hr ?_; (case hd => rfl); (case hg => rfl); (case hr => first | (go_simp; done) | (go_simp; rfl))
             intro gb160 hg w41 hbox hb
             have n0_ := Aside0.mk (Kd.R_below (by (with_reducible repeat apply Kd.R_alloc); exact HO153.out) hb)
             have n1_ := Aside0.mk (blk_below (g := gb146) (o := .cells #[.int .i64 a1_0, .slice A1_1 l1_1.length c1_1] 47 (0, 0)) pwl_ hb)
             have n2_ := Aside0.mk (blk_below (g := gb147) (o := .cells #[.int .i64 0, .slice none 0 0] 47 (0, 0)) pwm_ hb)
             have n3_ := Aside0.mk (below_step pwz_ hb)
             have n4_ := Aside0.mk (hbox)
             have n5_ := Aside0.mk ((by rw [hg]; exact (below_size pwz_) : w.heap.size ≤ gb160))
             have n6_ := Aside0.mk ((by rw [hg]; exact (below_size pwz_) : w.heap.size ≤ gb160))
             have n7_ := Aside0.mk ((by rw [hg]; exact Nat.ne_of_lt (blk_lt (g := gb146) (o := .cells #[.int .i64 a1_0, .slice A1_1 l1_1.length c1_1] 47 (0, 0)) pwl_) : gb146 ≠ gb160))
             have n8_ := Aside0.mk ((by rw [hg]; exact Nat.ne_of_gt (blk_lt (g := gb146) (o := .cells #[.int .i64 a1_0, .slice A1_1 l1_1.length c1_1] 47 (0, 0)) pwl_) : gb160 ≠ gb146))
             have n9_ := Aside0.mk ((by rw [hg]; exact Nat.ne_of_lt (blk_lt (g := gb147) (o := .cells #[.int .i64 0, .slice none 0 0] 47 (0, 0)) pwm_) : gb147 ≠ gb160))
             have n10_ := Aside0.mk ((by rw [hg]; exact Nat.ne_of_gt (blk_lt (g := gb147) (o := .cells #[.int .i64 0, .slice none 0 0] 47 (0, 0)) pwm_) : gb160 ≠ gb147))
             clear HO153
             clear BK146
             clear BK147
             clear HB
             have HO153 := n0_
             have BK146 := n1_
             have BK147 := n2_
             have HB := n3_
             have BK160 := n4_
             have GW160 := n5_
             have GE160 := n6_
             have NB146_160 := n7_
             have NB160_146 := n8_
             have NB147_160 := n9_
             have NB160_147 := n10_
             clear n0_ n1_ n2_ n3_ n4_ n5_ n6_ n7_ n8_ n9_ n10_
             clear hb hbox hg
             refine hK.out _ _ ⟨(blk_cell BK146.out 0).trans rfl, (blk_cell BK146.out 1).trans rfl⟩ (fun hHeld => ?_)
             clear hK K
             refine norm_ (a' := ?_) ?_ ?_
             rotate_left
             ·show Act.put _ (some 6) _ = _
              simp only [Act.put, List.setIfInBounds_toArray, List.set_cons_zero, List.set_cons_succ, i64_w, i32_w]
              rfl
             exact norm_ pwbb_ (hJ2_5_10 (v149, v152, gb160) _ ⟨hHeld, (by (with_reducible repeat apply Kd.R_alloc); exact HO153.out), pwl_, pwm_, pwn_, GW160.out, GE160.out, NB146_160.out, NB160_146.out, NB147_160.out, NB160_147.out, pwdd_⟩)
          ·skip
           rintro ⟨v149, v155, gb160⟩ w42 ⟨hS_, h0_, h1_, h2_, h3_, h4_, h5_, h6_, h7_, h8_, h9_, h10_, h11_⟩
           have n0_ : Aside0 (Kd.R k62 62 w42 w.heap.size (fun k_ => some k_ ≠ (v155 : Value).ownBlock) v149 y148) := ⟨h0_⟩
           have n1_ : Aside0 (Kd.R k62 62 w42 w.heap.size (fun k_ => some k_ ≠ (v149 : Value).ownBlock) v155 y154) := ⟨h1_⟩
           have n2_ : Aside0 (w42.heap[gb146]? = some (.cells #[.int .i64 a1_0, .slice A1_1 l1_1.length c1_1] 47 (0, 0))) := ⟨h2_⟩
           have n3_ : Aside0 (w42.heap[gb147]? = some (.cells #[.int .i64 0, .slice none 0 0] 47 (0, 0))) := ⟨h3_⟩
           have n4_ : Aside0 (w42.heap[gb160]? = some (.cells #[.int .i64 0, .slice none 0 0] 47 (0, 0))) := ⟨h4_⟩
           have n5_ : Aside0 (w.heap.size ≤ gb160) := ⟨h5_⟩
           have n6_ : Aside0 (w.heap.size ≤ gb160) := ⟨h6_⟩
           have n7_ : Aside0 (gb146 ≠ gb160) := ⟨h7_⟩
           have n8_ : Aside0 (gb160 ≠ gb146) := ⟨h8_⟩
           have n9_ : Aside0 (gb147 ≠ gb160) := ⟨h9_⟩
           have n10_ : Aside0 (gb160 ≠ gb147) := ⟨h10_⟩
           have n11_ : Aside0 (Below w.heap.size w w42) := ⟨h11_⟩
           clear BK146
           clear BK147
           clear HB
           clear h0_ h1_ h2_ h3_ h4_ h5_ h6_ h7_ h8_ h9_ h10_ h11_
           have HO150 := n0_
           have HO156 := n1_
           have BK146 := n2_
           have BK147 := n3_
           have BK160 := n4_
           have GW160 := n5_
           have GE160 := n6_
           have NB146_160 := n7_
           have NB160_146 := n8_
           have NB147_160 := n9_
           have NB160_147 := n10_
           have HB := n11_
           clear n0_ n1_ n2_ n3_ n4_ n5_ n6_ n7_ n8_ n9_ n10_ n11_
           have hHeld : w42.cell? ⟨gb146, 0, none⟩ = some (.int .i64 a1_0) ∧ w42.cell? ⟨gb146, 1, none⟩ = some (.slice A1_1 l1_1.length c1_1) := hS_
           refine norm_ (a' := ?_) ?_ ?_
           rotate_left
           ·simp only [putAll, Act.put, List.setIfInBounds_toArray, List.set_cons_zero, List.set_cons_succ]
            rfl
           refine one_ (i := 5) (N := some 12) #[true, true, true, true, true, true, true, true, false, false, true, false] rfl rfl (one_of HT_.out (by kernel_rfl)) (by decide) (fun K hK => ?_)
           refine Kd.R_append_rows_step k62 (w0 := w) w.heap.size (by rfl) (.tmp 9) (.tmp 11) 25 62 (.agg #[(.int .i64 0), (.int .i64 0)]) 16 rfl Try.underlying25 info62 rfl (by decide) (by omega) v149 y148 l1_1 _ _ _ (fun k_ => some k_ ≠ (v155 : Value).ownBlock) (fun _ => False) rfl rfl ?aO ?aR (fun _ _ h => h) (fun _ h => h.elim) ?aF ?aB ?aS ?aL ?_
           (case aR => repeat (first | exact (Kd.C_below HR1_1.out HB.out) | (with_reducible refine Kd.C_alloc ?_ _) | (with_reducible refine Kd.C_drewN ?_ _) | (with_reducible refine Kd.C_drew ?_)))
           (case aB => exact pwdd_)
           (case aF => exact (fun k_ hk => Kd.fresh' (Kd.R_lt (by (with_reducible repeat apply Kd.R_alloc); exact HO156.out)) k_ hk))
           (case aO => exact (by (with_reducible repeat apply Kd.R_alloc); exact HO150.out))
           (case aS => exact (below_size pwdd_))
           (case aL => have := LMc3.out; omega)
           intro v152 w43 ho hb hg hat
           rw [← Ny151.out] at ho
           have n0_ := Aside0.mk (blk_grown (g := gb146) (o := .cells #[.int .i64 a1_0, .slice A1_1 l1_1.length c1_1] 47 (0, 0)) pwl_ hg (Kd.R_ne HO150.out BK146.out (by decide)))
           have n1_ := Aside0.mk (blk_grown (g := gb147) (o := .cells #[.int .i64 0, .slice none 0 0] 47 (0, 0)) pwm_ hg (Kd.R_ne HO150.out BK147.out (by decide)))
           have n2_ := Aside0.mk (Kd.R_after (ok := (fun _ => True)) (by (with_reducible repeat apply Kd.R_alloc); exact Kd.R_mono HO156.out (fun _ hk => ⟨trivial, hk⟩)) hg hat)
           have n3_ := Aside0.mk (blk_grown (g := gb160) (o := .cells #[.int .i64 0, .slice none 0 0] 47 (0, 0)) pwn_ hg (Kd.R_ne HO150.out BK160.out (by decide)))
           have n4_ := Aside0.mk (hb)
           have n5_ := Aside0.mk (ho)
           clear BK146
           clear BK147
           clear HO156
           clear BK160
           clear HB
           clear HO150
           have BK146 := n0_
           have BK147 := n1_
           have HO156 := n2_
           have BK160 := n3_
           have HB := n4_
           have HO153 := n5_
           clear n0_ n1_ n2_ n3_ n4_ n5_
           clear ho hb hg hat
           refine hK.out _ _ ⟨(blk_cell BK146.out 0).trans rfl, (blk_cell BK146.out 1).trans rfl⟩ (fun hHeld => ?_)
           clear hK K
           refine norm_ (a' := ?_) ?_ ?_
           rotate_left
           ·show Act.put _ (some 12) _ = _
            simp only [Act.put, List.setIfInBounds_toArray, List.set_cons_zero, List.set_cons_succ, i64_w, i32_w]
            rfl
           exact norm_ pwbb_ (hJ2_5_7_10 (v149, v152, v155, gb160) _ ⟨hHeld, (by (with_reducible repeat apply Kd.R_alloc); exact HO153.out), (by (with_reducible repeat apply Kd.R_alloc); exact Kd.R_mono HO156.out (fun _ hk => hk.2)), pwl_, pwm_, pwn_, GW160.out, GE160.out, NB146_160.out, NB160_146.out, NB147_160.out, NB160_147.out, pwdd_⟩)
         ·skip
          rintro ⟨v149, v152, gb160⟩ w41 ⟨hS_, h0_, h1_, h2_, h3_, h4_, h5_, h6_, h7_, h8_, h9_, h10_⟩
          have n0_ : Aside0 (Kd.R k62 62 w41 w.heap.size (fun _ => True) v152 y151) := ⟨h0_⟩
          have n1_ : Aside0 (w41.heap[gb146]? = some (.cells #[.int .i64 a1_0, .slice A1_1 l1_1.length c1_1] 47 (0, 0))) := ⟨h1_⟩
          have n2_ : Aside0 (w41.heap[gb147]? = some (.cells #[.int .i64 0, .slice none 0 0] 47 (0, 0))) := ⟨h2_⟩
          have n3_ : Aside0 (w41.heap[gb160]? = some (.cells #[.int .i64 0, .slice none 0 0] 47 (0, 0))) := ⟨h3_⟩
          have n4_ : Aside0 (w.heap.size ≤ gb160) := ⟨h4_⟩
          have n5_ : Aside0 (w.heap.size ≤ gb160) := ⟨h5_⟩
          have n6_ : Aside0 (gb146 ≠ gb160) := ⟨h6_⟩
          have n7_ : Aside0 (gb160 ≠ gb146) := ⟨h7_⟩
          have n8_ : Aside0 (gb147 ≠ gb160) := ⟨h8_⟩
          have n9_ : Aside0 (gb160 ≠ gb147) := ⟨h9_⟩
          have n10_ : Aside0 (Below w.heap.size w w41) := ⟨h10_⟩
          clear BK146
          clear BK147
          clear HB
          clear h0_ h1_ h2_ h3_ h4_ h5_ h6_ h7_ h8_ h9_ h10_
          have HO153 := n0_
          have BK146 := n1_
          have BK147 := n2_
          have BK160 := n3_
          have GW160 := n4_
          have GE160 := n5_
          have NB146_160 := n6_
          have NB160_146 := n7_
          have NB147_160 := n8_
          have NB160_147 := n9_
          have HB := n10_
          clear n0_ n1_ n2_ n3_ n4_ n5_ n6_ n7_ n8_ n9_ n10_
          have hHeld : w41.cell? ⟨gb146, 0, none⟩ = some (.int .i64 a1_0) ∧ w41.cell? ⟨gb146, 1, none⟩ = some (.slice A1_1 l1_1.length c1_1) := hS_
          refine norm_ (a' := ?_) ?_ ?_
          rotate_left
          ·simp only [putAll, Act.put, List.setIfInBounds_toArray, List.set_cons_zero, List.set_cons_succ]
           rfl
          refine one_ (i := 7) (N := some 14) #[true, true, true, true, true, true, true, true, false, false, true, false] rfl rfl (one_of HT_.out (by kernel_rfl)) (by decide) (fun K hK => ?_)
          refine Kd.R_lit_step k62 _ 62 ?hg (N := 14) ?hd (xs := ([(⟨2, 0⟩ : S62)] : List (S62))) (inner := [.int .i64 2, .int .i64 0]) (ok := fun _ => True) (okp := fun _ => True) ?hr ?hp (fun _ hk => hk) trivial (Below.refl _ _) (Nat.le_refl _) (by simp) ?_; (case hd => rfl); (case hg => rfl); (case hr => first | (go_simp; done) | (go_simp; rfl)); (case hp => exact (Reps.c2 (show Kd.M k62 _ _ _ (⟨2, 0⟩ : S62) [.int .i64 2, .int .i64 0] from (k62_mkM _ _ _ (⟨2, 0⟩ : S62) )) (Reps.none _ _)))
          intro v155 w42 ho43 hb hg_ hnew_
          clear hg_ hnew_
          (first | rw [← Ny154.out] at ho43 | (simp only [Int.reduceToNat] at ho43; rw [← Ny154.out] at ho43))
          have n0_ := Aside0.mk (Kd.R_elder' (by (with_reducible repeat apply Kd.R_alloc); exact HO153.out) (Kd.R_base ho43) hb)
          have n1_ := Aside0.mk (Kd.R_lower (Kd.R_new' ho43 (Kd.R_lt (by (with_reducible repeat apply Kd.R_alloc); exact HO153.out))) (below_size pwdd_))
          have n2_ := Aside0.mk (blk_below (g := gb146) (o := .cells #[.int .i64 a1_0, .slice A1_1 l1_1.length c1_1] 47 (0, 0)) pwl_ hb)
          have n3_ := Aside0.mk (blk_below (g := gb147) (o := .cells #[.int .i64 0, .slice none 0 0] 47 (0, 0)) pwm_ hb)
          have n4_ := Aside0.mk (blk_below (g := gb160) (o := .cells #[.int .i64 0, .slice none 0 0] 47 (0, 0)) pwn_ hb)
          have n5_ := Aside0.mk (below_step pwdd_ hb)
          clear HO153
          clear BK146
          clear BK147
          clear BK160
          clear HB
          have HO153 := n0_
          have HO156 := n1_
          have BK146 := n2_
          have BK147 := n3_
          have BK160 := n4_
          have HB := n5_
          clear n0_ n1_ n2_ n3_ n4_ n5_
          clear hb ho43
          refine hK.out _ _ ⟨(blk_cell BK146.out 0).trans rfl, (blk_cell BK146.out 1).trans rfl⟩ (fun hHeld => ?_)
          clear hK K
          refine norm_ (a' := ?_) ?_ ?_
          rotate_left
          ·show Act.put _ (some 14) _ = _
           simp only [Act.put, List.setIfInBounds_toArray, List.set_cons_zero, List.set_cons_succ, i64_w, i32_w]
           rfl
          exact norm_ pwbb_ (hJ2_5_7_10 (v149, v152, v155, gb160) _ ⟨hHeld, (by (with_reducible repeat apply Kd.R_alloc); exact Kd.R_mono HO153.out (fun _ hk => hk.2)), (by (with_reducible repeat apply Kd.R_alloc); exact Kd.R_mono HO156.out (fun _ hk => hk.2)), pwl_, pwm_, pwn_, GW160.out, GE160.out, NB146_160.out, NB160_146.out, NB147_160.out, NB160_147.out, pwdd_⟩)
        ·skip
         rintro ⟨v149, v152, v155⟩ w42 ⟨hS_, h0_, h1_, h2_, h3_, h4_⟩
         have n0_ : Aside0 (Kd.R k62 62 w42 w.heap.size (fun k_ => some k_ ≠ (v155 : Value).ownBlock) v152 y151) := ⟨h0_⟩
         have n1_ : Aside0 (Kd.R k62 62 w42 w.heap.size (fun k_ => some k_ ≠ (v152 : Value).ownBlock) v155 y154) := ⟨h1_⟩
         have n2_ : Aside0 (w42.heap[gb146]? = some (.cells #[.int .i64 a1_0, .slice A1_1 l1_1.length c1_1] 47 (0, 0))) := ⟨h2_⟩
         have n3_ : Aside0 (w42.heap[gb147]? = some (.cells #[.int .i64 0, .slice none 0 0] 47 (0, 0))) := ⟨h3_⟩
         have n4_ : Aside0 (Below w.heap.size w w42) := ⟨h4_⟩
         clear BK146
         clear BK147
         clear HB
         clear h0_ h1_ h2_ h3_ h4_
         have HO153 := n0_
         have HO156 := n1_
         have BK146 := n2_
         have BK147 := n3_
         have HB := n4_
         clear n0_ n1_ n2_ n3_ n4_
         have hHeld : w42.cell? ⟨gb146, 0, none⟩ = some (.int .i64 a1_0) ∧ w42.cell? ⟨gb146, 1, none⟩ = some (.slice A1_1 l1_1.length c1_1) := hS_
         obtain ⟨Ao44, co44, eo44⟩ := Kd.R_slice HO156.out
         (first | subst eo44 | (injection eo44 with f1_ f2_ f3_; have f4_ := f1_.symm; have f5_ := f3_.symm; clear f1_ f2_ f3_; subst f4_; subst f5_))
         refine norm_ (a' := ?_) ?_ ?_
         rotate_left
         ·simp only [putAll, Act.put, List.setIfInBounds_toArray, List.set_cons_zero, List.set_cons_succ]
          rfl
         refine two_ (i := 8) (j := 10) (Ni := some 15) (Nj := some 6) #[true, true, true, true, true, true, true, true, true, false, false, false] #[true, true, true, true, true, true, true, true, false, false, true, false] rfl rfl rfl rfl (two_of HT_.out (by kernel_rfl)) (by decide) (by decide) (fun K hK => ?_) (fun K hK => ?_)
         ·skip
          refine Kd.R_append_rows_step k62 (w0 := w) w.heap.size (by rfl) (.tmp 12) (.tmp 14) 25 62 (.agg #[(.int .i64 0), (.int .i64 0)]) 16 rfl Try.underlying25 info62 rfl (by decide) (by omega) v152 y151 y154 _ _ _ (fun k_ => some k_ ≠ (.slice Ao44 y154.length co44 : Value).ownBlock) (fun _ => False) rfl rfl ?aO ?aR (fun _ _ h => h) (fun _ h => h.elim) ?aF ?aB ?aS ?aL ?_
          (case aR => repeat (first | exact (Kd.R_reads' HO156.out).2.2 | (with_reducible refine Kd.C_alloc ?_ _) | (with_reducible refine Kd.C_drewN ?_ _) | (with_reducible refine Kd.C_drew ?_)))
          (case aB => exact pwz_)
          (case aF => exact (fun k_ hk => Kd.fresh' (Kd.R_lt (by (with_reducible repeat apply Kd.R_alloc); exact HO156.out)) k_ hk))
          (case aO => exact (by (with_reducible repeat apply Kd.R_alloc); exact HO153.out))
          (case aS => exact (below_size pwz_))
          (case aL => have := LMc4.out; omega)
          intro v158 w43 ho hb hg hat
          rw [← Ny157.out] at ho
          have n0_ := Aside0.mk (blk_grown (g := gb146) (o := .cells #[.int .i64 a1_0, .slice A1_1 l1_1.length c1_1] 47 (0, 0)) pwl_ hg (Kd.R_ne HO153.out BK146.out (by decide)))
          have n1_ := Aside0.mk (blk_grown (g := gb147) (o := .cells #[.int .i64 0, .slice none 0 0] 47 (0, 0)) pwm_ hg (Kd.R_ne HO153.out BK147.out (by decide)))
          have n2_ := Aside0.mk (Kd.R_after (ok := (fun _ => True)) (by (with_reducible repeat apply Kd.R_alloc); exact Kd.R_mono HO156.out (fun _ hk => ⟨trivial, hk⟩)) hg hat)
          have n3_ := Aside0.mk (hb)
          have n4_ := Aside0.mk (ho)
          clear BK146
          clear BK147
          clear HO156
          clear HB
          clear HO153
          have BK146 := n0_
          have BK147 := n1_
          have HO156 := n2_
          have HB := n3_
          have HO159 := n4_
          clear n0_ n1_ n2_ n3_ n4_
          clear ho hb hg hat
          obtain ⟨Ao45, co45, eo45⟩ := Kd.R_slice HO159.out
          (first | subst eo45 | (injection eo45 with f1_ f2_ f3_; have f4_ := f1_.symm; have f5_ := f3_.symm; clear f1_ f2_ f3_; subst f4_; subst f5_))
          refine hK.out _ _ ⟨(blk_cell BK146.out 0).trans rfl, (blk_cell BK146.out 1).trans rfl⟩ (fun hHeld => ?_)
          clear hK K
          refine norm_ (a' := ?_) ?_ ?_
          rotate_left
          ·show Act.put _ (some 15) _ = _
           simp only [Act.put, List.setIfInBounds_toArray, List.set_cons_zero, List.set_cons_succ, i64_w, i32_w]
           rfl
          refine pure_ (i := 9) (N := some 16) (v := ?_) (a' := ?_) #[true, true, true, true, true, true, true, true, true, true, false, false] rfl rfl (any_of HT_.out (by kernel_rfl)) (fun _ _ _ h => h) (Or.inl ⟨by rfl, ?_⟩) ?_ ?_
          rotate_left
          ·intro w'
           go_simp
           with_reducible rfl
          rotate_left
          ·simp only [Act.put, List.setIfInBounds_toArray, List.set_cons_zero, List.set_cons_succ, i64_w, i32_w]
           rfl
          exact norm_ pwbb_ (hJ2_5_7_8 (v149, v152, .slice Ao44 y154.length co44, .slice Ao45 y157.length co45) _ ⟨hHeld, (by (with_reducible repeat apply Kd.R_alloc); exact Kd.R_mono HO156.out (fun _ hk => hk.2)), (by (with_reducible repeat apply Kd.R_alloc); exact HO159.out), pwl_, pwm_, pwz_⟩)
         ·skip
          refine box_step ?hg (N := 6) ?hd (cs := #[.int .i64 0, .slice none 0 0]) (t := 47) ?hr ?_; (case hd => rfl); (case hg => rfl); (case hr => first | (go_simp; done) | (go_simp; rfl))
          intro gb160 hg w43 hbox hb
          have n0_ := Aside0.mk (Kd.R_below (by (with_reducible repeat apply Kd.R_alloc); exact HO153.out) hb)
          have n1_ := Aside0.mk (Kd.R_below (by (with_reducible repeat apply Kd.R_alloc); exact HO156.out) hb)
          have n2_ := Aside0.mk (blk_below (g := gb146) (o := .cells #[.int .i64 a1_0, .slice A1_1 l1_1.length c1_1] 47 (0, 0)) pwl_ hb)
          have n3_ := Aside0.mk (blk_below (g := gb147) (o := .cells #[.int .i64 0, .slice none 0 0] 47 (0, 0)) pwm_ hb)
          have n4_ := Aside0.mk (below_step pwz_ hb)
          have n5_ := Aside0.mk (hbox)
          have n6_ := Aside0.mk ((by rw [hg]; exact (below_size pwz_) : w.heap.size ≤ gb160))
          have n7_ := Aside0.mk ((by rw [hg]; exact (below_size pwz_) : w.heap.size ≤ gb160))
          have n8_ := Aside0.mk ((by rw [hg]; exact Nat.ne_of_lt (blk_lt (g := gb146) (o := .cells #[.int .i64 a1_0, .slice A1_1 l1_1.length c1_1] 47 (0, 0)) pwl_) : gb146 ≠ gb160))
          have n9_ := Aside0.mk ((by rw [hg]; exact Nat.ne_of_gt (blk_lt (g := gb146) (o := .cells #[.int .i64 a1_0, .slice A1_1 l1_1.length c1_1] 47 (0, 0)) pwl_) : gb160 ≠ gb146))
          have n10_ := Aside0.mk ((by rw [hg]; exact Nat.ne_of_lt (blk_lt (g := gb147) (o := .cells #[.int .i64 0, .slice none 0 0] 47 (0, 0)) pwm_) : gb147 ≠ gb160))
          have n11_ := Aside0.mk ((by rw [hg]; exact Nat.ne_of_gt (blk_lt (g := gb147) (o := .cells #[.int .i64 0, .slice none 0 0] 47 (0, 0)) pwm_) : gb160 ≠ gb147))
          clear HO153
          clear HO156
          clear BK146
          clear BK147
          clear HB
          have HO153 := n0_
          have HO156 := n1_
          have BK146 := n2_
          have BK147 := n3_
          have HB := n4_
          have BK160 := n5_
          have GW160 := n6_
          have GE160 := n7_
          have NB146_160 := n8_
          have NB160_146 := n9_
          have NB147_160 := n10_
          have NB160_147 := n11_
          clear n0_ n1_ n2_ n3_ n4_ n5_ n6_ n7_ n8_ n9_ n10_ n11_
          clear hb hbox hg
          refine hK.out _ _ ⟨(blk_cell BK146.out 0).trans rfl, (blk_cell BK146.out 1).trans rfl⟩ (fun hHeld => ?_)
          clear hK K
          refine norm_ (a' := ?_) ?_ ?_
          rotate_left
          ·show Act.put _ (some 6) _ = _
           simp only [Act.put, List.setIfInBounds_toArray, List.set_cons_zero, List.set_cons_succ, i64_w, i32_w]
           rfl
          exact norm_ pwbb_ (hJ2_5_7_10 (v149, v152, .slice Ao44 y154.length co44, gb160) _ ⟨hHeld, (by (with_reducible repeat apply Kd.R_alloc); exact HO153.out), (by (with_reducible repeat apply Kd.R_alloc); exact HO156.out), pwl_, pwm_, pwn_, GW160.out, GE160.out, NB146_160.out, NB160_146.out, NB147_160.out, NB160_147.out, pwdd_⟩)
       ·skip
        rintro ⟨v149, v152, v155, gb160⟩ w43 ⟨hS_, h0_, h1_, h2_, h3_, h4_, h5_, h6_, h7_, h8_, h9_, h10_, h11_⟩
        have n0_ : Aside0 (Kd.R k62 62 w43 w.heap.size (fun k_ => some k_ ≠ (v155 : Value).ownBlock) v152 y151) := ⟨h0_⟩
        have n1_ : Aside0 (Kd.R k62 62 w43 w.heap.size (fun k_ => some k_ ≠ (v152 : Value).ownBlock) v155 y154) := ⟨h1_⟩
        have n2_ : Aside0 (w43.heap[gb146]? = some (.cells #[.int .i64 a1_0, .slice A1_1 l1_1.length c1_1] 47 (0, 0))) := ⟨h2_⟩
        have n3_ : Aside0 (w43.heap[gb147]? = some (.cells #[.int .i64 0, .slice none 0 0] 47 (0, 0))) := ⟨h3_⟩
        have n4_ : Aside0 (w43.heap[gb160]? = some (.cells #[.int .i64 0, .slice none 0 0] 47 (0, 0))) := ⟨h4_⟩
        have n5_ : Aside0 (w.heap.size ≤ gb160) := ⟨h5_⟩
        have n6_ : Aside0 (w.heap.size ≤ gb160) := ⟨h6_⟩
        have n7_ : Aside0 (gb146 ≠ gb160) := ⟨h7_⟩
        have n8_ : Aside0 (gb160 ≠ gb146) := ⟨h8_⟩
        have n9_ : Aside0 (gb147 ≠ gb160) := ⟨h9_⟩
        have n10_ : Aside0 (gb160 ≠ gb147) := ⟨h10_⟩
        have n11_ : Aside0 (Below w.heap.size w w43) := ⟨h11_⟩
        clear BK146
        clear BK147
        clear HB
        clear h0_ h1_ h2_ h3_ h4_ h5_ h6_ h7_ h8_ h9_ h10_ h11_
        have HO153 := n0_
        have HO156 := n1_
        have BK146 := n2_
        have BK147 := n3_
        have BK160 := n4_
        have GW160 := n5_
        have GE160 := n6_
        have NB146_160 := n7_
        have NB160_146 := n8_
        have NB147_160 := n9_
        have NB160_147 := n10_
        have HB := n11_
        clear n0_ n1_ n2_ n3_ n4_ n5_ n6_ n7_ n8_ n9_ n10_ n11_
        have hHeld : w43.cell? ⟨gb146, 0, none⟩ = some (.int .i64 a1_0) ∧ w43.cell? ⟨gb146, 1, none⟩ = some (.slice A1_1 l1_1.length c1_1) := hS_
        obtain ⟨Ao45, co45, eo45⟩ := Kd.R_slice HO156.out
        (first | subst eo45 | (injection eo45 with f1_ f2_ f3_; have f4_ := f1_.symm; have f5_ := f3_.symm; clear f1_ f2_ f3_; subst f4_; subst f5_))
        refine norm_ (a' := ?_) ?_ ?_
        rotate_left
        ·simp only [putAll, Act.put, List.setIfInBounds_toArray, List.set_cons_zero, List.set_cons_succ]
         rfl
        refine one_ (i := 8) (N := some 15) #[true, true, true, true, true, true, true, true, true, false, true, false] rfl rfl (one_of HT_.out (by kernel_rfl)) (by decide) (fun K hK => ?_)
        refine Kd.R_append_rows_step k62 (w0 := w) w.heap.size (by rfl) (.tmp 12) (.tmp 14) 25 62 (.agg #[(.int .i64 0), (.int .i64 0)]) 16 rfl Try.underlying25 info62 rfl (by decide) (by omega) v152 y151 y154 _ _ _ (fun k_ => some k_ ≠ (.slice Ao45 y154.length co45 : Value).ownBlock) (fun _ => False) rfl rfl ?aO ?aR (fun _ _ h => h) (fun _ h => h.elim) ?aF ?aB ?aS ?aL ?_
        (case aR => repeat (first | exact (Kd.R_reads' HO156.out).2.2 | (with_reducible refine Kd.C_alloc ?_ _) | (with_reducible refine Kd.C_drewN ?_ _) | (with_reducible refine Kd.C_drew ?_)))
        (case aB => exact pwdd_)
        (case aF => exact (fun k_ hk => Kd.fresh' (Kd.R_lt (by (with_reducible repeat apply Kd.R_alloc); exact HO156.out)) k_ hk))
        (case aO => exact (by (with_reducible repeat apply Kd.R_alloc); exact HO153.out))
        (case aS => exact (below_size pwdd_))
        (case aL => have := LMc4.out; omega)
        intro v158 w44 ho hb hg hat
        rw [← Ny157.out] at ho
        have n0_ := Aside0.mk (blk_grown (g := gb146) (o := .cells #[.int .i64 a1_0, .slice A1_1 l1_1.length c1_1] 47 (0, 0)) pwl_ hg (Kd.R_ne HO153.out BK146.out (by decide)))
        have n1_ := Aside0.mk (blk_grown (g := gb147) (o := .cells #[.int .i64 0, .slice none 0 0] 47 (0, 0)) pwm_ hg (Kd.R_ne HO153.out BK147.out (by decide)))
        have n2_ := Aside0.mk (Kd.R_after (ok := (fun _ => True)) (by (with_reducible repeat apply Kd.R_alloc); exact Kd.R_mono HO156.out (fun _ hk => ⟨trivial, hk⟩)) hg hat)
        have n3_ := Aside0.mk (blk_grown (g := gb160) (o := .cells #[.int .i64 0, .slice none 0 0] 47 (0, 0)) pwn_ hg (Kd.R_ne HO153.out BK160.out (by decide)))
        have n4_ := Aside0.mk (hb)
        have n5_ := Aside0.mk (ho)
        clear BK146
        clear BK147
        clear HO156
        clear BK160
        clear HB
        clear HO153
        have BK146 := n0_
        have BK147 := n1_
        have HO156 := n2_
        have BK160 := n3_
        have HB := n4_
        have HO159 := n5_
        clear n0_ n1_ n2_ n3_ n4_ n5_
        clear ho hb hg hat
        obtain ⟨Ao46, co46, eo46⟩ := Kd.R_slice HO159.out
        (first | subst eo46 | (injection eo46 with f1_ f2_ f3_; have f4_ := f1_.symm; have f5_ := f3_.symm; clear f1_ f2_ f3_; subst f4_; subst f5_))
        refine hK.out _ _ ⟨(blk_cell BK146.out 0).trans rfl, (blk_cell BK146.out 1).trans rfl⟩ (fun hHeld => ?_)
        clear hK K
        refine norm_ (a' := ?_) ?_ ?_
        rotate_left
        ·show Act.put _ (some 15) _ = _
         simp only [Act.put, List.setIfInBounds_toArray, List.set_cons_zero, List.set_cons_succ, i64_w, i32_w]
         rfl
        refine pure_ (i := 9) (N := some 16) (v := ?_) (a' := ?_) #[true, true, true, true, true, true, true, true, true, true, true, false] rfl rfl (any_of HT_.out (by kernel_rfl)) (fun _ _ _ h => h) (Or.inl ⟨by rfl, ?_⟩) ?_ ?_
        rotate_left
        ·intro w'
         go_simp
         with_reducible rfl
        rotate_left
        ·simp only [Act.put, List.setIfInBounds_toArray, List.set_cons_zero, List.set_cons_succ, i64_w, i32_w]
         rfl
        exact norm_ pwbb_ (hJ2_5_7_8_10 (v149, v152, .slice Ao45 y154.length co45, .slice Ao46 y157.length co46, gb160) _ ⟨hHeld, (by (with_reducible repeat apply Kd.R_alloc); exact Kd.R_mono HO156.out (fun _ hk => hk.2)), (by (with_reducible repeat apply Kd.R_alloc); exact HO159.out), pwl_, pwm_, pwn_, GW160.out, GE160.out, NB146_160.out, NB160_146.out, NB147_160.out, NB160_147.out, pwdd_⟩)
      ·skip
       rintro ⟨v149, v152, v155, v158⟩ w45 ⟨hS_, h0_, h1_, h2_, h3_, h4_⟩
       have n0_ : Aside0 (Kd.R k62 62 w45 w.heap.size (fun k_ => some k_ ≠ (v158 : Value).ownBlock) v155 y154) := ⟨h0_⟩
       have n1_ : Aside0 (Kd.R k62 62 w45 w.heap.size (fun k_ => some k_ ≠ (v155 : Value).ownBlock) v158 y157) := ⟨h1_⟩
       have n2_ : Aside0 (w45.heap[gb146]? = some (.cells #[.int .i64 a1_0, .slice A1_1 l1_1.length c1_1] 47 (0, 0))) := ⟨h2_⟩
       have n3_ : Aside0 (w45.heap[gb147]? = some (.cells #[.int .i64 0, .slice none 0 0] 47 (0, 0))) := ⟨h3_⟩
       have n4_ : Aside0 (Below w.heap.size w w45) := ⟨h4_⟩
       clear BK146
       clear BK147
       clear HB
       clear h0_ h1_ h2_ h3_ h4_
       have HO156 := n0_
       have HO159 := n1_
       have BK146 := n2_
       have BK147 := n3_
       have HB := n4_
       clear n0_ n1_ n2_ n3_ n4_
       have hHeld : w45.cell? ⟨gb146, 0, none⟩ = some (.int .i64 a1_0) ∧ w45.cell? ⟨gb146, 1, none⟩ = some (.slice A1_1 l1_1.length c1_1) := hS_
       obtain ⟨Ao46, co46, eo46⟩ := Kd.R_slice HO159.out
       (first | subst eo46 | (injection eo46 with f1_ f2_ f3_; have f4_ := f1_.symm; have f5_ := f3_.symm; clear f1_ f2_ f3_; subst f4_; subst f5_))
       refine norm_ (a' := ?_) ?_ ?_
       rotate_left
       ·simp only [putAll, Act.put, List.setIfInBounds_toArray, List.set_cons_zero, List.set_cons_succ]
        rfl
       refine one_ (i := 10) (N := some 6) #[true, true, true, true, true, true, true, true, true, true, true, false] rfl rfl (one_of HT_.out (by kernel_rfl)) (by decide) (fun K hK => ?_)
       refine box_step ?hg (N := 6) ?hd (cs := #[.int .i64 0, .slice none 0 0]) (t := 47) ?hr ?_; (case hd => rfl); (case hg => rfl); (case hr => first | (go_simp; done) | (go_simp; rfl))
       intro gb160 hg w47 hbox hb
       have n0_ := Aside0.mk (Kd.R_below (by (with_reducible repeat apply Kd.R_alloc); exact HO156.out) hb)
       have n1_ := Aside0.mk (Kd.R_below (by (with_reducible repeat apply Kd.R_alloc); exact HO159.out) hb)
       have n2_ := Aside0.mk (blk_below (g := gb146) (o := .cells #[.int .i64 a1_0, .slice A1_1 l1_1.length c1_1] 47 (0, 0)) pwl_ hb)
       have n3_ := Aside0.mk (blk_below (g := gb147) (o := .cells #[.int .i64 0, .slice none 0 0] 47 (0, 0)) pwm_ hb)
       have n4_ := Aside0.mk (below_step pwz_ hb)
       have n5_ := Aside0.mk (hbox)
       have n6_ := Aside0.mk ((by rw [hg]; exact (below_size pwz_) : w.heap.size ≤ gb160))
       have n7_ := Aside0.mk ((by rw [hg]; exact (below_size pwz_) : w.heap.size ≤ gb160))
       have n8_ := Aside0.mk ((by rw [hg]; exact Nat.ne_of_lt (blk_lt (g := gb146) (o := .cells #[.int .i64 a1_0, .slice A1_1 l1_1.length c1_1] 47 (0, 0)) pwl_) : gb146 ≠ gb160))
       have n9_ := Aside0.mk ((by rw [hg]; exact Nat.ne_of_gt (blk_lt (g := gb146) (o := .cells #[.int .i64 a1_0, .slice A1_1 l1_1.length c1_1] 47 (0, 0)) pwl_) : gb160 ≠ gb146))
       have n10_ := Aside0.mk ((by rw [hg]; exact Nat.ne_of_lt (blk_lt (g := gb147) (o := .cells #[.int .i64 0, .slice none 0 0] 47 (0, 0)) pwm_) : gb147 ≠ gb160))
       have n11_ := Aside0.mk ((by rw [hg]; exact Nat.ne_of_gt (blk_lt (g := gb147) (o := .cells #[.int .i64 0, .slice none 0 0] 47 (0, 0)) pwm_) : gb160 ≠ gb147))
       clear HO156
       clear HO159
       clear BK146
       clear BK147
       clear HB
       have HO156 := n0_
       have HO159 := n1_
       have BK146 := n2_
       have BK147 := n3_
       have HB := n4_
       have BK160 := n5_
       have GW160 := n6_
       have GE160 := n7_
       have NB146_160 := n8_
       have NB160_146 := n9_
       have NB147_160 := n10_
       have NB160_147 := n11_
       clear n0_ n1_ n2_ n3_ n4_ n5_ n6_ n7_ n8_ n9_ n10_ n11_
       clear hb hbox hg
       refine hK.out _ _ ⟨(blk_cell BK146.out 0).trans rfl, (blk_cell BK146.out 1).trans rfl⟩ (fun hHeld => ?_)
       clear hK K
       refine norm_ (a' := ?_) ?_ ?_
       rotate_left
       ·show Act.put _ (some 6) _ = _
        simp only [Act.put, List.setIfInBounds_toArray, List.set_cons_zero, List.set_cons_succ, i64_w, i32_w]
        rfl
       exact norm_ pwbb_ (hJ2_5_7_8_10 (v149, v152, v155, .slice Ao46 y157.length co46, gb160) _ ⟨hHeld, (by (with_reducible repeat apply Kd.R_alloc); exact HO156.out), (by (with_reducible repeat apply Kd.R_alloc); exact HO159.out), pwl_, pwm_, pwn_, GW160.out, GE160.out, NB146_160.out, NB160_146.out, NB147_160.out, NB160_147.out, pwdd_⟩)
     rintro ⟨v149, v152, v155, v158, gb160⟩ w46 ⟨hS_, h0_, h1_, h2_, h3_, h4_, h5_, h6_, h7_, h8_, h9_, h10_, h11_⟩
     have n0_ : Aside0 (Kd.R k62 62 w46 w.heap.size (fun k_ => some k_ ≠ (v158 : Value).ownBlock) v155 y154) := ⟨h0_⟩
     have n1_ : Aside0 (Kd.R k62 62 w46 w.heap.size (fun k_ => some k_ ≠ (v155 : Value).ownBlock) v158 y157) := ⟨h1_⟩
     have n2_ : Aside0 (w46.heap[gb146]? = some (.cells #[.int .i64 a1_0, .slice A1_1 l1_1.length c1_1] 47 (0, 0))) := ⟨h2_⟩
     have n3_ : Aside0 (w46.heap[gb147]? = some (.cells #[.int .i64 0, .slice none 0 0] 47 (0, 0))) := ⟨h3_⟩
     have n4_ : Aside0 (w46.heap[gb160]? = some (.cells #[.int .i64 0, .slice none 0 0] 47 (0, 0))) := ⟨h4_⟩
     have n5_ : Aside0 (w.heap.size ≤ gb160) := ⟨h5_⟩
     have n6_ : Aside0 (w.heap.size ≤ gb160) := ⟨h6_⟩
     have n7_ : Aside0 (gb146 ≠ gb160) := ⟨h7_⟩
     have n8_ : Aside0 (gb160 ≠ gb146) := ⟨h8_⟩
     have n9_ : Aside0 (gb147 ≠ gb160) := ⟨h9_⟩
     have n10_ : Aside0 (gb160 ≠ gb147) := ⟨h10_⟩
     have n11_ : Aside0 (Below w.heap.size w w46) := ⟨h11_⟩
     clear BK146
     clear BK147
     clear HB
     clear h0_ h1_ h2_ h3_ h4_ h5_ h6_ h7_ h8_ h9_ h10_ h11_
     have HO156 := n0_
     have HO159 := n1_
     have BK146 := n2_
     have BK147 := n3_
     have BK160 := n4_
     have GW160 := n5_
     have GE160 := n6_
     have NB146_160 := n7_
     have NB160_146 := n8_
     have NB147_160 := n9_
     have NB160_147 := n10_
     have HB := n11_
     clear n0_ n1_ n2_ n3_ n4_ n5_ n6_ n7_ n8_ n9_ n10_ n11_
     have hHeld : w46.cell? ⟨gb146, 0, none⟩ = some (.int .i64 a1_0) ∧ w46.cell? ⟨gb146, 1, none⟩ = some (.slice A1_1 l1_1.length c1_1) := hS_
     obtain ⟨Ao47, co47, eo47⟩ := Kd.R_slice HO159.out
     (first | subst eo47 | (injection eo47 with f1_ f2_ f3_; have f4_ := f1_.symm; have f5_ := f3_.symm; clear f1_ f2_ f3_; subst f4_; subst f5_))
     refine norm_ (a' := ?_) ?_ ?_
     rotate_left
     ·simp only [putAll, Act.put, List.setIfInBounds_toArray, List.set_cons_zero, List.set_cons_succ]
      rfl
     refine one_ (i := 11) (N := none) #[true, true, true, true, true, true, true, true, true, true, true, true] rfl rfl (one_of HT_.out (by kernel_rfl)) (by decide) (fun K hK => ?_)
     have hs48 : w46.cell? ⟨gb160, 0, none⟩ = some (.int .i64 0) := (blk_cell BK160.out 0).trans rfl
     have hfs48 := blk_frozen BK160.out 0
     have hns48_0 := NB146_160.out
     have hns48_1 := NB147_160.out
     have hms48_0 := NB160_146.out
     have hms48_1 := NB160_147.out
     have hs49 : w46.cell? ⟨gb160, 1, none⟩ = some (.slice none 0 0) := (blk_cell BK160.out 1).trans rfl
     have hfs49 := blk_frozen BK160.out 1
     have hns49_0 := NB146_160.out
     have hns49_1 := NB147_160.out
     have hms49_0 := NB160_146.out
     have hms49_1 := NB160_147.out
     refine skip_ (w1 := ?_) (by rfl) rfl ?_ ?_
     rotate_left
     ·go_simp
      rfl
     refine hK.out _ _ ⟨((cell_far (p := ⟨gb160, _, none⟩) NB146_160.out _).trans (((cell_far (p := ⟨gb160, _, none⟩) NB146_160.out _).trans (hHeld.1)))), ((cell_far (p := ⟨gb160, _, none⟩) NB146_160.out _).trans (((cell_far (p := ⟨gb160, _, none⟩) NB146_160.out _).trans (hHeld.2))))⟩ (fun hHeld => ?_)
     clear hK K
     refine done_ (done_of HT_.out (by kernel_rfl)) ?_
     have hnb50 := NB146_147.out
     have hnc50 := NB147_146.out
     have hnb51 := NB146_160.out
     have hnc51 := NB160_146.out
     have hcz52_0 : w46.cell? ⟨gb146, 0, none⟩ = some (.int .i64 a1_0) := (blk_cell BK146.out 0).trans rfl
     have hcz52_1 : w46.cell? ⟨gb146, 1, none⟩ = some (.slice A1_1 l1_1.length c1_1) := (blk_cell BK146.out 1).trans rfl
     have hfz52_0 := blk_frozen BK146.out 0
     have hfz52_1 := blk_frozen BK146.out 1
     try go_wp2_with (first | ((with_reducible refine gate_callee (f := 43) rfl ?_); refine goesL_ (some 19) rfl rfl Try.func43 (by kernel_rfl) rfl #[.int .i64 a0, .agg #[.int .i64 a1_0, .slice A1_1 l1_1.length c1_1]] rfl pwy_ ?_; (with_reducible refine (spec_ClaimOk.calls k a0 a1_0 _ _ l1_1 true _ ?side1 ?side2 A5.out).mono ?_); (case side1 => exact Kd.C_below HR1_1.out pwdd_); (case side2 => exact HC1_1.out); rintro e w53 ⟨rfl, hb⟩; refine ⟨_, rfl, ?_⟩; have n0_ := Aside0.mk (Kd.R_below (by (with_reducible repeat apply Kd.R_alloc); exact (Kd.R_mono (Kd.R_far (p := ⟨gb160, 1, none⟩) (Kd.R_far (p := ⟨gb160, 0, none⟩) (Kd.R_types HO156.out BK160.out (by decide)) (fun _ hk => hk.2) (.int .i64 a1_0)) (fun _ hk => hk.2) (.slice Ao47 y157.length co47)) (fun _ h_ => h_.1))) hb); have n1_ := Aside0.mk (Kd.R_below (by (with_reducible repeat apply Kd.R_alloc); exact (Kd.R_mono (Kd.R_far (p := ⟨gb160, 1, none⟩) (Kd.R_far (p := ⟨gb160, 0, none⟩) (Kd.R_types HO159.out BK160.out (by decide)) (fun _ hk => hk.2) (.int .i64 a1_0)) (fun _ hk => hk.2) (.slice Ao47 y157.length co47)) (fun _ h_ => h_.1))) hb); have n2_ := Aside0.mk (blk_below (g := gb146) (o := .cells #[.int .i64 a1_0, .slice A1_1 l1_1.length c1_1] 47 (0, 0)) pwff_ hb); have n3_ := Aside0.mk (blk_below (g := gb147) (o := .cells #[.int .i64 0, .slice none 0 0] 47 (0, 0)) pwgg_ hb); have n4_ := Aside0.mk (blk_below (g := gb160) (o := .cells #[.int .i64 a1_0, .slice Ao47 y157.length co47] 47 (0, 0)) pwhh_ hb); have n5_ := Aside0.mk (below_step pwdd_ hb); clear HO156; clear HO159; clear BK146; clear BK147; clear BK160; clear HB; have HO156 := n0_; have HO159 := n1_; have BK146 := n2_; have BK147 := n3_; have BK160 := n4_; have HB := n5_; clear n0_ n1_ n2_ n3_ n4_ n5_; (try clear hb); (try clear hb2); (try clear hk); (try clear hi); have hnb54 := NB160_147.out; have hnc54 := NB147_160.out; have hcz55_0 : w53.cell? ⟨gb160, 0, none⟩ = some (.int .i64 a1_0) := (blk_cell BK160.out 0).trans rfl; have hcz55_1 : w53.cell? ⟨gb160, 1, none⟩ = some (.slice Ao47 y157.length co47) := (blk_cell BK160.out 1).trans rfl; have hfz55_0 := blk_frozen BK160.out 0; have hfz55_1 := blk_frozen BK160.out 1) | (go_at_call 43; (with_reducible refine (spec_ClaimOk.calls k a0 a1_0 _ _ y157 false _ ?side1 ?side2 A7.out).mono ?_); (case side1 => repeat (first | exact (Kd.R_reads' HO159.out).2.2 | (with_reducible refine Kd.C_alloc ?_ _) | (with_reducible refine Kd.C_drewN ?_ _) | (with_reducible refine Kd.C_drew ?_))); (case side2 => exact (Kd.R_reads' HO159.out).2.1); rintro e w56 ⟨rfl, hb⟩; have n0_ := Aside0.mk (Kd.R_below (by (with_reducible repeat apply Kd.R_alloc); exact HO156.out) hb); have n1_ := Aside0.mk (Kd.R_below (by (with_reducible repeat apply Kd.R_alloc); exact HO159.out) hb); have n2_ := Aside0.mk (blk_below (g := gb146) (o := .cells #[.int .i64 a1_0, .slice A1_1 l1_1.length c1_1] 47 (0, 0)) pwl_ hb); have n3_ := Aside0.mk (blk_below (g := gb147) (o := .cells #[.int .i64 0, .slice none 0 0] 47 (0, 0)) pwm_ hb); have n4_ := Aside0.mk (blk_below (g := gb160) (o := .cells #[.int .i64 a1_0, .slice Ao47 y157.length co47] 47 (0, 0)) pwn_ hb); have n5_ := Aside0.mk (below_step pwdd_ hb); clear HO156; clear HO159; clear BK146; clear BK147; clear BK160; clear HB; have HO156 := n0_; have HO159 := n1_; have BK146 := n2_; have BK147 := n3_; have BK160 := n4_; have HB := n5_; clear n0_ n1_ n2_ n3_ n4_ n5_; (try clear hb); (try clear hb2); (try clear hk); (try clear hi); have hcz57_0 : w56.cell? ⟨gb147, 0, none⟩ = some (.int .i64 0) := (blk_cell BK147.out 0).trans rfl; have hcz57_1 : w56.cell? ⟨gb147, 1, none⟩ = some (.slice none 0 0) := (blk_cell BK147.out 1).trans rfl; have hfz57_0 := blk_frozen BK147.out 0; have hfz57_1 := blk_frozen BK147.out 1))
     refine bodyPost_ret (results_ct rfl _ _ gb147 47 #[.int .i64 0, .slice none 0 0] (0, 0) _ rfl (by (with_reducible repeat (first | refine blk_drewN ?_ _ | refine blk_drew ?_ | refine blk_alloc ?_ _)); refine blk_put (cs := #[.int .i64 0, .slice none 0 0]) ?_ 1 _ rfl; (with_reducible repeat (first | refine blk_drewN ?_ _ | refine blk_drew ?_ | refine blk_alloc ?_ _)); refine blk_put (cs := #[.int .i64 0, .slice none 0 0]) ?_ 0 _ rfl; (with_reducible repeat (first | refine blk_drewN ?_ _ | refine blk_drew ?_ | refine blk_alloc ?_ _)); exact BK147.out) Try.underlying47 rfl (by kernel_rfl)) rfl ?_
     exact ⟨_, by first | rfl | (simp [errW_none, errW_some] <;> rfl) | (simp [*, errW_none, errW_some] <;> rfl), by first | exact Kd.R_nil _ _ _ _ _ | exact Kd.N_nil _ _ _ _ _ | exact Kd.V_nil _ _ _ _ _ | exact Kd.Q_nil _ _ _ _ _ | exact Kd.S_nil _ _ _ _ _, pwdd_⟩
   ·replace c6 := Bool.eq_false_iff.mpr c6
    subst c6
    have H1 : (some (0, ([] : List (S62)), false)) = some (r1, r2, r3) := by rw [if_neg (show ¬ (false = true) by decide)] at H; exact H
    clear H
    have H := H1
    clear H1
    simp only [Option.some.injEq, Prod.mk.injEq] at H
    obtain ⟨rfl, rfl, rfl⟩ := H
    exact absurd (Option.some.inj (hy.symm.trans A5.out)).symm (by first | decide | assumption)
  ·rw [if_neg c4] at H
   exact absurd H (by simp)
 ·rw [if_neg c3] at H
  exact absurd H (by simp)
end Go.Proofs.Ytfhmafmfaoknlaa.PFnExactDenyClaim
