-- Made by a program of this session (wip/tools/patchprint.py), not by the kit itself.
import Derived.Test.YtigkmppgbaoafaaPFnFollowsOkx0
import Derived.Test.YtigkmppgbaoafaaPFnFollowsOkx2
import Derived.Test.YtigkmppgbaoafaaPFnFollowsOkx3
namespace Go.Proofs.Ytigkmppgbaoafaa.PFnFollowsOk
open Go.RowKit Go.Proofs.YtigkmppgbaoafaaW.PrintWords Go.Proofs.YtigkmppgbaoafaaW.PrintLast Go.Proofs.YtigkmppgbaoafaaW.PrintMore
attribute [local go_sem] max2_int min2_int max_two min_two max_three min_three max_four min_four   -- for this text's walks alone
set_option linter.unusedVariables false
set_option linter.unusedSimpArgs false

attribute [local go_sem] setCell_isSome
/-! ### a table out of what holds in each world (tableBy, by hand) -/
def tb.l0 (h : Int → Option Bool) : Nat → Int → Int → Int → Option Int
 | 0, _, _, _ => none
 | k + 1, t, n, i => if i < n then (if 0 ≤ i then ((h i).bind fun b => (if b = true then (tb.l0 h k (Go.bits .or .i64 t (shl .i64 1 i)) n (wrap64 (i + 1))) else (tb.l0 h k t n (wrap64 (i + 1))))) else none) else some t
def tb.f (h : Int → Option Bool) (p : Int) : Option Int := if 0 ≤ p then tb.l0 h 17 0 (shl .i64 1 p) 0 else none
theorem tb.mono_l (h h' : Int → Option Bool) (hh : ∀ i, LeO (h i) (h' i)) : ∀ k t n i, LeO (tb.l0 h k t n i) (tb.l0 h' k t n i) := by
 intro k
 induction k with
 | zero => intro t n i r hr; simp [tb.l0] at hr
 | succ k ih =>
  intro t n i
  unfold tb.l0
  refine LeO.ite (LeO.ite (LeO.bind (hh i) (fun b => LeO.ite (ih _ _ _) (ih _ _ _))) (LeO.refl _)) (LeO.refl _)
theorem tb.mono (h h' : Int → Option Bool) (hh : ∀ i, LeO (h i) (h' i)) (p : Int) : LeO (tb.f h p) (tb.f h' p) := by
 unfold tb.f
 exact LeO.ite (tb.mono_l h h' hh _ _ _ _) (LeO.refl _)

set_option maxHeartbeats 8000000 in
set_option maxRecDepth 100000 in
theorem tb.calls52 (h : Int → Option Bool) (G1 : Value) (a0 : Int) (r : Int) (w : World)
  (Hf : ∀ (i : Int) (b : Bool) (W : World), Below w.heap.size w W → h i = some b → Calls Try.prog 52 #[.int .i64 i, G1] W fun e w' => e = .returned (.bool b) ∧ Below W.heap.size W w')
  (hr : tb.f h a0 = some r) :
  Calls Try.prog 51 #[.int .i64 a0, .func (.func 52) #[] #[G1]] w fun e w' => e = .returned (.int .i64 r) ∧ Below w.heap.size w w' := by
 have HF := Aside0.mk Hf
 clear Hf
 have HB := Aside0.mk (Below.refl w.heap.size w)
 have H : (if 0 ≤ a0 then tb.l0 h 17 0 (shl .i64 1 a0) 0 else none) = some r := hr
 clear hr
 by_cases c5 : 0 ≤ a0
 ·rw [if_pos c5] at H
  have c5b0 := eq_true c5
  have c5b1 : decide (0 ≤ a0) = true := decide_eq_true c5
  clear c5
  obtain ⟨ji6, hji6⟩ : ∃ j_ : Int, (shl .i64 1 a0) = j_ := ⟨_, rfl⟩
  replace H : (tb.l0 h 17 0 ji6 0) = some r := by rw [hji6] at H; exact H
  have hji6_ : (IntKind.i64.wrap (1 * 2 ^ min a0.toNat 64)) = ji6 := hji6
  have hji6z : a0 ≤ 64 → (IntKind.i64.wrap (1 * 2 ^ a0.toNat)) = ji6 := shl_small hji6
  have hji6u : (IntKind.i64.wrap (2 ^ min a0.toNat 64)) = ji6 := by have h_ := hji6_; rw [Int.one_mul] at h_; exact h_
  have hji6v : a0 ≤ 64 → (IntKind.i64.wrap (2 ^ a0.toNat)) = ji6 := fun hle_ => by have h_ := hji6z hle_; rw [Int.one_mul] at h_; exact h_
  have hji6y : (wrap64 (1 * 2 ^ min a0.toNat 64)) = ji6 := (i64_w _).symm.trans hji6_
  have hji6x : a0 ≤ 64 → (wrap64 (1 * 2 ^ a0.toNat)) = ji6 := fun h_ => (i64_w _).symm.trans (hji6z h_)
  have H' := Aside0.mk H
  clear H
  go_enter Try.func51, Try.ntmps51
  go_wp2
  go_loopg [5, 9] 17 (fun kq v5 v9 w' => ∃ (x5_1 : Int) (x9_1 : Int), v5 = .int .i64 x5_1 ∧ v9 = .int .i64 x9_1 ∧ Aside0 (tb.l0 h kq x5_1 ji6 x9_1 = some r) ∧ Aside0 (kq ≤ 17) ∧ Aside0 (Below w.heap.size w w'))
  case atStart => exact ⟨0, 0, by rfl, by rfl, H', ⟨Nat.le_refl _⟩, HB⟩
  case round =>
   clear H' HB
   obtain ⟨x5_1, x9_1, rfl, rfl, HA, HK1, HB⟩ := hrel
   cases gk with
   | zero => exact absurd HA.out (by simp [tb.l0])
   | succ k1 =>
    have H := HA.out
    clear HA
    rw [tb.l0] at H
    by_cases c9 : x9_1 < ji6
    ·rw [if_pos c9] at H
     have c9b0 : decide (x9_1 < ji6) = true := decide_eq_true c9
     clear c9
     by_cases c10 : 0 ≤ x9_1
     ·rw [if_pos c10] at H
      have c10b0 := eq_true c10
      have c10b1 : decide (0 ≤ x9_1) = true := decide_eq_true c10
      clear c10
      replace H := Option.bind_eq_some_iff.mp H
      obtain ⟨b, A30, H⟩ := H
      have A3 := Aside0.mk A30
      clear A30
      cases b with
      | true =>
       rw [if_pos rfl] at H
       obtain ⟨ji7, hji7⟩ : ∃ j_ : Int, (shl .i64 1 x9_1) = j_ := ⟨_, rfl⟩
       rw [hji7] at H
       have hji7_ : (IntKind.i64.wrap (1 * 2 ^ min x9_1.toNat 64)) = ji7 := hji7
       have hji7z : x9_1 ≤ 64 → (IntKind.i64.wrap (1 * 2 ^ x9_1.toNat)) = ji7 := shl_small hji7
       have hji7u : (IntKind.i64.wrap (2 ^ min x9_1.toNat 64)) = ji7 := by have h_ := hji7_; rw [Int.one_mul] at h_; exact h_
       have hji7v : x9_1 ≤ 64 → (IntKind.i64.wrap (2 ^ x9_1.toNat)) = ji7 := fun hle_ => by have h_ := hji7z hle_; rw [Int.one_mul] at h_; exact h_
       have hji7y : (wrap64 (1 * 2 ^ min x9_1.toNat 64)) = ji7 := (i64_w _).symm.trans hji7_
       have hji7x : x9_1 ≤ 64 → (wrap64 (1 * 2 ^ x9_1.toNat)) = ji7 := fun h_ => (i64_w _).symm.trans (hji7z h_)
       have H' := Aside0.mk H
       clear H
       go_wp2_with (first | (go_at_call 52; (with_reducible refine (HF.out x9_1 true _ ?hb A3.out).mono ?_); (case hb => exact pwg_); rintro e w' ⟨rfl, hb⟩; have n1_ := Aside0.mk (below_step pwg_ hb); clear HB; have HB := n1_; clear n1_ hb))
       go_roundg k1
       case measure => have := HK1.out; omega
       case rel => exact ⟨_, _, by first | rfl | (simp; done) | (simp only [← hji7] <;> (first | rfl | simp)) | (simp [*]; done), pwa_, H', ⟨by have := HK1.out; omega⟩, ⟨pwg_⟩⟩
      | false =>
       rw [if_neg (by decide)] at H
       have H' := Aside0.mk H
       clear H
       go_wp2_with (first | (go_at_call 52; (with_reducible refine (HF.out x9_1 false _ ?hb A3.out).mono ?_); (case hb => exact pwg_); rintro e w' ⟨rfl, hb⟩; have n1_ := Aside0.mk (below_step pwg_ hb); clear HB; have HB := n1_; clear n1_ hb))
       go_roundg k1
       case measure => have := HK1.out; omega
       case rel => exact ⟨_, _, pwa_, pwa_, H', ⟨by have := HK1.out; omega⟩, ⟨pwg_⟩⟩
     ·rw [if_neg c10] at H
      exact absurd H (by simp)
    ·rw [if_neg c9] at H
     have c9b0 : decide (x9_1 < ji6) = false := decide_eq_false c9
     clear c9
     obtain rfl := Option.some.inj H
     go_wp2
     go_ret
     exact ⟨pwa_, pwg_⟩
 ·rw [if_neg c5] at H
  exact absurd H (by simp)

set_option maxHeartbeats 4000000 in
set_option maxRecDepth 100000 in
theorem tof1.calls (k : Nat) (g : Nat) (A1 : Option Addr) (c1 : Nat) (l1 : List S41) (i : Int) (b : Bool) (W : World) (hg : W.cell? ⟨g, 0, none⟩ = some (.slice A1 l1.length c1)) (hr1 : Kd.C k41 W A1 l1.length l1) (hc1 : l1.length ≤ c1) (h : impl_holds.f k l1 i = some b) :
  Calls Try.prog 52 #[.int .i64 i, .pointer (some ⟨g, 0, none⟩)] W fun e w' => e = .returned (.bool b) ∧ Below W.heap.size W w' := by
 have HB := Aside0.mk (Below.refl W.heap.size W)
 have HH := Aside0.mk h
 have HR := Aside0.mk hr1
 have HC := Aside0.mk hc1
 clear h hr1 hc1
 go_enter Try.func52, Try.ntmps52
 go_wp2_with (first | (go_at_call 53; (with_reducible refine (impl_holds.calls k _ _ l1 i b _ ?hr HC.out HH.out).mono ?_); (case hr => exact (Kd.C_below HR.out pwg_)); rintro e w' ⟨rfl, hb⟩; have n1_ := Aside0.mk (below_step pwg_ hb); clear HB; have HB := n1_; clear n1_ hb))
 go_ret
 exact ⟨rfl, pwg_⟩
def impl_TableOf.f (k : Nat) (a0 : Int) (l1 : List S41) : Option Int := (impl_TermOk.f k a0 l1).bind fun t => (if t = true then (tb.f (fun i => impl_holds.f k l1 i) a0) else (some (-1)))
theorem impl_TableOf.mono : ∀ a0 a1 k, LeO (impl_TableOf.f k a0 a1) (impl_TableOf.f (k + 1) a0 a1) := by
 intro a0 a1 k
 unfold impl_TableOf.f
 exact LeO.bind (impl_TermOk.mono _ _ _) (fun t => LeO.ite (tb.mono _ _ (fun i => impl_holds.mono _ _ _) _) (LeO.refl _))
set_option maxHeartbeats 4000000 in
set_option maxRecDepth 100000 in
theorem impl_TableOf.calls (k : Nat) (a0 : Int) (A1 : Option Addr) (c1 : Nat) (l1 : List S41) (r : Int) (w : World) (hr1 : Kd.C k41 w A1 l1.length l1) (hc1 : l1.length ≤ c1) (h : impl_TableOf.f k a0 l1 = some r) :
  Calls Try.prog 18 #[.int .i64 a0, .slice A1 l1.length c1] w fun e w' => e = .returned (.int .i64 r) ∧ Below w.heap.size w w' := by
 have hmf : ∀ (fn : Fn) (first cap : Array Value) (w : World), (Instr.makeFunc fn first cap).run Try.prog w = .ok (.func fn first cap) w := fun _ _ _ _ => rfl
 have HB := Aside0.mk (Below.refl w.heap.size w)
 have H : ((impl_TermOk.f k a0 l1).bind fun t => (if t = true then (tb.f (fun i => impl_holds.f k l1 i) a0) else (some (-1)))) = some r := h
 clear h
 have HR := Aside0.mk hr1
 have HC := Aside0.mk hc1
 clear hr1 hc1
 replace H := Option.bind_eq_some_iff.mp H
 obtain ⟨t, A30, H⟩ := H
 have A3 := Aside0.mk A30
 clear A30
 cases t with
 | false =>
  rw [if_neg (by decide)] at H
  obtain rfl := Option.some.inj H
  go_enter Try.func18, Try.ntmps18
  go_wp2_with (first | (go_at_call 20; (with_reducible refine (impl_TermOk.calls k a0 _ _ l1 false _ ?hr HC.out A3.out).mono ?_); (case hr => exact (Kd.C_below HR.out pwg_)); rintro e w' ⟨rfl, hb⟩; have n1_ := Aside0.mk (below_step pwg_ hb); clear HB; have HB := n1_; clear n1_ hb))
  go_ret
  exact ⟨rfl, pwg_⟩
 | true =>
  rw [if_pos rfl] at H
  have HT := Aside0.mk H
  clear H
  go_enter Try.func18, Try.ntmps18
  go_wp2_with (first | (go_at_call 20; (with_reducible refine (impl_TermOk.calls k a0 _ _ l1 true _ ?hr HC.out A3.out).mono ?_); (case hr => exact (Kd.C_below HR.out pwg_)); rintro e w' ⟨rfl, hb⟩; have HX := Aside0.mk (show _ = _ from hb.cell (p := ⟨w.heap.size, 0, none⟩) (by simp)); have n1_ := Aside0.mk (below_step pwg_ hb); clear HB; have HB := n1_; clear n1_ hb))
  have HX2 := Aside0.mk (HX.out.trans (show _ = some (Value.slice A1 l1.length c1) by go_simp))
  refine (tb.calls52 (fun i => impl_holds.f k l1 i) (.pointer (some ⟨w.heap.size, 0, none⟩)) a0 r _ ?Hf HT.out).mono ?_
  case Hf => exact fun i b W hW hh => tof1.calls k w.heap.size A1 c1 l1 i b W (pw_cell_below hW HX2.out) (Kd.C_below (Kd.C_below HR.out HB.out) hW) HC.out hh
  rintro e w'' ⟨rfl, hb⟩
  have n1_ := Aside0.mk (below_step HB.out hb)
  clear HB
  have HB := n1_
  clear n1_ hb
  go_wp2
  go_ret
  exact ⟨rfl, pwg_⟩


/-! ### impl_FollowsOk: function 29 -/
def impl_FollowsOk.f (k : Nat) (a0 : Int) (l1 : List (S41)) (l2 : List (S41)) : Option (Bool) := (impl_TermOk.f k a0 l1).bind fun t133 => (if t133 = true then ((impl_TermOk.f k a0 l2).bind fun t134 => (if t134 = true then ((impl_TableOf.f k a0 l1).bind fun t135 => ((impl_TableOf.f k a0 l2).bind fun t136 => (some ((Go.bits .andNot .i64 t135 t136) == 0)))) else (some false))) else (some false))
theorem impl_FollowsOk.mono : ∀ a0 a1 a2 k, LeO (impl_FollowsOk.f k a0 a1 a2) (impl_FollowsOk.f (k + 1) a0 a1 a2) := by
 intro a0 a1 a2 k
 unfold impl_FollowsOk.f
 repeat' first
   | (with_reducible exact impl_TableOf.mono _ _ _)
   | (with_reducible exact impl_TermOk.mono _ _ _)
   | (with_reducible exact LeO.refl _)
   | (with_reducible exact LeO.none _)
   | (with_reducible refine LeO.ite ?_ ?_)
   | (with_reducible refine LeO.bind ?_ (fun _ => ?_))
   | exact impl_TableOf.mono _ _ _
   | exact impl_TermOk.mono _ _ _
   | exact LeO.none _
   | refine LeO.ite ?_ ?_
   | refine LeO.bind ?_ (fun _ => ?_)
set_option maxHeartbeats 8000000 in
set_option maxRecDepth 100000 in
theorem impl_FollowsOk.calls (k : Nat) (a0 : Int) (A1 : Option Addr) (c1 : Nat) (l1 : List (S41)) (A2 : Option Addr) (c2 : Nat) (l2 : List (S41)) (r : Bool) (w : World) (hr1 : Kd.C k41 w A1 l1.length l1) (hc1 : l1.length ≤ c1) (hr2 : Kd.C k41 w A2 l2.length l2) (hc2 : l2.length ≤ c2) (h : impl_FollowsOk.f k a0 l1 l2 = some r) :
  Calls Try.prog 29 #[.int .i64 a0, .slice A1 l1.length c1, .slice A2 l2.length c2] w fun e w' => e = .returned (.bool r) ∧ Below w.heap.size w w' := by
 have HR1 := Aside0.mk hr1
 have HC1 := Aside0.mk hc1
 clear hr1 hc1
 have HR2 := Aside0.mk hr2
 have HC2 := Aside0.mk hc2
 clear hr2 hc2
 have HB := Aside0.mk (Below.refl w.heap.size w)
 have H : ((impl_TermOk.f k a0 l1).bind fun t133 => (if t133 = true then ((impl_TermOk.f k a0 l2).bind fun t134 => (if t134 = true then ((impl_TableOf.f k a0 l1).bind fun t135 => ((impl_TableOf.f k a0 l2).bind fun t136 => (some ((Go.bits .andNot .i64 t135 t136) == 0)))) else (some false))) else (some false))) = some r := h
 clear h
 replace H := Option.bind_eq_some_iff.mp H
 obtain ⟨t133, A40, H⟩ := H
 replace H : (if t133 = true then ((impl_TermOk.f k a0 l2).bind fun t134 => (if t134 = true then ((impl_TableOf.f k a0 l1).bind fun t135 => ((impl_TableOf.f k a0 l2).bind fun t136 => (some ((Go.bits .andNot .i64 t135 t136) == 0)))) else (some false))) else (some false)) = some r := H
 have A4 := Aside0.mk A40
 clear A40
 by_cases c5 : t133 = true
 ·subst c5
  have H1 : ((impl_TermOk.f k a0 l2).bind fun t134 => (if t134 = true then ((impl_TableOf.f k a0 l1).bind fun t135 => ((impl_TableOf.f k a0 l2).bind fun t136 => (some ((Go.bits .andNot .i64 t135 t136) == 0)))) else (some false))) = some r := by rw [if_pos rfl] at H; exact H
  clear H
  have H := H1
  clear H1
  replace H := Option.bind_eq_some_iff.mp H
  obtain ⟨t134, A60, H⟩ := H
  replace H : (if t134 = true then ((impl_TableOf.f k a0 l1).bind fun t135 => ((impl_TableOf.f k a0 l2).bind fun t136 => (some ((Go.bits .andNot .i64 t135 t136) == 0)))) else (some false)) = some r := H
  have A6 := Aside0.mk A60
  clear A60
  by_cases c7 : t134 = true
  ·subst c7
   have H1 : ((impl_TableOf.f k a0 l1).bind fun t135 => ((impl_TableOf.f k a0 l2).bind fun t136 => (some ((Go.bits .andNot .i64 t135 t136) == 0)))) = some r := by rw [if_pos rfl] at H; exact H
   clear H
   have H := H1
   clear H1
   replace H := Option.bind_eq_some_iff.mp H
   obtain ⟨t135, A80, H⟩ := H
   replace H : ((impl_TableOf.f k a0 l2).bind fun t136 => (some ((Go.bits .andNot .i64 t135 t136) == 0))) = some r := H
   have A8 := Aside0.mk A80
   clear A80
   replace H := Option.bind_eq_some_iff.mp H
   obtain ⟨t136, A90, H⟩ := H
   replace H : (some ((Go.bits .andNot .i64 t135 t136) == 0)) = some r := H
   have A9 := Aside0.mk A90
   clear A90
   obtain rfl := Option.some.inj H
   go_enter Try.func29, Try.ntmps29
   go_wp2_with (first | ((with_reducible refine gate_callee (f := 20) rfl ?_); refine goesL_ (some 9) rfl rfl Try.func20 (by kernel_rfl) rfl #[.int .i64 a0, .slice A1 l1.length c1] rfl pwi_ ?_; (with_reducible refine (impl_TermOk.calls k a0 _ _ l1 true _ ?side1 ?side2 A4.out).mono ?_); (case side1 => repeat (first | exact HR1.out | (with_reducible refine Kd.C_alloc ?_ _) | (with_reducible refine Kd.C_drewN ?_ _) | (with_reducible refine Kd.C_drew ?_))); (case side2 => exact HC1.out); rintro e w10 ⟨rfl, hb⟩; refine ⟨_, rfl, ?_⟩; have n0_ := Aside0.mk (below_step pwg_ hb); clear HB; have HB := n0_; clear n0_; (try clear hb); (try clear hb2); (try clear hk); (try clear hi)) | (go_at_call 20; (with_reducible refine (impl_TermOk.calls k a0 _ _ l2 true _ ?side1 ?side2 A6.out).mono ?_); (case side1 => repeat (first | exact (Kd.C_below HR2.out HB.out) | (with_reducible refine Kd.C_alloc ?_ _) | (with_reducible refine Kd.C_drewN ?_ _) | (with_reducible refine Kd.C_drew ?_))); (case side2 => exact HC2.out); rintro e w11 ⟨rfl, hb⟩; have n0_ := Aside0.mk (below_step pwg_ hb); clear HB; have HB := n0_; clear n0_; (try clear hb); (try clear hb2); (try clear hk); (try clear hi)) | (go_at_call 18; (with_reducible refine (impl_TableOf.calls k a0 _ _ l1 t135 _ ?side1 ?side2 A8.out).mono ?_); (case side1 => repeat (first | exact (Kd.C_below HR1.out HB.out) | (with_reducible refine Kd.C_alloc ?_ _) | (with_reducible refine Kd.C_drewN ?_ _) | (with_reducible refine Kd.C_drew ?_))); (case side2 => exact HC1.out); rintro e w12 ⟨rfl, hb⟩; have n0_ := Aside0.mk (below_step pwg_ hb); clear HB; have HB := n0_; clear n0_; (try clear hb); (try clear hb2); (try clear hk); (try clear hi)) | (go_at_call 18; (with_reducible refine (impl_TableOf.calls k a0 _ _ l2 t136 _ ?side1 ?side2 A9.out).mono ?_); (case side1 => repeat (first | exact (Kd.C_below HR2.out HB.out) | (with_reducible refine Kd.C_alloc ?_ _) | (with_reducible refine Kd.C_drewN ?_ _) | (with_reducible refine Kd.C_drew ?_))); (case side2 => exact HC2.out); rintro e w13 ⟨rfl, hb⟩; have n0_ := Aside0.mk (below_step pwg_ hb); clear HB; have HB := n0_; clear n0_; (try clear hb); (try clear hb2); (try clear hk); (try clear hi)))
   go_ret
   exact ⟨by first | rfl | (simp [errW_none, errW_some] <;> rfl) | (simp [*, errW_none, errW_some] <;> rfl), pwg_⟩
  ·replace c7 := Bool.eq_false_iff.mpr c7
   subst c7
   have H1 : (some false) = some r := by rw [if_neg (show ¬ (false = true) by decide)] at H; exact H
   clear H
   have H := H1
   clear H1
   obtain rfl := Option.some.inj H
   go_enter Try.func29, Try.ntmps29
   go_wp2_with (first | ((with_reducible refine gate_callee (f := 20) rfl ?_); refine goesL_ (some 9) rfl rfl Try.func20 (by kernel_rfl) rfl #[.int .i64 a0, .slice A1 l1.length c1] rfl pwi_ ?_; (with_reducible refine (impl_TermOk.calls k a0 _ _ l1 true _ ?side1 ?side2 A4.out).mono ?_); (case side1 => repeat (first | exact HR1.out | (with_reducible refine Kd.C_alloc ?_ _) | (with_reducible refine Kd.C_drewN ?_ _) | (with_reducible refine Kd.C_drew ?_))); (case side2 => exact HC1.out); rintro e w14 ⟨rfl, hb⟩; refine ⟨_, rfl, ?_⟩; have n0_ := Aside0.mk (below_step pwg_ hb); clear HB; have HB := n0_; clear n0_; (try clear hb); (try clear hb2); (try clear hk); (try clear hi)) | (go_at_call 20; (with_reducible refine (impl_TermOk.calls k a0 _ _ l2 false _ ?side1 ?side2 A6.out).mono ?_); (case side1 => repeat (first | exact (Kd.C_below HR2.out HB.out) | (with_reducible refine Kd.C_alloc ?_ _) | (with_reducible refine Kd.C_drewN ?_ _) | (with_reducible refine Kd.C_drew ?_))); (case side2 => exact HC2.out); rintro e w15 ⟨rfl, hb⟩; have n0_ := Aside0.mk (below_step pwg_ hb); clear HB; have HB := n0_; clear n0_; (try clear hb); (try clear hb2); (try clear hk); (try clear hi)))
   go_ret
   exact ⟨by first | rfl | (simp [errW_none, errW_some] <;> rfl) | (simp [*, errW_none, errW_some] <;> rfl), pwg_⟩
 ·replace c5 := Bool.eq_false_iff.mpr c5
  subst c5
  have H1 : (some false) = some r := by rw [if_neg (show ¬ (false = true) by decide)] at H; exact H
  clear H
  have H := H1
  clear H1
  obtain rfl := Option.some.inj H
  go_enter Try.func29, Try.ntmps29
  go_wp2_with (first | ((with_reducible refine gate_callee (f := 20) rfl ?_); refine goesL_ (some 9) rfl rfl Try.func20 (by kernel_rfl) rfl #[.int .i64 a0, .slice A1 l1.length c1] rfl pwi_ ?_; (with_reducible refine (impl_TermOk.calls k a0 _ _ l1 false _ ?side1 ?side2 A4.out).mono ?_); (case side1 => repeat (first | exact HR1.out | (with_reducible refine Kd.C_alloc ?_ _) | (with_reducible refine Kd.C_drewN ?_ _) | (with_reducible refine Kd.C_drew ?_))); (case side2 => exact HC1.out); rintro e w16 ⟨rfl, hb⟩; refine ⟨_, rfl, ?_⟩; have n0_ := Aside0.mk (below_step pwg_ hb); clear HB; have HB := n0_; clear n0_; (try clear hb); (try clear hb2); (try clear hk); (try clear hi)))
  go_ret
  exact ⟨by first | rfl | (simp [errW_none, errW_some] <;> rfl) | (simp [*, errW_none, errW_some] <;> rfl), pwg_⟩

/-! ### spec_l1In: function 63 -/
def spec_l1In.f (a0 : Int) (a1 : Int) (a2 : Int) : Option (Bool) := if a0 ≥ a1 then (some (decide (a0 ≤ a2))) else (some false)
set_option maxHeartbeats 8000000 in
set_option maxRecDepth 100000 in
theorem spec_l1In.calls (a0 : Int) (a1 : Int) (a2 : Int) (r : Bool) (w : World) (h : spec_l1In.f a0 a1 a2 = some r) :
  Calls Try.prog 63 #[.int .i64 a0, .int .i64 a1, .int .i64 a2] w fun e w' => e = .returned (.bool r) ∧ Drawn0 w w' := by
 have H : (if a0 ≥ a1 then (some (decide (a0 ≤ a2))) else (some false)) = some r := h
 clear h
 by_cases c4 : a0 ≥ a1
 ·rw [if_pos c4] at H
  have c4b0 : decide (a1 ≤ a0) = true := decide_eq_true c4
  clear c4
  obtain rfl := Option.some.inj H
  go_enter Try.func63, Try.ntmps63
  go_wp2
  go_ret
  exact ⟨pwa_, by repeat (first | exact Drawn0.refl _ | apply Drawn0.step)⟩
 ·rw [if_neg c4] at H
  have c4b0 : decide (a1 ≤ a0) = false := decide_eq_false c4
  clear c4
  obtain rfl := Option.some.inj H
  go_enter Try.func63, Try.ntmps63
  go_wp2
  go_ret
  exact ⟨pwa_, by repeat (first | exact Drawn0.refl _ | apply Drawn0.step)⟩

end Go.Proofs.Ytigkmppgbaoafaa.PFnFollowsOk
