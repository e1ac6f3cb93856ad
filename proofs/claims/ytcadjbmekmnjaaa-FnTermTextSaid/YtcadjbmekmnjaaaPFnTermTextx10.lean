-- Made by a program of this session (wip/tools/patchprint.py), not by the kit itself.
import Derived.Test.YtcadjbmekmnjaaaPFnTermTextx0
import Derived.Test.YtcadjbmekmnjaaaPFnTermTextx1
import Derived.Test.YtcadjbmekmnjaaaPFnTermTextx4
import Derived.Test.YtcadjbmekmnjaaaPFnTermTextx6
import Derived.Test.YtcadjbmekmnjaaaPFnTermTextx8
import Derived.Test.YtcadjbmekmnjaaaPFnTermTextx9
namespace Go.Proofs.Ytcadjbmekmnjaaa.PFnTermText
open Go.RowKit Go.Proofs.YtcadjbmekmnjaaaW.PrintWords Go.Proofs.YtcadjbmekmnjaaaW.PrintLast Go.Proofs.YtcadjbmekmnjaaaW.PrintMore
attribute [local go_sem] max2_int min2_int max_two min_two max_three min_three max_four min_four   -- for this text's walks alone
set_option linter.unusedVariables false
set_option linter.unusedSimpArgs false

attribute [local go_sem] setCell_isSome
attribute [local go_sem high] eqA39


/-! ### impl_readPart, impl_readRowC, impl_readAnd, impl_readRowB, impl_readOr, impl_readRowA, impl_readSame, which call each other -/
mutual
def impl_readPart.j0 : Nat → ByteArray → Int → ByteArray → Bool → Option ((List (S39)) × ByteArray × Bool)
 | 0, _, _, _, _ => none
 | k + 1, x0, x5, x6, x21 => if x21 = true then (some ((([(⟨0, (x5 - 97) % 256⟩ : S39)] : List (S39))), x6, true)) else (if x5 ≥ 48 then (impl_readPart.j1 k x0 x5 x6 (decide (x5 ≤ 57))) else (impl_readPart.j1 k x0 x5 x6 false))
def impl_readPart.j1 : Nat → ByteArray → Int → ByteArray → Bool → Option ((List (S39)) × ByteArray × Bool)
 | 0, _, _, _, _ => none
 | k + 1, x0, x5, x6, x34 => if x34 = true then (some ((([(⟨1, (x5 - 48) % 256⟩ : S39)] : List (S39))), x6, true)) else (if x5 = 33 then ((impl_readPart.f k x6).bind fun bt374 => (if bt374.1.length < 8796093022208 then (some ((bt374.1 ++ [(⟨2, 0⟩ : S39)]), bt374.2.1, bt374.2.2)) else (none))) else (if x5 = 40 then ((impl_readSame.f k x6).bind fun bt382 => ((strings_CutPrefix.f bt382.2.1 (⟨#[41]⟩ : ByteArray)).bind fun bt387 => (if bt382.2.2 = true then (some (bt382.1, bt387.1, bt387.2)) else (some (bt382.1, bt387.1, false))))) else (some (([] : List (S39)), x0, false))))
def impl_readPart.f : Nat → ByteArray → Option ((List (S39)) × ByteArray × Bool)
 | 0, _ => none
 | k + 1, a0 => if a0.toList = ([] : List UInt8) then (some (([] : List (S39)), a0, false)) else (if 0 < (a0.size : Int) then (if 1 ≤ (a0.size : Int) then (if (bt a0 0) ≥ 97 then (impl_readPart.j0 k a0 (bt a0 0) (a0.extract 1 a0.size) (decide ((bt a0 0) ≤ 122))) else (impl_readPart.j0 k a0 (bt a0 0) (a0.extract 1 a0.size) false)) else (none)) else (none))
def impl_readRowC.l0 : Nat → ByteArray → ByteArray → Int → List (S39) → Bool → Option ((List (S39)) × ByteArray × Bool)
 | 0, _, _, _, _, _ => none
 | k + 1, x0, x1, x2, x11, x12 => if x12 = true then ((strings_CutPrefix.f x0 x1).bind fun bt394 => (if bt394.2 = true then ((impl_readPart.f k bt394.1).bind fun bt396 => (if x11.length + bt396.1.length < 8796093022208 then ((some (x11 ++ bt396.1 : List (S39))).bind fun y401 => (if y401.length < 8796093022208 then (impl_readRowC.l0 k bt396.2.1 x1 x2 (y401 ++ [(⟨x2, 0⟩ : S39)]) bt396.2.2) else (none))) else (none))) else (some (x11, x0, true)))) else (some (([] : List (S39)), x0, false))
def impl_readRowC.f : Nat → ByteArray → ByteArray → Int → Int → Option ((List (S39)) × ByteArray × Bool)
 | 0, _, _, _, _ => none
 | k + 1, a0, a1, a2, a3 => (impl_readPart.f k a0).bind fun bt389 => (impl_readRowC.l0 k bt389.2.1 a1 a2 bt389.1 bt389.2.2)
def impl_readAnd.f : Nat → ByteArray → Option ((List (S39)) × ByteArray × Bool)
 | 0, _ => none
 | k + 1, a0 => (impl_readRowC.f k a0 (⟨#[38]⟩ : ByteArray) 3 777034).bind fun bt407 => (some (bt407.1, bt407.2.1, bt407.2.2))
def impl_readRowB.l0 : Nat → ByteArray → ByteArray → Int → List (S39) → Bool → Option ((List (S39)) × ByteArray × Bool)
 | 0, _, _, _, _, _ => none
 | k + 1, x0, x1, x2, x11, x12 => if x12 = true then ((strings_CutPrefix.f x0 x1).bind fun bt417 => (if bt417.2 = true then ((impl_readAnd.f k bt417.1).bind fun bt419 => (if x11.length + bt419.1.length < 8796093022208 then ((some (x11 ++ bt419.1 : List (S39))).bind fun y424 => (if y424.length < 8796093022208 then (impl_readRowB.l0 k bt419.2.1 x1 x2 (y424 ++ [(⟨x2, 0⟩ : S39)]) bt419.2.2) else (none))) else (none))) else (some (x11, x0, true)))) else (some (([] : List (S39)), x0, false))
def impl_readRowB.f : Nat → ByteArray → ByteArray → Int → Int → Option ((List (S39)) × ByteArray × Bool)
 | 0, _, _, _, _ => none
 | k + 1, a0, a1, a2, a3 => (impl_readAnd.f k a0).bind fun bt412 => (impl_readRowB.l0 k bt412.2.1 a1 a2 bt412.1 bt412.2.2)
def impl_readOr.f : Nat → ByteArray → Option ((List (S39)) × ByteArray × Bool)
 | 0, _ => none
 | k + 1, a0 => (impl_readRowB.f k a0 (⟨#[124]⟩ : ByteArray) 4 777032).bind fun bt430 => (some (bt430.1, bt430.2.1, bt430.2.2))
def impl_readRowA.l0 : Nat → ByteArray → ByteArray → Int → List (S39) → Bool → Option ((List (S39)) × ByteArray × Bool)
 | 0, _, _, _, _, _ => none
 | k + 1, x0, x1, x2, x11, x12 => if x12 = true then ((strings_CutPrefix.f x0 x1).bind fun bt440 => (if bt440.2 = true then ((impl_readOr.f k bt440.1).bind fun bt442 => (if x11.length + bt442.1.length < 8796093022208 then ((some (x11 ++ bt442.1 : List (S39))).bind fun y447 => (if y447.length < 8796093022208 then (impl_readRowA.l0 k bt442.2.1 x1 x2 (y447 ++ [(⟨x2, 0⟩ : S39)]) bt442.2.2) else (none))) else (none))) else (some (x11, x0, true)))) else (some (([] : List (S39)), x0, false))
def impl_readRowA.f : Nat → ByteArray → ByteArray → Int → Int → Option ((List (S39)) × ByteArray × Bool)
 | 0, _, _, _, _ => none
 | k + 1, a0, a1, a2, a3 => (impl_readOr.f k a0).bind fun bt435 => (impl_readRowA.l0 k bt435.2.1 a1 a2 bt435.1 bt435.2.2)
def impl_readSame.f : Nat → ByteArray → Option ((List (S39)) × ByteArray × Bool)
 | 0, _ => none
 | k + 1, a0 => (impl_readRowA.f k a0 (⟨#[61]⟩ : ByteArray) 5 777029).bind fun bt453 => (some (bt453.1, bt453.2.1, bt453.2.2))
end
theorem readSame_readPart_c.mono_l : ∀ k, ((∀ y0, LeO (impl_readPart.f k y0) (impl_readPart.f (k + 1) y0)) ∧ (∀ y0 y1 y2 y3, LeO (impl_readPart.j0 k y0 y1 y2 y3) (impl_readPart.j0 (k + 1) y0 y1 y2 y3)) ∧ (∀ y0 y1 y2 y3, LeO (impl_readPart.j1 k y0 y1 y2 y3) (impl_readPart.j1 (k + 1) y0 y1 y2 y3))) ∧ ((∀ y0 y1 y2 y3, LeO (impl_readRowC.f k y0 y1 y2 y3) (impl_readRowC.f (k + 1) y0 y1 y2 y3)) ∧ (∀ y0 y1 y2 y3 y4, LeO (impl_readRowC.l0 k y0 y1 y2 y3 y4) (impl_readRowC.l0 (k + 1) y0 y1 y2 y3 y4))) ∧ ((∀ y0, LeO (impl_readAnd.f k y0) (impl_readAnd.f (k + 1) y0))) ∧ ((∀ y0 y1 y2 y3, LeO (impl_readRowB.f k y0 y1 y2 y3) (impl_readRowB.f (k + 1) y0 y1 y2 y3)) ∧ (∀ y0 y1 y2 y3 y4, LeO (impl_readRowB.l0 k y0 y1 y2 y3 y4) (impl_readRowB.l0 (k + 1) y0 y1 y2 y3 y4))) ∧ ((∀ y0, LeO (impl_readOr.f k y0) (impl_readOr.f (k + 1) y0))) ∧ ((∀ y0 y1 y2 y3, LeO (impl_readRowA.f k y0 y1 y2 y3) (impl_readRowA.f (k + 1) y0 y1 y2 y3)) ∧ (∀ y0 y1 y2 y3 y4, LeO (impl_readRowA.l0 k y0 y1 y2 y3 y4) (impl_readRowA.l0 (k + 1) y0 y1 y2 y3 y4))) ∧ ((∀ y0, LeO (impl_readSame.f k y0) (impl_readSame.f (k + 1) y0)))
 | 0 => ⟨⟨fun _ r h => by simp [impl_readPart.f] at h, fun _ _ _ _ r h => by simp [impl_readPart.j0] at h, fun _ _ _ _ r h => by simp [impl_readPart.j1] at h⟩, ⟨fun _ _ _ _ r h => by simp [impl_readRowC.f] at h, fun _ _ _ _ _ r h => by simp [impl_readRowC.l0] at h⟩, fun _ r h => by simp [impl_readAnd.f] at h, ⟨fun _ _ _ _ r h => by simp [impl_readRowB.f] at h, fun _ _ _ _ _ r h => by simp [impl_readRowB.l0] at h⟩, fun _ r h => by simp [impl_readOr.f] at h, ⟨fun _ _ _ _ r h => by simp [impl_readRowA.f] at h, fun _ _ _ _ _ r h => by simp [impl_readRowA.l0] at h⟩, fun _ r h => by simp [impl_readSame.f] at h⟩
 | k + 1 => by
  obtain ⟨g0_, g1_, g2_, g3_, g4_, g5_, g6_⟩ := readSame_readPart_c.mono_l k
  refine ⟨?_, ?_, ?_, ?_, ?_, ?_, ?_⟩
  case refine_1 =>
   obtain ⟨ih0, ih1, ih2⟩ := g0_
   refine ⟨?_, ?_, ?_⟩
   ·intro y0
    unfold impl_readPart.f
    repeat' first
    | (with_reducible exact ih0 _)
    | (with_reducible exact ih1 _ _ _ _)
    | (with_reducible exact ih2 _ _ _ _)
    | (with_reducible exact g6_ _)
    | (with_reducible exact LeO.refl _)
    | (with_reducible exact LeO.none _)
    | (with_reducible refine LeO.ite ?_ ?_)
    | (with_reducible refine LeO.bind ?_ (fun _ => ?_))
    | exact ih0 _
    | exact ih1 _ _ _ _
    | exact ih2 _ _ _ _
    | exact g6_ _
    | exact LeO.none _
    | refine LeO.ite ?_ ?_
    | refine LeO.bind ?_ (fun _ => ?_)
   ·intro y0 y1 y2 y3
    unfold impl_readPart.j0
    repeat' first
    | (with_reducible exact ih0 _)
    | (with_reducible exact ih1 _ _ _ _)
    | (with_reducible exact ih2 _ _ _ _)
    | (with_reducible exact g6_ _)
    | (with_reducible exact LeO.refl _)
    | (with_reducible exact LeO.none _)
    | (with_reducible refine LeO.ite ?_ ?_)
    | (with_reducible refine LeO.bind ?_ (fun _ => ?_))
    | exact ih0 _
    | exact ih1 _ _ _ _
    | exact ih2 _ _ _ _
    | exact g6_ _
    | exact LeO.none _
    | refine LeO.ite ?_ ?_
    | refine LeO.bind ?_ (fun _ => ?_)
   ·intro y0 y1 y2 y3
    unfold impl_readPart.j1
    repeat' first
    | (with_reducible exact ih0 _)
    | (with_reducible exact ih1 _ _ _ _)
    | (with_reducible exact ih2 _ _ _ _)
    | (with_reducible exact g6_ _)
    | (with_reducible exact LeO.refl _)
    | (with_reducible exact LeO.none _)
    | (with_reducible refine LeO.ite ?_ ?_)
    | (with_reducible refine LeO.bind ?_ (fun _ => ?_))
    | exact ih0 _
    | exact ih1 _ _ _ _
    | exact ih2 _ _ _ _
    | exact g6_ _
    | exact LeO.none _
    | refine LeO.ite ?_ ?_
    | refine LeO.bind ?_ (fun _ => ?_)
  case refine_2 =>
   obtain ⟨ih0, ih1⟩ := g1_
   refine ⟨?_, ?_⟩
   ·intro y0 y1 y2 y3
    unfold impl_readRowC.f
    repeat' first
    | (with_reducible exact ih0 _ _ _ _)
    | (with_reducible exact ih1 _ _ _ _ _)
    | (with_reducible exact g0_.1 _)
    | (with_reducible exact LeO.refl _)
    | (with_reducible exact LeO.none _)
    | (with_reducible refine LeO.ite ?_ ?_)
    | (with_reducible refine LeO.bind ?_ (fun _ => ?_))
    | exact ih0 _ _ _ _
    | exact ih1 _ _ _ _ _
    | exact g0_.1 _
    | exact LeO.none _
    | refine LeO.ite ?_ ?_
    | refine LeO.bind ?_ (fun _ => ?_)
   ·intro y0 y1 y2 y3 y4
    unfold impl_readRowC.l0
    repeat' first
    | (with_reducible exact ih0 _ _ _ _)
    | (with_reducible exact ih1 _ _ _ _ _)
    | (with_reducible exact g0_.1 _)
    | (with_reducible exact LeO.refl _)
    | (with_reducible exact LeO.none _)
    | (with_reducible refine LeO.ite ?_ ?_)
    | (with_reducible refine LeO.bind ?_ (fun _ => ?_))
    | exact ih0 _ _ _ _
    | exact ih1 _ _ _ _ _
    | exact g0_.1 _
    | exact LeO.none _
    | refine LeO.ite ?_ ?_
    | refine LeO.bind ?_ (fun _ => ?_)
  case refine_3 =>
   have ih0 := g2_
   ·intro y0
    unfold impl_readAnd.f
    repeat' first
    | (with_reducible exact ih0 _)
    | (with_reducible exact g1_.1 _ _ _ _)
    | (with_reducible exact LeO.refl _)
    | (with_reducible exact LeO.none _)
    | (with_reducible refine LeO.ite ?_ ?_)
    | (with_reducible refine LeO.bind ?_ (fun _ => ?_))
    | exact ih0 _
    | exact g1_.1 _ _ _ _
    | exact LeO.none _
    | refine LeO.ite ?_ ?_
    | refine LeO.bind ?_ (fun _ => ?_)
  case refine_4 =>
   obtain ⟨ih0, ih1⟩ := g3_
   refine ⟨?_, ?_⟩
   ·intro y0 y1 y2 y3
    unfold impl_readRowB.f
    repeat' first
    | (with_reducible exact ih0 _ _ _ _)
    | (with_reducible exact ih1 _ _ _ _ _)
    | (with_reducible exact g2_ _)
    | (with_reducible exact LeO.refl _)
    | (with_reducible exact LeO.none _)
    | (with_reducible refine LeO.ite ?_ ?_)
    | (with_reducible refine LeO.bind ?_ (fun _ => ?_))
    | exact ih0 _ _ _ _
    | exact ih1 _ _ _ _ _
    | exact g2_ _
    | exact LeO.none _
    | refine LeO.ite ?_ ?_
    | refine LeO.bind ?_ (fun _ => ?_)
   ·intro y0 y1 y2 y3 y4
    unfold impl_readRowB.l0
    repeat' first
    | (with_reducible exact ih0 _ _ _ _)
    | (with_reducible exact ih1 _ _ _ _ _)
    | (with_reducible exact g2_ _)
    | (with_reducible exact LeO.refl _)
    | (with_reducible exact LeO.none _)
    | (with_reducible refine LeO.ite ?_ ?_)
    | (with_reducible refine LeO.bind ?_ (fun _ => ?_))
    | exact ih0 _ _ _ _
    | exact ih1 _ _ _ _ _
    | exact g2_ _
    | exact LeO.none _
    | refine LeO.ite ?_ ?_
    | refine LeO.bind ?_ (fun _ => ?_)
  case refine_5 =>
   have ih0 := g4_
   ·intro y0
    unfold impl_readOr.f
    repeat' first
    | (with_reducible exact ih0 _)
    | (with_reducible exact g3_.1 _ _ _ _)
    | (with_reducible exact LeO.refl _)
    | (with_reducible exact LeO.none _)
    | (with_reducible refine LeO.ite ?_ ?_)
    | (with_reducible refine LeO.bind ?_ (fun _ => ?_))
    | exact ih0 _
    | exact g3_.1 _ _ _ _
    | exact LeO.none _
    | refine LeO.ite ?_ ?_
    | refine LeO.bind ?_ (fun _ => ?_)
  case refine_6 =>
   obtain ⟨ih0, ih1⟩ := g5_
   refine ⟨?_, ?_⟩
   ·intro y0 y1 y2 y3
    unfold impl_readRowA.f
    repeat' first
    | (with_reducible exact ih0 _ _ _ _)
    | (with_reducible exact ih1 _ _ _ _ _)
    | (with_reducible exact g4_ _)
    | (with_reducible exact LeO.refl _)
    | (with_reducible exact LeO.none _)
    | (with_reducible refine LeO.ite ?_ ?_)
    | (with_reducible refine LeO.bind ?_ (fun _ => ?_))
    | exact ih0 _ _ _ _
    | exact ih1 _ _ _ _ _
    | exact g4_ _
    | exact LeO.none _
    | refine LeO.ite ?_ ?_
    | refine LeO.bind ?_ (fun _ => ?_)
   ·intro y0 y1 y2 y3 y4
    unfold impl_readRowA.l0
    repeat' first
    | (with_reducible exact ih0 _ _ _ _)
    | (with_reducible exact ih1 _ _ _ _ _)
    | (with_reducible exact g4_ _)
    | (with_reducible exact LeO.refl _)
    | (with_reducible exact LeO.none _)
    | (with_reducible refine LeO.ite ?_ ?_)
    | (with_reducible refine LeO.bind ?_ (fun _ => ?_))
    | exact ih0 _ _ _ _
    | exact ih1 _ _ _ _ _
    | exact g4_ _
    | exact LeO.none _
    | refine LeO.ite ?_ ?_
    | refine LeO.bind ?_ (fun _ => ?_)
  case refine_7 =>
   have ih0 := g6_
   ·intro y0
    unfold impl_readSame.f
    repeat' first
    | (with_reducible exact ih0 _)
    | (with_reducible exact g5_.1 _ _ _ _)
    | (with_reducible exact LeO.refl _)
    | (with_reducible exact LeO.none _)
    | (with_reducible refine LeO.ite ?_ ?_)
    | (with_reducible refine LeO.bind ?_ (fun _ => ?_))
    | exact ih0 _
    | exact g5_.1 _ _ _ _
    | exact LeO.none _
    | refine LeO.ite ?_ ?_
    | refine LeO.bind ?_ (fun _ => ?_)
theorem impl_readPart.mono : ∀ a0 k, LeO (impl_readPart.f k a0) (impl_readPart.f (k + 1) a0) := by
 intro a0 k
 obtain ⟨ih0, ih1, ih2⟩ := (readSame_readPart_c.mono_l k).1
 exact ih0 a0
theorem impl_readRowC.mono : ∀ a0 a1 a2 a3 k, LeO (impl_readRowC.f k a0 a1 a2 a3) (impl_readRowC.f (k + 1) a0 a1 a2 a3) := by
 intro a0 a1 a2 a3 k
 obtain ⟨ih0, ih1⟩ := (readSame_readPart_c.mono_l k).2.1
 exact ih0 a0 a1 a2 a3
theorem impl_readAnd.mono : ∀ a0 k, LeO (impl_readAnd.f k a0) (impl_readAnd.f (k + 1) a0) := by
 intro a0 k
 have ih0 := (readSame_readPart_c.mono_l k).2.2.1
 exact ih0 a0
theorem impl_readRowB.mono : ∀ a0 a1 a2 a3 k, LeO (impl_readRowB.f k a0 a1 a2 a3) (impl_readRowB.f (k + 1) a0 a1 a2 a3) := by
 intro a0 a1 a2 a3 k
 obtain ⟨ih0, ih1⟩ := (readSame_readPart_c.mono_l k).2.2.2.1
 exact ih0 a0 a1 a2 a3
theorem impl_readOr.mono : ∀ a0 k, LeO (impl_readOr.f k a0) (impl_readOr.f (k + 1) a0) := by
 intro a0 k
 have ih0 := (readSame_readPart_c.mono_l k).2.2.2.2.1
 exact ih0 a0
theorem impl_readRowA.mono : ∀ a0 a1 a2 a3 k, LeO (impl_readRowA.f k a0 a1 a2 a3) (impl_readRowA.f (k + 1) a0 a1 a2 a3) := by
 intro a0 a1 a2 a3 k
 obtain ⟨ih0, ih1⟩ := (readSame_readPart_c.mono_l k).2.2.2.2.2.1
 exact ih0 a0 a1 a2 a3
theorem impl_readSame.mono : ∀ a0 k, LeO (impl_readSame.f k a0) (impl_readSame.f (k + 1) a0) := by
 intro a0 k
 have ih0 := (readSame_readPart_c.mono_l k).2.2.2.2.2.2
 exact ih0 a0
set_option maxHeartbeats 8000000 in
set_option maxRecDepth 100000 in
theorem impl_readPart.step (k : Nat) (h0_ : ∀ m_, m_ < k → ∀ (a0 : ByteArray) (r1 : List (S39)) (r2 : ByteArray) (r3 : Bool) (w : World) (h : impl_readPart.f m_ a0 = some (r1, r2, r3)),
  Calls Try.prog 34 #[.string a0] w fun e w' => ∃ v0_ : Value, e = .returned (.tuple #[v0_, .string r2, .bool r3]) ∧ Kd.R k39 39 w' w.heap.size (fun _ => True) v0_ r1 ∧ Below w.heap.size w w') (h1_ : ∀ m_, m_ < k → ∀ (a0 : ByteArray) (a1 : ByteArray) (a2 : Int) (a3 : Int) (r1 : List (S39)) (r2 : ByteArray) (r3 : Bool) (w : World) (h : impl_readRowC.f m_ a0 a1 a2 a3 = some (r1, r2, r3)),
  Calls Try.prog 28 #[.string a0, .string a1, .int .i64 a2, .func (.func 34) #[] #[]] w fun e w' => ∃ v0_ : Value, e = .returned (.tuple #[v0_, .string r2, .bool r3]) ∧ Kd.R k39 39 w' w.heap.size (fun _ => True) v0_ r1 ∧ Below w.heap.size w w') (h2_ : ∀ m_, m_ < k → ∀ (a0 : ByteArray) (r1 : List (S39)) (r2 : ByteArray) (r3 : Bool) (w : World) (h : impl_readAnd.f m_ a0 = some (r1, r2, r3)),
  Calls Try.prog 32 #[.string a0] w fun e w' => ∃ v0_ : Value, e = .returned (.tuple #[v0_, .string r2, .bool r3]) ∧ Kd.R k39 39 w' w.heap.size (fun _ => True) v0_ r1 ∧ Below w.heap.size w w') (h3_ : ∀ m_, m_ < k → ∀ (a0 : ByteArray) (a1 : ByteArray) (a2 : Int) (a3 : Int) (r1 : List (S39)) (r2 : ByteArray) (r3 : Bool) (w : World) (h : impl_readRowB.f m_ a0 a1 a2 a3 = some (r1, r2, r3)),
  Calls Try.prog 28 #[.string a0, .string a1, .int .i64 a2, .func (.func 32) #[] #[]] w fun e w' => ∃ v0_ : Value, e = .returned (.tuple #[v0_, .string r2, .bool r3]) ∧ Kd.R k39 39 w' w.heap.size (fun _ => True) v0_ r1 ∧ Below w.heap.size w w') (h4_ : ∀ m_, m_ < k → ∀ (a0 : ByteArray) (r1 : List (S39)) (r2 : ByteArray) (r3 : Bool) (w : World) (h : impl_readOr.f m_ a0 = some (r1, r2, r3)),
  Calls Try.prog 29 #[.string a0] w fun e w' => ∃ v0_ : Value, e = .returned (.tuple #[v0_, .string r2, .bool r3]) ∧ Kd.R k39 39 w' w.heap.size (fun _ => True) v0_ r1 ∧ Below w.heap.size w w') (h5_ : ∀ m_, m_ < k → ∀ (a0 : ByteArray) (a1 : ByteArray) (a2 : Int) (a3 : Int) (r1 : List (S39)) (r2 : ByteArray) (r3 : Bool) (w : World) (h : impl_readRowA.f m_ a0 a1 a2 a3 = some (r1, r2, r3)),
  Calls Try.prog 28 #[.string a0, .string a1, .int .i64 a2, .func (.func 29) #[] #[]] w fun e w' => ∃ v0_ : Value, e = .returned (.tuple #[v0_, .string r2, .bool r3]) ∧ Kd.R k39 39 w' w.heap.size (fun _ => True) v0_ r1 ∧ Below w.heap.size w w') (h6_ : ∀ m_, m_ < k → ∀ (a0 : ByteArray) (r1 : List (S39)) (r2 : ByteArray) (r3 : Bool) (w : World) (h : impl_readSame.f m_ a0 = some (r1, r2, r3)),
  Calls Try.prog 18 #[.string a0] w fun e w' => ∃ v0_ : Value, e = .returned (.tuple #[v0_, .string r2, .bool r3]) ∧ Kd.R k39 39 w' w.heap.size (fun _ => True) v0_ r1 ∧ Below w.heap.size w w') : ∀ (a0 : ByteArray) (r1 : List (S39)) (r2 : ByteArray) (r3 : Bool) (w : World) (h : impl_readPart.f k a0 = some (r1, r2, r3)),
  Calls Try.prog 34 #[.string a0] w fun e w' => ∃ v0_ : Value, e = .returned (.tuple #[v0_, .string r2, .bool r3]) ∧ Kd.R k39 39 w' w.heap.size (fun _ => True) v0_ r1 ∧ Below w.heap.size w w' := by
 have ih := h0_
 intro a0 r1 r2 r3 w h
 cases k with
 | zero => exact absurd h (by simp [impl_readPart.f])
 | succ k =>
 simp only [impl_readPart.f] at h
 have hu39 := Try.underlying39
 have HB := Aside0.mk (Below.refl w.heap.size w)
 have H : (if a0.toList = ([] : List UInt8) then (some (([] : List (S39)), a0, false)) else (if 0 < (a0.size : Int) then (if 1 ≤ (a0.size : Int) then (if (bt a0 0) ≥ 97 then (impl_readPart.j0 k a0 (bt a0 0) (a0.extract 1 a0.size) (decide ((bt a0 0) ≤ 122))) else (impl_readPart.j0 k a0 (bt a0 0) (a0.extract 1 a0.size) false)) else (none)) else (none))) = some (r1, r2, r3) := h
 clear h
 by_cases c2 : a0.toList = ([] : List UInt8)
 ·rw [if_pos c2] at H
  have c2b0 : (a0.toList == ([] : List UInt8)) = true := beq_iff_eq.mpr c2
  have c2b1 : (a0.toList != ([] : List UInt8)) = false := bne_eq_false_iff_eq.mpr c2
  clear c2
  simp only [Option.some.injEq, Prod.mk.injEq] at H
  obtain ⟨rfl, rfl, rfl⟩ := H
  go_enter Try.func34, Try.ntmps34
  go_wp2
  repeat (go_quiet (fail); try go_wp2)
  go_ret3
  exact ⟨_, by first | rfl | (simp [errW_none, errW_some] <;> rfl) | (simp [*, errW_none, errW_some] <;> rfl), by first | exact Kd.R_nil _ _ _ _ _ | exact Kd.N_nil _ _ _ _ _ | exact Kd.V_nil _ _ _ _ _ | exact Kd.Q_nil _ _ _ _ _ | exact Kd.S_nil _ _ _ _ _, pwg_⟩
 ·rw [if_neg c2] at H
  have c2b0 : (a0.toList == ([] : List UInt8)) = false := beq_eq_false_iff_ne.mpr c2
  have c2b1 : (a0.toList != ([] : List UInt8)) = true := bne_iff_ne.mpr c2
  by_cases c3 : 0 < (a0.size : Int)
  ·rw [if_pos c3] at H
   have c3b0 : decide (0 < (a0.size : Int)) = true := decide_eq_true c3
   have c3b1 : decide (0 < a0.size) = true := decide_eq_true (by omega)
   clear c3
   by_cases c5 : 1 ≤ (a0.size : Int)
   ·rw [if_pos c5] at H
    have c5b0 := eq_true c5
    have c5b1 : decide (1 ≤ (a0.size : Int)) = true := decide_eq_true c5
    clear c5
    have HC6 := Aside0.mk H
    clear H
    have p4 : 0 ≤ (0 : Int) := (by omega)
    have q4 : 0 < a0.size := (by have : (0 : Int) < (a0.size : Int) := of_decide_eq_true pwb_; omega)
    have hx4 : ∀ h : 0 < a0.size, ((a0[0]'h).toNat : Int) = bt a0 0 := bt_at a0 0
    clear p4
    have qi4 : (0 < (a0.size : Int)) = True := eq_true (of_decide_eq_true pwb_)
    replace q4 := eq_true q4
    go_enter Try.func34, Try.ntmps34
    go_upto_region 4 with (fail)
    repeat (go_quiet (fail); go_upto_region 4 with (fail))
    go_cut [21] (fun v21 wc => ∃ (kq : Nat) (x21_5 : Bool), v21 = .bool x21_5 ∧ Aside0 (impl_readPart.j0 kq a0 (bt a0 0) (a0.extract 1 a0.size) x21_5 = some (r1, r2, r3)) ∧ Aside0 (kq ≤ k) ∧ Aside0 (Below w.heap.size w wc))
    case first =>
     have H := HC6.out
     clear HC6
     by_cases c7 : (bt a0 0) ≥ 97
     ·rw [if_pos c7] at H
      have c7b0 : decide (97 ≤ (bt a0 0)) = true := decide_eq_true c7
      clear c7
      (first | rw [c7b0] | (simp only [i64_w, i32_w]; rw [c7b0]) | skip)
      have H' := Aside0.mk H
      clear H
      go_wp2
      repeat (go_quiet (fail); try go_wp2)
      go_meet
      case rel => exact ⟨_, (decide ((bt a0 0) ≤ 122)), pwa_, H', ⟨by first | omega | exact Nat.le_refl _⟩, ⟨pwg_⟩⟩
     ·rw [if_neg c7] at H
      have c7b0 : decide (97 ≤ (bt a0 0)) = false := decide_eq_false c7
      clear c7
      (first | rw [c7b0] | (simp only [i64_w, i32_w]; rw [c7b0]) | skip)
      have H' := Aside0.mk H
      clear H
      go_wp2
      repeat (go_quiet (fail); try go_wp2)
      go_meet
      case rel => exact ⟨_, (false), pwa_, H', ⟨by first | omega | exact Nat.le_refl _⟩, ⟨pwg_⟩⟩
    case rest =>
     clear HC6
     try clear c2
     try clear c2b0
     try clear c2b1
     try clear p2
     try clear c3
     try clear c3b0
     try clear c3b1
     try clear p4
     try clear q4
     try clear hx4
     try clear qi4
     try clear c5
     try clear c5b0
     try clear c5b1
     try clear c7
     try clear c7b0
     try clear p4
     try clear q4
     obtain ⟨kq, x21_5, rfl, HA, HJ5, HB⟩ := hcut
     cases kq with
     | zero => exact absurd HA.out (by simp [impl_readPart.j0])
     | succ kj5 =>
      have H := HA.out
      clear HA
      simp only [impl_readPart.j0] at H
      by_cases c8 : x21_5 = true
      ·subst c8
       have H1 : (some ((([(⟨0, ((bt a0 0) - 97) % 256⟩ : S39)] : List (S39))), (a0.extract 1 a0.size), true)) = some (r1, r2, r3) := by rw [if_pos rfl] at H; exact H
       clear H
       have H := H1
       clear H1
       obtain ⟨y368, hy368⟩ : ∃ y_ : List (S39), y_ = (([(⟨0, ((bt a0 0) - 97) % 256⟩ : S39)] : List (S39))) := ⟨_, rfl⟩
       replace H : (some (y368, (a0.extract 1 a0.size), true)) = some (r1, r2, r3) := by first | (rw [hy368]; with_reducible exact H) | (have H2_ := (Option.bind_some _ _).symm.trans H; rw [hy368]; with_reducible exact H2_) | (have H2_ := (Option.bind_some _ _).symm.trans H; with_reducible exact H2_) | with_reducible exact H | (rw [hy368]; exact H) | exact H
       have Ny368 := Aside0.mk hy368
       clear hy368
       simp only [Option.some.injEq, Prod.mk.injEq] at H
       obtain ⟨rfl, rfl, rfl⟩ := H
       go_wp2_with (first | ((with_reducible refine gate_dst (N := 32) rfl ?_); refine Kd.R_lit k39 _ 39 ?hg (N := 32) ?hd (xs := ([(⟨0, ((bt a0 0) - 97) % 256⟩ : S39)] : List (S39))) (inner := [.int .i64 0, .int .i64 (((bt a0 0) - 97) % 256)]) (ok := fun _ => True) (okp := fun _ => True) ?hr ?hp (fun _ hk => hk) trivial (Below.refl _ _) (Nat.le_refl _) (by simp) ?_; (case hd => rfl); (case hg => rfl); (case hr => first | (go_simp; done) | (go_simp; rfl)); (case hp => exact (Reps.c2 (show Kd.M k39 _ _ _ (⟨0, ((bt a0 0) - 97) % 256⟩ : S39) [.int .i64 0, .int .i64 (((bt a0 0) - 97) % 256)] from (k39_mkM _ _ _ (⟨0, ((bt a0 0) - 97) % 256⟩ : S39) )) (Reps.none _ _))); intro v369 w9 ho10 hb hg_ hnew_; clear hg_ hnew_; (first | rw [← Ny368.out] at ho10 | (simp only [Int.reduceToNat] at ho10; rw [← Ny368.out] at ho10)); have n0_ := Aside0.mk (Kd.R_lower ho10 (below_size pwg_)); have n1_ := Aside0.mk (below_step pwg_ hb); clear HB; have HO370 := n0_; have HB := n1_; clear n0_ n1_; clear hb ho10))
       repeat (go_quiet (first | ((with_reducible refine gate_dst (N := 32) rfl ?_); refine Kd.R_lit k39 _ 39 ?hg (N := 32) ?hd (xs := ([(⟨0, ((bt a0 0) - 97) % 256⟩ : S39)] : List (S39))) (inner := [.int .i64 0, .int .i64 (((bt a0 0) - 97) % 256)]) (ok := fun _ => True) (okp := fun _ => True) ?hr ?hp (fun _ hk => hk) trivial (Below.refl _ _) (Nat.le_refl _) (by simp) ?_; (case hd => rfl); (case hg => rfl); (case hr => first | (go_simp; done) | (go_simp; rfl)); (case hp => exact (Reps.c2 (show Kd.M k39 _ _ _ (⟨0, ((bt a0 0) - 97) % 256⟩ : S39) [.int .i64 0, .int .i64 (((bt a0 0) - 97) % 256)] from (k39_mkM _ _ _ (⟨0, ((bt a0 0) - 97) % 256⟩ : S39) )) (Reps.none _ _))); intro v369 w9 ho10 hb hg_ hnew_; clear hg_ hnew_; (first | rw [← Ny368.out] at ho10 | (simp only [Int.reduceToNat] at ho10; rw [← Ny368.out] at ho10)); have n0_ := Aside0.mk (Kd.R_lower ho10 (below_size pwg_)); have n1_ := Aside0.mk (below_step pwg_ hb); clear HB; have HO370 := n0_; have HB := n1_; clear n0_ n1_; clear hb ho10)); try go_wp2_with (first | ((with_reducible refine gate_dst (N := 32) rfl ?_); refine Kd.R_lit k39 _ 39 ?hg (N := 32) ?hd (xs := ([(⟨0, ((bt a0 0) - 97) % 256⟩ : S39)] : List (S39))) (inner := [.int .i64 0, .int .i64 (((bt a0 0) - 97) % 256)]) (ok := fun _ => True) (okp := fun _ => True) ?hr ?hp (fun _ hk => hk) trivial (Below.refl _ _) (Nat.le_refl _) (by simp) ?_; (case hd => rfl); (case hg => rfl); (case hr => first | (go_simp; done) | (go_simp; rfl)); (case hp => exact (Reps.c2 (show Kd.M k39 _ _ _ (⟨0, ((bt a0 0) - 97) % 256⟩ : S39) [.int .i64 0, .int .i64 (((bt a0 0) - 97) % 256)] from (k39_mkM _ _ _ (⟨0, ((bt a0 0) - 97) % 256⟩ : S39) )) (Reps.none _ _))); intro v369 w9 ho10 hb hg_ hnew_; clear hg_ hnew_; (first | rw [← Ny368.out] at ho10 | (simp only [Int.reduceToNat] at ho10; rw [← Ny368.out] at ho10)); have n0_ := Aside0.mk (Kd.R_lower ho10 (below_size pwg_)); have n1_ := Aside0.mk (below_step pwg_ hb); clear HB; have HO370 := n0_; have HB := n1_; clear n0_ n1_; clear hb ho10)))
       go_ret3
       exact ⟨_, by first | rfl | (simp [errW_none, errW_some] <;> rfl) | (simp [*, errW_none, errW_some] <;> rfl), by (with_reducible repeat apply Kd.R_alloc); exact HO370.out, pwg_⟩
      ·replace c8 := Bool.eq_false_iff.mpr c8
       subst c8
       have H1 : (if (bt a0 0) ≥ 48 then (impl_readPart.j1 kj5 a0 (bt a0 0) (a0.extract 1 a0.size) (decide ((bt a0 0) ≤ 57))) else (impl_readPart.j1 kj5 a0 (bt a0 0) (a0.extract 1 a0.size) false)) = some (r1, r2, r3) := by rw [if_neg (show ¬ (false = true) by decide)] at H; exact H
       clear H
       have H := H1
       clear H1
       have HC11 := Aside0.mk H
       clear H
       go_upto_region 6 with (fail)
       repeat (go_quiet (fail); go_upto_region 6 with (fail))
       go_cut [34] (fun v34 wc => ∃ (kq : Nat) (x34_10 : Bool), v34 = .bool x34_10 ∧ Aside0 (impl_readPart.j1 kq a0 (bt a0 0) (a0.extract 1 a0.size) x34_10 = some (r1, r2, r3)) ∧ Aside0 (kq ≤ kj5) ∧ Aside0 (Below w.heap.size w wc))
       case first =>
        have H := HC11.out
        clear HC11
        by_cases c12 : (bt a0 0) ≥ 48
        ·rw [if_pos c12] at H
         have c12b0 : decide (48 ≤ (bt a0 0)) = true := decide_eq_true c12
         clear c12
         (first | rw [c12b0] | (simp only [i64_w, i32_w]; rw [c12b0]) | skip)
         have H' := Aside0.mk H
         clear H
         go_wp2
         repeat (go_quiet (fail); try go_wp2)
         go_meet
         case rel => exact ⟨_, (decide ((bt a0 0) ≤ 57)), pwa_, H', ⟨by have := HJ5.out; first | omega | exact Nat.le_refl _⟩, ⟨pwg_⟩⟩
        ·rw [if_neg c12] at H
         have c12b0 : decide (48 ≤ (bt a0 0)) = false := decide_eq_false c12
         clear c12
         (first | rw [c12b0] | (simp only [i64_w, i32_w]; rw [c12b0]) | skip)
         have H' := Aside0.mk H
         clear H
         go_wp2
         repeat (go_quiet (fail); try go_wp2)
         go_meet
         case rel => exact ⟨_, (false), pwa_, H', ⟨by have := HJ5.out; first | omega | exact Nat.le_refl _⟩, ⟨pwg_⟩⟩
       case rest =>
        clear HC11
        try clear c1
        try clear c2
        try clear c2b0
        try clear c2b1
        try clear p2
        try clear c3
        try clear c3b0
        try clear c3b1
        try clear p4
        try clear q4
        try clear hx4
        try clear qi4
        try clear c5
        try clear c5b0
        try clear c5b1
        try clear c7
        try clear c7b0
        try clear c8
        try clear c12
        try clear c12b0
        try clear p2
        try clear p4
        try clear q4
        obtain ⟨kq, x34_10, rfl, HA, HJ10, HB⟩ := hcut
        cases kq with
        | zero => exact absurd HA.out (by simp [impl_readPart.j1])
        | succ kj10 =>
         have H := HA.out
         clear HA
         simp only [impl_readPart.j1] at H
         by_cases c13 : x34_10 = true
         ·subst c13
          have H1 : (some ((([(⟨1, ((bt a0 0) - 48) % 256⟩ : S39)] : List (S39))), (a0.extract 1 a0.size), true)) = some (r1, r2, r3) := by rw [if_pos rfl] at H; exact H
          clear H
          have H := H1
          clear H1
          obtain ⟨y371, hy371⟩ : ∃ y_ : List (S39), y_ = (([(⟨1, ((bt a0 0) - 48) % 256⟩ : S39)] : List (S39))) := ⟨_, rfl⟩
          replace H : (some (y371, (a0.extract 1 a0.size), true)) = some (r1, r2, r3) := by first | (rw [hy371]; with_reducible exact H) | (have H2_ := (Option.bind_some _ _).symm.trans H; rw [hy371]; with_reducible exact H2_) | (have H2_ := (Option.bind_some _ _).symm.trans H; with_reducible exact H2_) | with_reducible exact H | (rw [hy371]; exact H) | exact H
          have Ny371 := Aside0.mk hy371
          clear hy371
          simp only [Option.some.injEq, Prod.mk.injEq] at H
          obtain ⟨rfl, rfl, rfl⟩ := H
          go_wp2_with (first | ((with_reducible refine gate_dst (N := 45) rfl ?_); refine Kd.R_lit k39 _ 39 ?hg (N := 45) ?hd (xs := ([(⟨1, ((bt a0 0) - 48) % 256⟩ : S39)] : List (S39))) (inner := [.int .i64 1, .int .i64 (((bt a0 0) - 48) % 256)]) (ok := fun _ => True) (okp := fun _ => True) ?hr ?hp (fun _ hk => hk) trivial (Below.refl _ _) (Nat.le_refl _) (by simp) ?_; (case hd => rfl); (case hg => rfl); (case hr => first | (go_simp; done) | (go_simp; rfl)); (case hp => exact (Reps.c2 (show Kd.M k39 _ _ _ (⟨1, ((bt a0 0) - 48) % 256⟩ : S39) [.int .i64 1, .int .i64 (((bt a0 0) - 48) % 256)] from (k39_mkM _ _ _ (⟨1, ((bt a0 0) - 48) % 256⟩ : S39) )) (Reps.none _ _))); intro v372 w14 ho15 hb hg_ hnew_; clear hg_ hnew_; (first | rw [← Ny371.out] at ho15 | (simp only [Int.reduceToNat] at ho15; rw [← Ny371.out] at ho15)); have n0_ := Aside0.mk (Kd.R_lower ho15 (below_size pwg_)); have n1_ := Aside0.mk (below_step pwg_ hb); clear HB; have HO373 := n0_; have HB := n1_; clear n0_ n1_; clear hb ho15))
          repeat (go_quiet (first | ((with_reducible refine gate_dst (N := 45) rfl ?_); refine Kd.R_lit k39 _ 39 ?hg (N := 45) ?hd (xs := ([(⟨1, ((bt a0 0) - 48) % 256⟩ : S39)] : List (S39))) (inner := [.int .i64 1, .int .i64 (((bt a0 0) - 48) % 256)]) (ok := fun _ => True) (okp := fun _ => True) ?hr ?hp (fun _ hk => hk) trivial (Below.refl _ _) (Nat.le_refl _) (by simp) ?_; (case hd => rfl); (case hg => rfl); (case hr => first | (go_simp; done) | (go_simp; rfl)); (case hp => exact (Reps.c2 (show Kd.M k39 _ _ _ (⟨1, ((bt a0 0) - 48) % 256⟩ : S39) [.int .i64 1, .int .i64 (((bt a0 0) - 48) % 256)] from (k39_mkM _ _ _ (⟨1, ((bt a0 0) - 48) % 256⟩ : S39) )) (Reps.none _ _))); intro v372 w14 ho15 hb hg_ hnew_; clear hg_ hnew_; (first | rw [← Ny371.out] at ho15 | (simp only [Int.reduceToNat] at ho15; rw [← Ny371.out] at ho15)); have n0_ := Aside0.mk (Kd.R_lower ho15 (below_size pwg_)); have n1_ := Aside0.mk (below_step pwg_ hb); clear HB; have HO373 := n0_; have HB := n1_; clear n0_ n1_; clear hb ho15)); try go_wp2_with (first | ((with_reducible refine gate_dst (N := 45) rfl ?_); refine Kd.R_lit k39 _ 39 ?hg (N := 45) ?hd (xs := ([(⟨1, ((bt a0 0) - 48) % 256⟩ : S39)] : List (S39))) (inner := [.int .i64 1, .int .i64 (((bt a0 0) - 48) % 256)]) (ok := fun _ => True) (okp := fun _ => True) ?hr ?hp (fun _ hk => hk) trivial (Below.refl _ _) (Nat.le_refl _) (by simp) ?_; (case hd => rfl); (case hg => rfl); (case hr => first | (go_simp; done) | (go_simp; rfl)); (case hp => exact (Reps.c2 (show Kd.M k39 _ _ _ (⟨1, ((bt a0 0) - 48) % 256⟩ : S39) [.int .i64 1, .int .i64 (((bt a0 0) - 48) % 256)] from (k39_mkM _ _ _ (⟨1, ((bt a0 0) - 48) % 256⟩ : S39) )) (Reps.none _ _))); intro v372 w14 ho15 hb hg_ hnew_; clear hg_ hnew_; (first | rw [← Ny371.out] at ho15 | (simp only [Int.reduceToNat] at ho15; rw [← Ny371.out] at ho15)); have n0_ := Aside0.mk (Kd.R_lower ho15 (below_size pwg_)); have n1_ := Aside0.mk (below_step pwg_ hb); clear HB; have HO373 := n0_; have HB := n1_; clear n0_ n1_; clear hb ho15)))
          go_ret3
          exact ⟨_, by first | rfl | (simp [errW_none, errW_some] <;> rfl) | (simp [*, errW_none, errW_some] <;> rfl), by (with_reducible repeat apply Kd.R_alloc); exact HO373.out, pwg_⟩
         ·replace c13 := Bool.eq_false_iff.mpr c13
          subst c13
          have H1 : (if (bt a0 0) = 33 then ((impl_readPart.f kj10 (a0.extract 1 a0.size)).bind fun bt374 => (if bt374.1.length < 8796093022208 then (some ((bt374.1 ++ [(⟨2, 0⟩ : S39)]), bt374.2.1, bt374.2.2)) else (none))) else (if (bt a0 0) = 40 then ((impl_readSame.f kj10 (a0.extract 1 a0.size)).bind fun bt382 => ((strings_CutPrefix.f bt382.2.1 (⟨#[41]⟩ : ByteArray)).bind fun bt387 => (if bt382.2.2 = true then (some (bt382.1, bt387.1, bt387.2)) else (some (bt382.1, bt387.1, false))))) else (some (([] : List (S39)), a0, false)))) = some (r1, r2, r3) := by rw [if_neg (show ¬ (false = true) by decide)] at H; exact H
          clear H
          have H := H1
          clear H1
          by_cases c16 : (bt a0 0) = 33
          ·rw [if_pos c16] at H
           have c16b0 : ((bt a0 0) == 33) = true := beq_iff_eq.mpr c16
           have c16b1 : ((bt a0 0) != 33) = false := bne_eq_false_iff_eq.mpr c16
           clear c16
           replace H := Option.bind_eq_some_iff.mp H
           obtain ⟨⟨t374, t375, t376⟩, A170, H⟩ := H
           replace H : (if t374.length < 8796093022208 then (some ((t374 ++ [(⟨2, 0⟩ : S39)]), t375, t376)) else (none)) = some (r1, r2, r3) := H
           have A17 := Aside0.mk A170
           clear A170
           by_cases c18 : t374.length < 8796093022208
           ·rw [if_pos c18] at H
            have LMc18 := Aside0.mk c18
            clear c18
            obtain ⟨y379, hy379⟩ : ∃ y_ : List (S39), y_ = (t374 ++ [(⟨2, 0⟩ : S39)]) := ⟨_, rfl⟩
            replace H : (some (y379, t375, t376)) = some (r1, r2, r3) := by first | (rw [hy379]; with_reducible exact H) | (have H2_ := (Option.bind_some _ _).symm.trans H; rw [hy379]; with_reducible exact H2_) | (have H2_ := (Option.bind_some _ _).symm.trans H; with_reducible exact H2_) | with_reducible exact H | (rw [hy379]; exact H) | exact H
            have Ny379 := Aside0.mk hy379
            clear hy379
            simp only [Option.some.injEq, Prod.mk.injEq] at H
            obtain ⟨rfl, rfl, rfl⟩ := H
            go_wp2_with (first | (go_at_call 34; (with_reducible refine (ih kj10 (by have := HJ5.out; have := HJ10.out; omega) (a0.extract 1 a0.size) t374 t375 t376 _ A17.out).mono ?_); rintro e w19 ⟨v377, rfl, ho0, hb⟩; have n0_ := Aside0.mk (Kd.R_lower ho0 (below_size pwg_)); have n1_ := Aside0.mk (below_step pwg_ hb); clear HB; have HO378 := n0_; have HB := n1_; clear n0_ n1_; (try clear hb); (try clear hb2); (try clear hk); (try clear hi); (try clear ho0)) | ((with_reducible refine gate_builtin (b := .append) (xs := #[.tmp 56, .tmp 58]) rfl ?_); at_builtin; refine Kd.R_append k39 (w0 := w) w.heap.size rfl (.tmp 56) (.tmp 58) 23 39 (.agg #[(.int .i64 0), (.int .i64 0)]) 16 rfl Try.underlying23 info39 rfl (by decide) (by omega) v377 t374 (⟨2, 0⟩ : S39) [.int .i64 2, .int .i64 0] (fun _ => True) (fun _ => False) rfl rfl ?aP (fun _ hk => hk.elim) ?aF ?aO ?aB ?aS ?aL ?_; (case aP => exact k39_mkM _ _ _ (⟨2, 0⟩ : S39)); (case aB => exact pwg_); (case aF => exact (fun _ _ => trivial)); (case aO => exact (by (with_reducible repeat apply Kd.R_alloc); exact HO378.out)); (case aS => exact (below_size pwg_)); (case aL => have := LMc18.out; omega); intro v380 w20 ho hb hg hat; rw [← Ny379.out] at ho; have n0_ := Aside0.mk (hb); have n1_ := Aside0.mk (ho); clear HB; clear HO378; have HB := n0_; have HO381 := n1_; clear n0_ n1_; clear ho hb hg hat))
            repeat (go_quiet (first | (go_at_call 34; (with_reducible refine (ih kj10 (by have := HJ5.out; have := HJ10.out; omega) (a0.extract 1 a0.size) t374 t375 t376 _ A17.out).mono ?_); rintro e w19 ⟨v377, rfl, ho0, hb⟩; have n0_ := Aside0.mk (Kd.R_lower ho0 (below_size pwg_)); have n1_ := Aside0.mk (below_step pwg_ hb); clear HB; have HO378 := n0_; have HB := n1_; clear n0_ n1_; (try clear hb); (try clear hb2); (try clear hk); (try clear hi); (try clear ho0)) | ((with_reducible refine gate_builtin (b := .append) (xs := #[.tmp 56, .tmp 58]) rfl ?_); at_builtin; refine Kd.R_append k39 (w0 := w) w.heap.size rfl (.tmp 56) (.tmp 58) 23 39 (.agg #[(.int .i64 0), (.int .i64 0)]) 16 rfl Try.underlying23 info39 rfl (by decide) (by omega) v377 t374 (⟨2, 0⟩ : S39) [.int .i64 2, .int .i64 0] (fun _ => True) (fun _ => False) rfl rfl ?aP (fun _ hk => hk.elim) ?aF ?aO ?aB ?aS ?aL ?_; (case aP => exact k39_mkM _ _ _ (⟨2, 0⟩ : S39)); (case aB => exact pwg_); (case aF => exact (fun _ _ => trivial)); (case aO => exact (by (with_reducible repeat apply Kd.R_alloc); exact HO378.out)); (case aS => exact (below_size pwg_)); (case aL => have := LMc18.out; omega); intro v380 w20 ho hb hg hat; rw [← Ny379.out] at ho; have n0_ := Aside0.mk (hb); have n1_ := Aside0.mk (ho); clear HB; clear HO378; have HB := n0_; have HO381 := n1_; clear n0_ n1_; clear ho hb hg hat)); try go_wp2_with (first | (go_at_call 34; (with_reducible refine (ih kj10 (by have := HJ5.out; have := HJ10.out; omega) (a0.extract 1 a0.size) t374 t375 t376 _ A17.out).mono ?_); rintro e w19 ⟨v377, rfl, ho0, hb⟩; have n0_ := Aside0.mk (Kd.R_lower ho0 (below_size pwg_)); have n1_ := Aside0.mk (below_step pwg_ hb); clear HB; have HO378 := n0_; have HB := n1_; clear n0_ n1_; (try clear hb); (try clear hb2); (try clear hk); (try clear hi); (try clear ho0)) | ((with_reducible refine gate_builtin (b := .append) (xs := #[.tmp 56, .tmp 58]) rfl ?_); at_builtin; refine Kd.R_append k39 (w0 := w) w.heap.size rfl (.tmp 56) (.tmp 58) 23 39 (.agg #[(.int .i64 0), (.int .i64 0)]) 16 rfl Try.underlying23 info39 rfl (by decide) (by omega) v377 t374 (⟨2, 0⟩ : S39) [.int .i64 2, .int .i64 0] (fun _ => True) (fun _ => False) rfl rfl ?aP (fun _ hk => hk.elim) ?aF ?aO ?aB ?aS ?aL ?_; (case aP => exact k39_mkM _ _ _ (⟨2, 0⟩ : S39)); (case aB => exact pwg_); (case aF => exact (fun _ _ => trivial)); (case aO => exact (by (with_reducible repeat apply Kd.R_alloc); exact HO378.out)); (case aS => exact (below_size pwg_)); (case aL => have := LMc18.out; omega); intro v380 w20 ho hb hg hat; rw [← Ny379.out] at ho; have n0_ := Aside0.mk (hb); have n1_ := Aside0.mk (ho); clear HB; clear HO378; have HB := n0_; have HO381 := n1_; clear n0_ n1_; clear ho hb hg hat)))
            go_ret3
            exact ⟨_, by first | rfl | (simp [errW_none, errW_some] <;> rfl) | (simp [*, errW_none, errW_some] <;> rfl), by (with_reducible repeat apply Kd.R_alloc); exact HO381.out, pwg_⟩
           ·rw [if_neg c18] at H
            exact absurd H (by simp)
          ·rw [if_neg c16] at H
           have c16b0 : ((bt a0 0) == 33) = false := beq_eq_false_iff_ne.mpr c16
           have c16b1 : ((bt a0 0) != 33) = true := bne_iff_ne.mpr c16
           by_cases c21 : (bt a0 0) = 40
           ·rw [if_pos c21] at H
            have c21b0 : ((bt a0 0) == 40) = true := beq_iff_eq.mpr c21
            have c21b1 : ((bt a0 0) != 40) = false := bne_eq_false_iff_eq.mpr c21
            clear c21
            replace H := Option.bind_eq_some_iff.mp H
            obtain ⟨⟨t382, t383, t384⟩, A220, H⟩ := H
            replace H : ((strings_CutPrefix.f t383 (⟨#[41]⟩ : ByteArray)).bind fun bt387 => (if t384 = true then (some (t382, bt387.1, bt387.2)) else (some (t382, bt387.1, false)))) = some (r1, r2, r3) := H
            have A22 := Aside0.mk A220
            clear A220
            replace H := Option.bind_eq_some_iff.mp H
            obtain ⟨⟨t387, t388⟩, A230, H⟩ := H
            replace H : (if t384 = true then (some (t382, t387, t388)) else (some (t382, t387, false))) = some (r1, r2, r3) := H
            have A23 := Aside0.mk A230
            clear A230
            by_cases c24 : t384 = true
            ·subst c24
             have H1 : (some (t382, t387, t388)) = some (r1, r2, r3) := by rw [if_pos rfl] at H; exact H
             clear H
             have H := H1
             clear H1
             simp only [Option.some.injEq, Prod.mk.injEq] at H
             obtain ⟨rfl, rfl, rfl⟩ := H
             go_wp2_with (first | (go_at_call 18; (with_reducible refine (h6_ kj10 (by have := HJ5.out; have := HJ10.out; omega) (a0.extract 1 a0.size) t382 t383 true _ A22.out).mono ?_); rintro e w25 ⟨v385, rfl, ho0, hb⟩; have n0_ := Aside0.mk (Kd.R_lower ho0 (below_size pwg_)); have n1_ := Aside0.mk (below_step pwg_ hb); clear HB; have HO386 := n0_; have HB := n1_; clear n0_ n1_; (try clear hb); (try clear hb2); (try clear hk); (try clear hi); (try clear ho0)) | (go_at_call 31; (with_reducible refine (strings_CutPrefix.calls t383 (⟨#[41]⟩ : ByteArray) t387 t388 _ A23.out).mono ?_); rintro e w' ⟨rfl, ⟨nd, rfl⟩⟩; (try first | exact ⟨rfl, _, World.drewN_drewN _ _ _⟩ | exact ⟨rfl, _, Eq.trans (World.drewN_drewN _ _ _) (congrArg (World.drewN _) (Nat.add_assoc _ _ _))⟩)))
             repeat (go_quiet (first | (go_at_call 18; (with_reducible refine (h6_ kj10 (by have := HJ5.out; have := HJ10.out; omega) (a0.extract 1 a0.size) t382 t383 true _ A22.out).mono ?_); rintro e w25 ⟨v385, rfl, ho0, hb⟩; have n0_ := Aside0.mk (Kd.R_lower ho0 (below_size pwg_)); have n1_ := Aside0.mk (below_step pwg_ hb); clear HB; have HO386 := n0_; have HB := n1_; clear n0_ n1_; (try clear hb); (try clear hb2); (try clear hk); (try clear hi); (try clear ho0)) | (go_at_call 31; (with_reducible refine (strings_CutPrefix.calls t383 (⟨#[41]⟩ : ByteArray) t387 t388 _ A23.out).mono ?_); rintro e w' ⟨rfl, ⟨nd, rfl⟩⟩; (try first | exact ⟨rfl, _, World.drewN_drewN _ _ _⟩ | exact ⟨rfl, _, Eq.trans (World.drewN_drewN _ _ _) (congrArg (World.drewN _) (Nat.add_assoc _ _ _))⟩))); try go_wp2_with (first | (go_at_call 18; (with_reducible refine (h6_ kj10 (by have := HJ5.out; have := HJ10.out; omega) (a0.extract 1 a0.size) t382 t383 true _ A22.out).mono ?_); rintro e w25 ⟨v385, rfl, ho0, hb⟩; have n0_ := Aside0.mk (Kd.R_lower ho0 (below_size pwg_)); have n1_ := Aside0.mk (below_step pwg_ hb); clear HB; have HO386 := n0_; have HB := n1_; clear n0_ n1_; (try clear hb); (try clear hb2); (try clear hk); (try clear hi); (try clear ho0)) | (go_at_call 31; (with_reducible refine (strings_CutPrefix.calls t383 (⟨#[41]⟩ : ByteArray) t387 t388 _ A23.out).mono ?_); rintro e w' ⟨rfl, ⟨nd, rfl⟩⟩; (try first | exact ⟨rfl, _, World.drewN_drewN _ _ _⟩ | exact ⟨rfl, _, Eq.trans (World.drewN_drewN _ _ _) (congrArg (World.drewN _) (Nat.add_assoc _ _ _))⟩))))
             go_ret3
             exact ⟨_, by first | rfl | (simp [errW_none, errW_some] <;> rfl) | (simp [*, errW_none, errW_some] <;> rfl), by (with_reducible repeat apply Kd.R_alloc); exact HO386.out, pwg_⟩
            ·replace c24 := Bool.eq_false_iff.mpr c24
             subst c24
             have H1 : (some (t382, t387, false)) = some (r1, r2, r3) := by rw [if_neg (show ¬ (false = true) by decide)] at H; exact H
             clear H
             have H := H1
             clear H1
             simp only [Option.some.injEq, Prod.mk.injEq] at H
             obtain ⟨rfl, rfl, rfl⟩ := H
             go_wp2_with (first | (go_at_call 18; (with_reducible refine (h6_ kj10 (by have := HJ5.out; have := HJ10.out; omega) (a0.extract 1 a0.size) t382 t383 false _ A22.out).mono ?_); rintro e w26 ⟨v385, rfl, ho0, hb⟩; have n0_ := Aside0.mk (Kd.R_lower ho0 (below_size pwg_)); have n1_ := Aside0.mk (below_step pwg_ hb); clear HB; have HO386 := n0_; have HB := n1_; clear n0_ n1_; (try clear hb); (try clear hb2); (try clear hk); (try clear hi); (try clear ho0)) | (go_at_call 31; (with_reducible refine (strings_CutPrefix.calls t383 (⟨#[41]⟩ : ByteArray) t387 t388 _ A23.out).mono ?_); rintro e w' ⟨rfl, ⟨nd, rfl⟩⟩; (try first | exact ⟨rfl, _, World.drewN_drewN _ _ _⟩ | exact ⟨rfl, _, Eq.trans (World.drewN_drewN _ _ _) (congrArg (World.drewN _) (Nat.add_assoc _ _ _))⟩)))
             repeat (go_quiet (first | (go_at_call 18; (with_reducible refine (h6_ kj10 (by have := HJ5.out; have := HJ10.out; omega) (a0.extract 1 a0.size) t382 t383 false _ A22.out).mono ?_); rintro e w26 ⟨v385, rfl, ho0, hb⟩; have n0_ := Aside0.mk (Kd.R_lower ho0 (below_size pwg_)); have n1_ := Aside0.mk (below_step pwg_ hb); clear HB; have HO386 := n0_; have HB := n1_; clear n0_ n1_; (try clear hb); (try clear hb2); (try clear hk); (try clear hi); (try clear ho0)) | (go_at_call 31; (with_reducible refine (strings_CutPrefix.calls t383 (⟨#[41]⟩ : ByteArray) t387 t388 _ A23.out).mono ?_); rintro e w' ⟨rfl, ⟨nd, rfl⟩⟩; (try first | exact ⟨rfl, _, World.drewN_drewN _ _ _⟩ | exact ⟨rfl, _, Eq.trans (World.drewN_drewN _ _ _) (congrArg (World.drewN _) (Nat.add_assoc _ _ _))⟩))); try go_wp2_with (first | (go_at_call 18; (with_reducible refine (h6_ kj10 (by have := HJ5.out; have := HJ10.out; omega) (a0.extract 1 a0.size) t382 t383 false _ A22.out).mono ?_); rintro e w26 ⟨v385, rfl, ho0, hb⟩; have n0_ := Aside0.mk (Kd.R_lower ho0 (below_size pwg_)); have n1_ := Aside0.mk (below_step pwg_ hb); clear HB; have HO386 := n0_; have HB := n1_; clear n0_ n1_; (try clear hb); (try clear hb2); (try clear hk); (try clear hi); (try clear ho0)) | (go_at_call 31; (with_reducible refine (strings_CutPrefix.calls t383 (⟨#[41]⟩ : ByteArray) t387 t388 _ A23.out).mono ?_); rintro e w' ⟨rfl, ⟨nd, rfl⟩⟩; (try first | exact ⟨rfl, _, World.drewN_drewN _ _ _⟩ | exact ⟨rfl, _, Eq.trans (World.drewN_drewN _ _ _) (congrArg (World.drewN _) (Nat.add_assoc _ _ _))⟩))))
             go_ret3
             exact ⟨_, by first | rfl | (simp [errW_none, errW_some] <;> rfl) | (simp [*, errW_none, errW_some] <;> rfl), by (with_reducible repeat apply Kd.R_alloc); exact HO386.out, pwg_⟩
           ·rw [if_neg c21] at H
            have c21b0 : ((bt a0 0) == 40) = false := beq_eq_false_iff_ne.mpr c21
            have c21b1 : ((bt a0 0) != 40) = true := bne_iff_ne.mpr c21
            simp only [Option.some.injEq, Prod.mk.injEq] at H
            obtain ⟨rfl, rfl, rfl⟩ := H
            go_wp2
            repeat (go_quiet (fail); try go_wp2)
            go_ret3
            exact ⟨_, by first | rfl | (simp [errW_none, errW_some] <;> rfl) | (simp [*, errW_none, errW_some] <;> rfl), by first | exact Kd.R_nil _ _ _ _ _ | exact Kd.N_nil _ _ _ _ _ | exact Kd.V_nil _ _ _ _ _ | exact Kd.Q_nil _ _ _ _ _ | exact Kd.S_nil _ _ _ _ _, pwg_⟩
   ·rw [if_neg c5] at H
    exact absurd H (by simp)
  ·rw [if_neg c3] at H
   exact absurd H (by simp)
set_option maxHeartbeats 8000000 in
set_option maxRecDepth 100000 in
theorem impl_readRowC.step (k : Nat) (h0_ : ∀ m_, m_ < k → ∀ (a0 : ByteArray) (r1 : List (S39)) (r2 : ByteArray) (r3 : Bool) (w : World) (h : impl_readPart.f m_ a0 = some (r1, r2, r3)),
  Calls Try.prog 34 #[.string a0] w fun e w' => ∃ v0_ : Value, e = .returned (.tuple #[v0_, .string r2, .bool r3]) ∧ Kd.R k39 39 w' w.heap.size (fun _ => True) v0_ r1 ∧ Below w.heap.size w w') (h1_ : ∀ m_, m_ < k → ∀ (a0 : ByteArray) (a1 : ByteArray) (a2 : Int) (a3 : Int) (r1 : List (S39)) (r2 : ByteArray) (r3 : Bool) (w : World) (h : impl_readRowC.f m_ a0 a1 a2 a3 = some (r1, r2, r3)),
  Calls Try.prog 28 #[.string a0, .string a1, .int .i64 a2, .func (.func 34) #[] #[]] w fun e w' => ∃ v0_ : Value, e = .returned (.tuple #[v0_, .string r2, .bool r3]) ∧ Kd.R k39 39 w' w.heap.size (fun _ => True) v0_ r1 ∧ Below w.heap.size w w') (h2_ : ∀ m_, m_ < k → ∀ (a0 : ByteArray) (r1 : List (S39)) (r2 : ByteArray) (r3 : Bool) (w : World) (h : impl_readAnd.f m_ a0 = some (r1, r2, r3)),
  Calls Try.prog 32 #[.string a0] w fun e w' => ∃ v0_ : Value, e = .returned (.tuple #[v0_, .string r2, .bool r3]) ∧ Kd.R k39 39 w' w.heap.size (fun _ => True) v0_ r1 ∧ Below w.heap.size w w') (h3_ : ∀ m_, m_ < k → ∀ (a0 : ByteArray) (a1 : ByteArray) (a2 : Int) (a3 : Int) (r1 : List (S39)) (r2 : ByteArray) (r3 : Bool) (w : World) (h : impl_readRowB.f m_ a0 a1 a2 a3 = some (r1, r2, r3)),
  Calls Try.prog 28 #[.string a0, .string a1, .int .i64 a2, .func (.func 32) #[] #[]] w fun e w' => ∃ v0_ : Value, e = .returned (.tuple #[v0_, .string r2, .bool r3]) ∧ Kd.R k39 39 w' w.heap.size (fun _ => True) v0_ r1 ∧ Below w.heap.size w w') (h4_ : ∀ m_, m_ < k → ∀ (a0 : ByteArray) (r1 : List (S39)) (r2 : ByteArray) (r3 : Bool) (w : World) (h : impl_readOr.f m_ a0 = some (r1, r2, r3)),
  Calls Try.prog 29 #[.string a0] w fun e w' => ∃ v0_ : Value, e = .returned (.tuple #[v0_, .string r2, .bool r3]) ∧ Kd.R k39 39 w' w.heap.size (fun _ => True) v0_ r1 ∧ Below w.heap.size w w') (h5_ : ∀ m_, m_ < k → ∀ (a0 : ByteArray) (a1 : ByteArray) (a2 : Int) (a3 : Int) (r1 : List (S39)) (r2 : ByteArray) (r3 : Bool) (w : World) (h : impl_readRowA.f m_ a0 a1 a2 a3 = some (r1, r2, r3)),
  Calls Try.prog 28 #[.string a0, .string a1, .int .i64 a2, .func (.func 29) #[] #[]] w fun e w' => ∃ v0_ : Value, e = .returned (.tuple #[v0_, .string r2, .bool r3]) ∧ Kd.R k39 39 w' w.heap.size (fun _ => True) v0_ r1 ∧ Below w.heap.size w w') (h6_ : ∀ m_, m_ < k → ∀ (a0 : ByteArray) (r1 : List (S39)) (r2 : ByteArray) (r3 : Bool) (w : World) (h : impl_readSame.f m_ a0 = some (r1, r2, r3)),
  Calls Try.prog 18 #[.string a0] w fun e w' => ∃ v0_ : Value, e = .returned (.tuple #[v0_, .string r2, .bool r3]) ∧ Kd.R k39 39 w' w.heap.size (fun _ => True) v0_ r1 ∧ Below w.heap.size w w') : ∀ (a0 : ByteArray) (a1 : ByteArray) (a2 : Int) (a3 : Int) (r1 : List (S39)) (r2 : ByteArray) (r3 : Bool) (w : World) (h : impl_readRowC.f k a0 a1 a2 a3 = some (r1, r2, r3)),
  Calls Try.prog 28 #[.string a0, .string a1, .int .i64 a2, .func (.func 34) #[] #[]] w fun e w' => ∃ v0_ : Value, e = .returned (.tuple #[v0_, .string r2, .bool r3]) ∧ Kd.R k39 39 w' w.heap.size (fun _ => True) v0_ r1 ∧ Below w.heap.size w w' := by
 have ih := h1_
 intro a0 a1 a2 a3 r1 r2 r3 w h
 cases k with
 | zero => exact absurd h (by simp [impl_readRowC.f])
 | succ k =>
 simp only [impl_readRowC.f] at h
 have hu39 := Try.underlying39
 have HB := Aside0.mk (Below.refl w.heap.size w)
 have H : ((impl_readPart.f k a0).bind fun bt389 => (impl_readRowC.l0 k bt389.2.1 a1 a2 bt389.1 bt389.2.2)) = some (r1, r2, r3) := h
 clear h
 replace H := Option.bind_eq_some_iff.mp H
 obtain ⟨⟨t389, t390, t391⟩, A50, H⟩ := H
 replace H : (impl_readRowC.l0 k t390 a1 a2 t389 t391) = some (r1, r2, r3) := H
 have A5 := Aside0.mk A50
 clear A50
 have H' := Aside0.mk H
 clear H
 go_enter Try.func28, Try.ntmps28
 go_wp2_with (first | ((with_reducible refine gate_dyn (c := 17) rfl ?_); refine goesD_ (some 19) rfl rfl Try.func34 (by kernel_rfl) rfl #[.string a0] rfl (by first | rfl | (go_simp; done) | (go_simp; rfl)) pwi_ ?_; (with_reducible refine (h0_ k (by omega) a0 t389 t390 t391 _ A5.out).mono ?_); rintro e w6 ⟨v392, rfl, ho0, hb⟩; refine ⟨_, rfl, ?_⟩; have n0_ := Aside0.mk (Kd.R_lower ho0 (below_size pwg_)); have n1_ := Aside0.mk (below_step pwg_ hb); clear HB; have HO393 := n0_; have HB := n1_; clear n0_ n1_; (try clear hb); (try clear hb2); (try clear hk); (try clear hi); (try clear ho0)))
 go_loopg [0, 11, 12] k (fun kq v0 v11 v12 w' => ∃ (x0_1 : ByteArray) (x11_1 : List (S39)) (x12_1 : Bool), v0 = .string x0_1 ∧ v12 = .bool x12_1 ∧ Aside0 (impl_readRowC.l0 kq x0_1 a1 a2 x11_1 x12_1 = some (r1, r2, r3)) ∧ Aside0 (kq ≤ k) ∧ Aside0 (Kd.R k39 39 w' w.heap.size (fun _ => True) v11 x11_1) ∧ Aside0 (Below w.heap.size w w'))
 case atStart => exact ⟨(t390), (t389), (t391), pwa_, pwa_, H', ⟨Nat.le_refl _⟩, ⟨by (with_reducible repeat apply Kd.R_alloc); exact HO393.out⟩, ⟨pwg_⟩⟩
 case round =>
  clear H'
  try clear p2
  try clear c3
  try clear c5
  obtain ⟨x0_1, x11_1, x12_1, rfl, rfl, HA, HK1, HO_11, HB⟩ := hrel
  cases gk with
  | zero => exact absurd HA.out (by simp [impl_readRowC.l0])
  | succ k1 =>
   have H := HA.out
   clear HA
   simp only [impl_readRowC.l0] at H
   by_cases c7 : x12_1 = true
   ·subst c7
    have H1 : ((strings_CutPrefix.f x0_1 a1).bind fun bt394 => (if bt394.2 = true then ((impl_readPart.f k1 bt394.1).bind fun bt396 => (if x11_1.length + bt396.1.length < 8796093022208 then ((some (x11_1 ++ bt396.1 : List (S39))).bind fun y401 => (if y401.length < 8796093022208 then (impl_readRowC.l0 k1 bt396.2.1 a1 a2 (y401 ++ [(⟨a2, 0⟩ : S39)]) bt396.2.2) else (none))) else (none))) else (some (x11_1, x0_1, true)))) = some (r1, r2, r3) := by rw [if_pos rfl] at H; exact H
    clear H
    have H := H1
    clear H1
    replace H := Option.bind_eq_some_iff.mp H
    obtain ⟨⟨t394, t395⟩, A80, H⟩ := H
    replace H : (if t395 = true then ((impl_readPart.f k1 t394).bind fun bt396 => (if x11_1.length + bt396.1.length < 8796093022208 then ((some (x11_1 ++ bt396.1 : List (S39))).bind fun y401 => (if y401.length < 8796093022208 then (impl_readRowC.l0 k1 bt396.2.1 a1 a2 (y401 ++ [(⟨a2, 0⟩ : S39)]) bt396.2.2) else (none))) else (none))) else (some (x11_1, x0_1, true))) = some (r1, r2, r3) := H
    have A8 := Aside0.mk A80
    clear A80
    by_cases c9 : t395 = true
    ·subst c9
     have H1 : ((impl_readPart.f k1 t394).bind fun bt396 => (if x11_1.length + bt396.1.length < 8796093022208 then ((some (x11_1 ++ bt396.1 : List (S39))).bind fun y401 => (if y401.length < 8796093022208 then (impl_readRowC.l0 k1 bt396.2.1 a1 a2 (y401 ++ [(⟨a2, 0⟩ : S39)]) bt396.2.2) else (none))) else (none))) = some (r1, r2, r3) := by rw [if_pos rfl] at H; exact H
     clear H
     have H := H1
     clear H1
     replace H := Option.bind_eq_some_iff.mp H
     obtain ⟨⟨t396, t397, t398⟩, A100, H⟩ := H
     replace H : (if x11_1.length + t396.length < 8796093022208 then ((some (x11_1 ++ t396 : List (S39))).bind fun y401 => (if y401.length < 8796093022208 then (impl_readRowC.l0 k1 t397 a1 a2 (y401 ++ [(⟨a2, 0⟩ : S39)]) t398) else (none))) else (none)) = some (r1, r2, r3) := H
     have A10 := Aside0.mk A100
     clear A100
     by_cases c11 : x11_1.length + t396.length < 8796093022208
     ·rw [if_pos c11] at H
      have LMc11 := Aside0.mk c11
      clear c11
      obtain ⟨y401, hy401⟩ : ∃ y_ : List (S39), y_ = (x11_1 ++ t396) := ⟨_, rfl⟩
      replace H : (if y401.length < 8796093022208 then (impl_readRowC.l0 k1 t397 a1 a2 (y401 ++ [(⟨a2, 0⟩ : S39)]) t398) else (none)) = some (r1, r2, r3) := by first | (rw [hy401]; with_reducible exact H) | (have H2_ := (Option.bind_some _ _).symm.trans H; rw [hy401]; with_reducible exact H2_) | (have H2_ := (Option.bind_some _ _).symm.trans H; with_reducible exact H2_) | with_reducible exact H | (rw [hy401]; exact H) | exact H
      have Ny401 := Aside0.mk hy401
      clear hy401
      by_cases c12 : y401.length < 8796093022208
      ·rw [if_pos c12] at H
       have LMc12 := Aside0.mk c12
       clear c12
       obtain ⟨y404, hy404⟩ : ∃ y_ : List (S39), y_ = (y401 ++ [(⟨a2, 0⟩ : S39)]) := ⟨_, rfl⟩
       replace H : (impl_readRowC.l0 k1 t397 a1 a2 y404 t398) = some (r1, r2, r3) := by first | (rw [hy404]; with_reducible exact H) | (have H2_ := (Option.bind_some _ _).symm.trans H; rw [hy404]; with_reducible exact H2_) | (have H2_ := (Option.bind_some _ _).symm.trans H; with_reducible exact H2_) | with_reducible exact H | (rw [hy404]; exact H) | exact H
       have Ny404 := Aside0.mk hy404
       clear hy404
       have H' := Aside0.mk H
       clear H
       go_wp2_with (first | ((with_reducible refine gate_callee (f := 31) rfl ?_); refine goesL_ (some 27) rfl rfl Try.func31 (by kernel_rfl) rfl #[.string x0_1, .string a1] rfl pwi_ ?_; (with_reducible refine (strings_CutPrefix.calls x0_1 a1 t394 true _ A8.out).mono ?_); rintro e w' ⟨rfl, ⟨nd, rfl⟩⟩; refine ⟨_, rfl, ?_⟩) | ((with_reducible refine gate_dyn (c := 35) rfl ?_); refine goesD_ (some 37) rfl rfl Try.func34 (by kernel_rfl) rfl #[.string t394] rfl (by first | rfl | (go_simp; done) | (go_simp; rfl)) pwi_ ?_; (with_reducible refine (h0_ k1 (by have := HK1.out; omega) t394 t396 t397 t398 _ A10.out).mono ?_); rintro e w13 ⟨v399, rfl, ho0, hb⟩; refine ⟨_, rfl, ?_⟩; have n0_ := Aside0.mk (Kd.R_elder' pwd_ (Kd.R_base ho0) hb); have n1_ := Aside0.mk (Kd.R_lower (Kd.R_new' ho0 (Kd.R_lt pwd_)) (below_size pwg_)); have n2_ := Aside0.mk (below_step pwg_ hb); clear HO_11; clear HB; have HO_11 := n0_; have HO400 := n1_; have HB := n2_; clear n0_ n1_ n2_; (try clear hb); (try clear hb2); (try clear hk); (try clear hi); (try clear ho0); obtain ⟨Ao15, co15, eo15⟩ := Kd.R_slice HO400.out; subst eo15) | ((with_reducible refine gate_builtin (b := .append) (xs := #[.tmp 41, .tmp 42]) rfl ?_); at_builtin; refine Kd.R_append_rows k39 (w0 := w) w.heap.size rfl (.tmp 41) (.tmp 42) 23 39 (.agg #[(.int .i64 0), (.int .i64 0)]) 16 rfl Try.underlying23 info39 rfl (by decide) (by omega) u11 x11_1 t396 _ _ _ (fun k_ => some k_ ≠ (.slice Ao15 t396.length co15 : Value).ownBlock) (fun _ => False) rfl rfl ?aO ?aR (fun _ _ h => h) (fun _ h => h.elim) ?aF ?aB ?aS ?aL ?_; (case aR => repeat (first | exact (Kd.R_reads' HO400.out).2.2 | (with_reducible refine Kd.C_alloc ?_ _) | (with_reducible refine Kd.C_drewN ?_ _) | (with_reducible refine Kd.C_drew ?_))); (case aB => exact pwg_); (case aF => exact (fun k_ hk => Kd.fresh' (Kd.R_lt (by (with_reducible repeat apply Kd.R_alloc); exact HO400.out)) k_ hk)); (case aO => exact (by (with_reducible repeat apply Kd.R_alloc); exact Kd.R_mono HO_11.out (fun _ hk => hk.2))); (case aS => exact (below_size pwg_)); (case aL => have := LMc11.out; omega); intro v402 w14 ho hb hg hat; rw [← Ny401.out] at ho; have n0_ := Aside0.mk (Kd.R_after (ok := (fun _ => True)) (by (with_reducible repeat apply Kd.R_alloc); exact HO400.out) hg hat); have n1_ := Aside0.mk (hb); have n2_ := Aside0.mk (ho); clear HO400; clear HB; clear HO_11; have HO400 := n0_; have HB := n1_; have HO403 := n2_; clear n0_ n1_ n2_; clear ho hb hg hat) | ((with_reducible refine gate_builtin (b := .append) (xs := #[.tmp 43, .tmp 46]) rfl ?_); at_builtin; refine Kd.R_append k39 (w0 := w) w.heap.size rfl (.tmp 43) (.tmp 46) 23 39 (.agg #[(.int .i64 0), (.int .i64 0)]) 16 rfl Try.underlying23 info39 rfl (by decide) (by omega) v402 y401 (⟨a2, 0⟩ : S39) [.int .i64 a2, .int .i64 0] (fun k_ => some k_ ≠ (.slice Ao15 t396.length co15 : Value).ownBlock) (fun _ => False) rfl rfl ?aP (fun _ hk => hk.elim) ?aF ?aO ?aB ?aS ?aL ?_; (case aP => exact k39_mkM _ _ _ (⟨a2, 0⟩ : S39)); (case aB => exact pwg_); (case aF => exact (fun k_ hk => Kd.fresh' (Kd.R_lt (by (with_reducible repeat apply Kd.R_alloc); exact HO400.out)) k_ hk)); (case aO => exact (by (with_reducible repeat apply Kd.R_alloc); exact HO403.out)); (case aS => exact (below_size pwg_)); (case aL => have := LMc12.out; omega); intro v405 w16 ho hb hg hat; rw [← Ny404.out] at ho; have n0_ := Aside0.mk (Kd.R_after (ok := (fun _ => True)) (by (with_reducible repeat apply Kd.R_alloc); exact HO400.out) hg hat); have n1_ := Aside0.mk (hb); have n2_ := Aside0.mk (ho); clear HO400; clear HB; clear HO403; have HO400 := n0_; have HB := n1_; have HO406 := n2_; clear n0_ n1_ n2_; clear ho hb hg hat))
       go_roundg k1
       case measure => have := HK1.out; omega
       case rel => exact ⟨(t397), (y404), (t398), pwa_, pwa_, H', ⟨by have := HK1.out; omega⟩, ⟨by (with_reducible repeat apply Kd.R_alloc); exact Kd.R_mono HO406.out (fun _ hk => trivial)⟩, ⟨pwg_⟩⟩
      ·rw [if_neg c12] at H
       exact absurd H (by simp)
     ·rw [if_neg c11] at H
      exact absurd H (by simp)
    ·replace c9 := Bool.eq_false_iff.mpr c9
     subst c9
     have H1 : (some (x11_1, x0_1, true)) = some (r1, r2, r3) := by rw [if_neg (show ¬ (false = true) by decide)] at H; exact H
     clear H
     have H := H1
     clear H1
     simp only [Option.some.injEq, Prod.mk.injEq] at H
     obtain ⟨rfl, rfl, rfl⟩ := H
     go_wp2_with (first | ((with_reducible refine gate_callee (f := 31) rfl ?_); refine goesL_ (some 27) rfl rfl Try.func31 (by kernel_rfl) rfl #[.string x0_1, .string a1] rfl pwi_ ?_; (with_reducible refine (strings_CutPrefix.calls x0_1 a1 t394 false _ A8.out).mono ?_); rintro e w' ⟨rfl, ⟨nd, rfl⟩⟩; refine ⟨_, rfl, ?_⟩))
     go_ret3
     exact ⟨_, by first | rfl | (simp [errW_none, errW_some] <;> rfl) | (simp [*, errW_none, errW_some] <;> rfl), pwd_, pwg_⟩
   ·replace c7 := Bool.eq_false_iff.mpr c7
    subst c7
    have H1 : (some (([] : List (S39)), x0_1, false)) = some (r1, r2, r3) := by rw [if_neg (show ¬ (false = true) by decide)] at H; exact H
    clear H
    have H := H1
    clear H1
    simp only [Option.some.injEq, Prod.mk.injEq] at H
    obtain ⟨rfl, rfl, rfl⟩ := H
    go_wp2
    go_ret3
    exact ⟨_, by first | rfl | (simp [errW_none, errW_some] <;> rfl) | (simp [*, errW_none, errW_some] <;> rfl), by first | exact Kd.R_nil _ _ _ _ _ | exact Kd.N_nil _ _ _ _ _ | exact Kd.V_nil _ _ _ _ _ | exact Kd.Q_nil _ _ _ _ _ | exact Kd.S_nil _ _ _ _ _, pwg_⟩
set_option maxHeartbeats 8000000 in
set_option maxRecDepth 100000 in
theorem impl_readAnd.step (k : Nat) (h0_ : ∀ m_, m_ < k → ∀ (a0 : ByteArray) (r1 : List (S39)) (r2 : ByteArray) (r3 : Bool) (w : World) (h : impl_readPart.f m_ a0 = some (r1, r2, r3)),
  Calls Try.prog 34 #[.string a0] w fun e w' => ∃ v0_ : Value, e = .returned (.tuple #[v0_, .string r2, .bool r3]) ∧ Kd.R k39 39 w' w.heap.size (fun _ => True) v0_ r1 ∧ Below w.heap.size w w') (h1_ : ∀ m_, m_ < k → ∀ (a0 : ByteArray) (a1 : ByteArray) (a2 : Int) (a3 : Int) (r1 : List (S39)) (r2 : ByteArray) (r3 : Bool) (w : World) (h : impl_readRowC.f m_ a0 a1 a2 a3 = some (r1, r2, r3)),
  Calls Try.prog 28 #[.string a0, .string a1, .int .i64 a2, .func (.func 34) #[] #[]] w fun e w' => ∃ v0_ : Value, e = .returned (.tuple #[v0_, .string r2, .bool r3]) ∧ Kd.R k39 39 w' w.heap.size (fun _ => True) v0_ r1 ∧ Below w.heap.size w w') (h2_ : ∀ m_, m_ < k → ∀ (a0 : ByteArray) (r1 : List (S39)) (r2 : ByteArray) (r3 : Bool) (w : World) (h : impl_readAnd.f m_ a0 = some (r1, r2, r3)),
  Calls Try.prog 32 #[.string a0] w fun e w' => ∃ v0_ : Value, e = .returned (.tuple #[v0_, .string r2, .bool r3]) ∧ Kd.R k39 39 w' w.heap.size (fun _ => True) v0_ r1 ∧ Below w.heap.size w w') (h3_ : ∀ m_, m_ < k → ∀ (a0 : ByteArray) (a1 : ByteArray) (a2 : Int) (a3 : Int) (r1 : List (S39)) (r2 : ByteArray) (r3 : Bool) (w : World) (h : impl_readRowB.f m_ a0 a1 a2 a3 = some (r1, r2, r3)),
  Calls Try.prog 28 #[.string a0, .string a1, .int .i64 a2, .func (.func 32) #[] #[]] w fun e w' => ∃ v0_ : Value, e = .returned (.tuple #[v0_, .string r2, .bool r3]) ∧ Kd.R k39 39 w' w.heap.size (fun _ => True) v0_ r1 ∧ Below w.heap.size w w') (h4_ : ∀ m_, m_ < k → ∀ (a0 : ByteArray) (r1 : List (S39)) (r2 : ByteArray) (r3 : Bool) (w : World) (h : impl_readOr.f m_ a0 = some (r1, r2, r3)),
  Calls Try.prog 29 #[.string a0] w fun e w' => ∃ v0_ : Value, e = .returned (.tuple #[v0_, .string r2, .bool r3]) ∧ Kd.R k39 39 w' w.heap.size (fun _ => True) v0_ r1 ∧ Below w.heap.size w w') (h5_ : ∀ m_, m_ < k → ∀ (a0 : ByteArray) (a1 : ByteArray) (a2 : Int) (a3 : Int) (r1 : List (S39)) (r2 : ByteArray) (r3 : Bool) (w : World) (h : impl_readRowA.f m_ a0 a1 a2 a3 = some (r1, r2, r3)),
  Calls Try.prog 28 #[.string a0, .string a1, .int .i64 a2, .func (.func 29) #[] #[]] w fun e w' => ∃ v0_ : Value, e = .returned (.tuple #[v0_, .string r2, .bool r3]) ∧ Kd.R k39 39 w' w.heap.size (fun _ => True) v0_ r1 ∧ Below w.heap.size w w') (h6_ : ∀ m_, m_ < k → ∀ (a0 : ByteArray) (r1 : List (S39)) (r2 : ByteArray) (r3 : Bool) (w : World) (h : impl_readSame.f m_ a0 = some (r1, r2, r3)),
  Calls Try.prog 18 #[.string a0] w fun e w' => ∃ v0_ : Value, e = .returned (.tuple #[v0_, .string r2, .bool r3]) ∧ Kd.R k39 39 w' w.heap.size (fun _ => True) v0_ r1 ∧ Below w.heap.size w w') : ∀ (a0 : ByteArray) (r1 : List (S39)) (r2 : ByteArray) (r3 : Bool) (w : World) (h : impl_readAnd.f k a0 = some (r1, r2, r3)),
  Calls Try.prog 32 #[.string a0] w fun e w' => ∃ v0_ : Value, e = .returned (.tuple #[v0_, .string r2, .bool r3]) ∧ Kd.R k39 39 w' w.heap.size (fun _ => True) v0_ r1 ∧ Below w.heap.size w w' := by
 have ih := h2_
 intro a0 r1 r2 r3 w h
 cases k with
 | zero => exact absurd h (by simp [impl_readAnd.f])
 | succ k =>
 simp only [impl_readAnd.f] at h
 have HB := Aside0.mk (Below.refl w.heap.size w)
 have H : ((impl_readRowC.f k a0 (⟨#[38]⟩ : ByteArray) 3 777034).bind fun bt407 => (some (bt407.1, bt407.2.1, bt407.2.2))) = some (r1, r2, r3) := h
 clear h
 replace H := Option.bind_eq_some_iff.mp H
 obtain ⟨⟨t407, t408, t409⟩, A20, H⟩ := H
 replace H : (some (t407, t408, t409)) = some (r1, r2, r3) := H
 have A2 := Aside0.mk A20
 clear A20
 simp only [Option.some.injEq, Prod.mk.injEq] at H
 obtain ⟨rfl, rfl, rfl⟩ := H
 go_enter Try.func32, Try.ntmps32
 go_wp2_with (first | ((with_reducible refine gate_callee (f := 28) rfl ?_); refine goesL_ (some 6) rfl rfl Try.func28 (by kernel_rfl) rfl #[.string a0, .string (⟨#[38]⟩ : ByteArray), .int .i64 3, .func (.func 034) #[] #[]] rfl pwi_ ?_; (with_reducible refine (h1_ k (by omega) a0 (⟨#[38]⟩ : ByteArray) 3 777034 t407 t408 t409 _ A2.out).mono ?_); rintro e w3 ⟨v410, rfl, ho0, hb⟩; refine ⟨_, rfl, ?_⟩; have n0_ := Aside0.mk (Kd.R_lower ho0 (below_size pwg_)); have n1_ := Aside0.mk (below_step pwg_ hb); clear HB; have HO411 := n0_; have HB := n1_; clear n0_ n1_; (try clear hb); (try clear hb2); (try clear hk); (try clear hi); (try clear ho0)))
 go_ret3
 exact ⟨_, by first | rfl | (simp [errW_none, errW_some] <;> rfl) | (simp [*, errW_none, errW_some] <;> rfl), by (with_reducible repeat apply Kd.R_alloc); exact HO411.out, pwg_⟩
set_option maxHeartbeats 8000000 in
set_option maxRecDepth 100000 in
theorem impl_readRowB.step (k : Nat) (h0_ : ∀ m_, m_ < k → ∀ (a0 : ByteArray) (r1 : List (S39)) (r2 : ByteArray) (r3 : Bool) (w : World) (h : impl_readPart.f m_ a0 = some (r1, r2, r3)),
  Calls Try.prog 34 #[.string a0] w fun e w' => ∃ v0_ : Value, e = .returned (.tuple #[v0_, .string r2, .bool r3]) ∧ Kd.R k39 39 w' w.heap.size (fun _ => True) v0_ r1 ∧ Below w.heap.size w w') (h1_ : ∀ m_, m_ < k → ∀ (a0 : ByteArray) (a1 : ByteArray) (a2 : Int) (a3 : Int) (r1 : List (S39)) (r2 : ByteArray) (r3 : Bool) (w : World) (h : impl_readRowC.f m_ a0 a1 a2 a3 = some (r1, r2, r3)),
  Calls Try.prog 28 #[.string a0, .string a1, .int .i64 a2, .func (.func 34) #[] #[]] w fun e w' => ∃ v0_ : Value, e = .returned (.tuple #[v0_, .string r2, .bool r3]) ∧ Kd.R k39 39 w' w.heap.size (fun _ => True) v0_ r1 ∧ Below w.heap.size w w') (h2_ : ∀ m_, m_ < k → ∀ (a0 : ByteArray) (r1 : List (S39)) (r2 : ByteArray) (r3 : Bool) (w : World) (h : impl_readAnd.f m_ a0 = some (r1, r2, r3)),
  Calls Try.prog 32 #[.string a0] w fun e w' => ∃ v0_ : Value, e = .returned (.tuple #[v0_, .string r2, .bool r3]) ∧ Kd.R k39 39 w' w.heap.size (fun _ => True) v0_ r1 ∧ Below w.heap.size w w') (h3_ : ∀ m_, m_ < k → ∀ (a0 : ByteArray) (a1 : ByteArray) (a2 : Int) (a3 : Int) (r1 : List (S39)) (r2 : ByteArray) (r3 : Bool) (w : World) (h : impl_readRowB.f m_ a0 a1 a2 a3 = some (r1, r2, r3)),
  Calls Try.prog 28 #[.string a0, .string a1, .int .i64 a2, .func (.func 32) #[] #[]] w fun e w' => ∃ v0_ : Value, e = .returned (.tuple #[v0_, .string r2, .bool r3]) ∧ Kd.R k39 39 w' w.heap.size (fun _ => True) v0_ r1 ∧ Below w.heap.size w w') (h4_ : ∀ m_, m_ < k → ∀ (a0 : ByteArray) (r1 : List (S39)) (r2 : ByteArray) (r3 : Bool) (w : World) (h : impl_readOr.f m_ a0 = some (r1, r2, r3)),
  Calls Try.prog 29 #[.string a0] w fun e w' => ∃ v0_ : Value, e = .returned (.tuple #[v0_, .string r2, .bool r3]) ∧ Kd.R k39 39 w' w.heap.size (fun _ => True) v0_ r1 ∧ Below w.heap.size w w') (h5_ : ∀ m_, m_ < k → ∀ (a0 : ByteArray) (a1 : ByteArray) (a2 : Int) (a3 : Int) (r1 : List (S39)) (r2 : ByteArray) (r3 : Bool) (w : World) (h : impl_readRowA.f m_ a0 a1 a2 a3 = some (r1, r2, r3)),
  Calls Try.prog 28 #[.string a0, .string a1, .int .i64 a2, .func (.func 29) #[] #[]] w fun e w' => ∃ v0_ : Value, e = .returned (.tuple #[v0_, .string r2, .bool r3]) ∧ Kd.R k39 39 w' w.heap.size (fun _ => True) v0_ r1 ∧ Below w.heap.size w w') (h6_ : ∀ m_, m_ < k → ∀ (a0 : ByteArray) (r1 : List (S39)) (r2 : ByteArray) (r3 : Bool) (w : World) (h : impl_readSame.f m_ a0 = some (r1, r2, r3)),
  Calls Try.prog 18 #[.string a0] w fun e w' => ∃ v0_ : Value, e = .returned (.tuple #[v0_, .string r2, .bool r3]) ∧ Kd.R k39 39 w' w.heap.size (fun _ => True) v0_ r1 ∧ Below w.heap.size w w') : ∀ (a0 : ByteArray) (a1 : ByteArray) (a2 : Int) (a3 : Int) (r1 : List (S39)) (r2 : ByteArray) (r3 : Bool) (w : World) (h : impl_readRowB.f k a0 a1 a2 a3 = some (r1, r2, r3)),
  Calls Try.prog 28 #[.string a0, .string a1, .int .i64 a2, .func (.func 32) #[] #[]] w fun e w' => ∃ v0_ : Value, e = .returned (.tuple #[v0_, .string r2, .bool r3]) ∧ Kd.R k39 39 w' w.heap.size (fun _ => True) v0_ r1 ∧ Below w.heap.size w w' := by
 have ih := h3_
 intro a0 a1 a2 a3 r1 r2 r3 w h
 cases k with
 | zero => exact absurd h (by simp [impl_readRowB.f])
 | succ k =>
 simp only [impl_readRowB.f] at h
 have hu39 := Try.underlying39
 have HB := Aside0.mk (Below.refl w.heap.size w)
 have H : ((impl_readAnd.f k a0).bind fun bt412 => (impl_readRowB.l0 k bt412.2.1 a1 a2 bt412.1 bt412.2.2)) = some (r1, r2, r3) := h
 clear h
 replace H := Option.bind_eq_some_iff.mp H
 obtain ⟨⟨t412, t413, t414⟩, A50, H⟩ := H
 replace H : (impl_readRowB.l0 k t413 a1 a2 t412 t414) = some (r1, r2, r3) := H
 have A5 := Aside0.mk A50
 clear A50
 have H' := Aside0.mk H
 clear H
 go_enter Try.func28, Try.ntmps28
 go_wp2_with (first | ((with_reducible refine gate_dyn (c := 17) rfl ?_); refine goesD_ (some 19) rfl rfl Try.func32 (by kernel_rfl) rfl #[.string a0] rfl (by first | rfl | (go_simp; done) | (go_simp; rfl)) pwi_ ?_; (with_reducible refine (h2_ k (by omega) a0 t412 t413 t414 _ A5.out).mono ?_); rintro e w6 ⟨v415, rfl, ho0, hb⟩; refine ⟨_, rfl, ?_⟩; have n0_ := Aside0.mk (Kd.R_lower ho0 (below_size pwg_)); have n1_ := Aside0.mk (below_step pwg_ hb); clear HB; have HO416 := n0_; have HB := n1_; clear n0_ n1_; (try clear hb); (try clear hb2); (try clear hk); (try clear hi); (try clear ho0)))
 go_loopg [0, 11, 12] k (fun kq v0 v11 v12 w' => ∃ (x0_1 : ByteArray) (x11_1 : List (S39)) (x12_1 : Bool), v0 = .string x0_1 ∧ v12 = .bool x12_1 ∧ Aside0 (impl_readRowB.l0 kq x0_1 a1 a2 x11_1 x12_1 = some (r1, r2, r3)) ∧ Aside0 (kq ≤ k) ∧ Aside0 (Kd.R k39 39 w' w.heap.size (fun _ => True) v11 x11_1) ∧ Aside0 (Below w.heap.size w w'))
 case atStart => exact ⟨(t413), (t412), (t414), pwa_, pwa_, H', ⟨Nat.le_refl _⟩, ⟨by (with_reducible repeat apply Kd.R_alloc); exact HO416.out⟩, ⟨pwg_⟩⟩
 case round =>
  clear H'
  try clear p2
  try clear c3
  try clear c5
  obtain ⟨x0_1, x11_1, x12_1, rfl, rfl, HA, HK1, HO_11, HB⟩ := hrel
  cases gk with
  | zero => exact absurd HA.out (by simp [impl_readRowB.l0])
  | succ k1 =>
   have H := HA.out
   clear HA
   simp only [impl_readRowB.l0] at H
   by_cases c7 : x12_1 = true
   ·subst c7
    have H1 : ((strings_CutPrefix.f x0_1 a1).bind fun bt417 => (if bt417.2 = true then ((impl_readAnd.f k1 bt417.1).bind fun bt419 => (if x11_1.length + bt419.1.length < 8796093022208 then ((some (x11_1 ++ bt419.1 : List (S39))).bind fun y424 => (if y424.length < 8796093022208 then (impl_readRowB.l0 k1 bt419.2.1 a1 a2 (y424 ++ [(⟨a2, 0⟩ : S39)]) bt419.2.2) else (none))) else (none))) else (some (x11_1, x0_1, true)))) = some (r1, r2, r3) := by rw [if_pos rfl] at H; exact H
    clear H
    have H := H1
    clear H1
    replace H := Option.bind_eq_some_iff.mp H
    obtain ⟨⟨t417, t418⟩, A80, H⟩ := H
    replace H : (if t418 = true then ((impl_readAnd.f k1 t417).bind fun bt419 => (if x11_1.length + bt419.1.length < 8796093022208 then ((some (x11_1 ++ bt419.1 : List (S39))).bind fun y424 => (if y424.length < 8796093022208 then (impl_readRowB.l0 k1 bt419.2.1 a1 a2 (y424 ++ [(⟨a2, 0⟩ : S39)]) bt419.2.2) else (none))) else (none))) else (some (x11_1, x0_1, true))) = some (r1, r2, r3) := H
    have A8 := Aside0.mk A80
    clear A80
    by_cases c9 : t418 = true
    ·subst c9
     have H1 : ((impl_readAnd.f k1 t417).bind fun bt419 => (if x11_1.length + bt419.1.length < 8796093022208 then ((some (x11_1 ++ bt419.1 : List (S39))).bind fun y424 => (if y424.length < 8796093022208 then (impl_readRowB.l0 k1 bt419.2.1 a1 a2 (y424 ++ [(⟨a2, 0⟩ : S39)]) bt419.2.2) else (none))) else (none))) = some (r1, r2, r3) := by rw [if_pos rfl] at H; exact H
     clear H
     have H := H1
     clear H1
     replace H := Option.bind_eq_some_iff.mp H
     obtain ⟨⟨t419, t420, t421⟩, A100, H⟩ := H
     replace H : (if x11_1.length + t419.length < 8796093022208 then ((some (x11_1 ++ t419 : List (S39))).bind fun y424 => (if y424.length < 8796093022208 then (impl_readRowB.l0 k1 t420 a1 a2 (y424 ++ [(⟨a2, 0⟩ : S39)]) t421) else (none))) else (none)) = some (r1, r2, r3) := H
     have A10 := Aside0.mk A100
     clear A100
     by_cases c11 : x11_1.length + t419.length < 8796093022208
     ·rw [if_pos c11] at H
      have LMc11 := Aside0.mk c11
      clear c11
      obtain ⟨y424, hy424⟩ : ∃ y_ : List (S39), y_ = (x11_1 ++ t419) := ⟨_, rfl⟩
      replace H : (if y424.length < 8796093022208 then (impl_readRowB.l0 k1 t420 a1 a2 (y424 ++ [(⟨a2, 0⟩ : S39)]) t421) else (none)) = some (r1, r2, r3) := by first | (rw [hy424]; with_reducible exact H) | (have H2_ := (Option.bind_some _ _).symm.trans H; rw [hy424]; with_reducible exact H2_) | (have H2_ := (Option.bind_some _ _).symm.trans H; with_reducible exact H2_) | with_reducible exact H | (rw [hy424]; exact H) | exact H
      have Ny424 := Aside0.mk hy424
      clear hy424
      by_cases c12 : y424.length < 8796093022208
      ·rw [if_pos c12] at H
       have LMc12 := Aside0.mk c12
       clear c12
       obtain ⟨y427, hy427⟩ : ∃ y_ : List (S39), y_ = (y424 ++ [(⟨a2, 0⟩ : S39)]) := ⟨_, rfl⟩
       replace H : (impl_readRowB.l0 k1 t420 a1 a2 y427 t421) = some (r1, r2, r3) := by first | (rw [hy427]; with_reducible exact H) | (have H2_ := (Option.bind_some _ _).symm.trans H; rw [hy427]; with_reducible exact H2_) | (have H2_ := (Option.bind_some _ _).symm.trans H; with_reducible exact H2_) | with_reducible exact H | (rw [hy427]; exact H) | exact H
       have Ny427 := Aside0.mk hy427
       clear hy427
       have H' := Aside0.mk H
       clear H
       go_wp2_with (first | ((with_reducible refine gate_callee (f := 31) rfl ?_); refine goesL_ (some 27) rfl rfl Try.func31 (by kernel_rfl) rfl #[.string x0_1, .string a1] rfl pwi_ ?_; (with_reducible refine (strings_CutPrefix.calls x0_1 a1 t417 true _ A8.out).mono ?_); rintro e w' ⟨rfl, ⟨nd, rfl⟩⟩; refine ⟨_, rfl, ?_⟩) | ((with_reducible refine gate_dyn (c := 35) rfl ?_); refine goesD_ (some 37) rfl rfl Try.func32 (by kernel_rfl) rfl #[.string t417] rfl (by first | rfl | (go_simp; done) | (go_simp; rfl)) pwi_ ?_; (with_reducible refine (h2_ k1 (by have := HK1.out; omega) t417 t419 t420 t421 _ A10.out).mono ?_); rintro e w13 ⟨v422, rfl, ho0, hb⟩; refine ⟨_, rfl, ?_⟩; have n0_ := Aside0.mk (Kd.R_elder' pwd_ (Kd.R_base ho0) hb); have n1_ := Aside0.mk (Kd.R_lower (Kd.R_new' ho0 (Kd.R_lt pwd_)) (below_size pwg_)); have n2_ := Aside0.mk (below_step pwg_ hb); clear HO_11; clear HB; have HO_11 := n0_; have HO423 := n1_; have HB := n2_; clear n0_ n1_ n2_; (try clear hb); (try clear hb2); (try clear hk); (try clear hi); (try clear ho0); obtain ⟨Ao15, co15, eo15⟩ := Kd.R_slice HO423.out; subst eo15) | ((with_reducible refine gate_builtin (b := .append) (xs := #[.tmp 41, .tmp 42]) rfl ?_); at_builtin; refine Kd.R_append_rows k39 (w0 := w) w.heap.size rfl (.tmp 41) (.tmp 42) 23 39 (.agg #[(.int .i64 0), (.int .i64 0)]) 16 rfl Try.underlying23 info39 rfl (by decide) (by omega) u11 x11_1 t419 _ _ _ (fun k_ => some k_ ≠ (.slice Ao15 t419.length co15 : Value).ownBlock) (fun _ => False) rfl rfl ?aO ?aR (fun _ _ h => h) (fun _ h => h.elim) ?aF ?aB ?aS ?aL ?_; (case aR => repeat (first | exact (Kd.R_reads' HO423.out).2.2 | (with_reducible refine Kd.C_alloc ?_ _) | (with_reducible refine Kd.C_drewN ?_ _) | (with_reducible refine Kd.C_drew ?_))); (case aB => exact pwg_); (case aF => exact (fun k_ hk => Kd.fresh' (Kd.R_lt (by (with_reducible repeat apply Kd.R_alloc); exact HO423.out)) k_ hk)); (case aO => exact (by (with_reducible repeat apply Kd.R_alloc); exact Kd.R_mono HO_11.out (fun _ hk => hk.2))); (case aS => exact (below_size pwg_)); (case aL => have := LMc11.out; omega); intro v425 w14 ho hb hg hat; rw [← Ny424.out] at ho; have n0_ := Aside0.mk (Kd.R_after (ok := (fun _ => True)) (by (with_reducible repeat apply Kd.R_alloc); exact HO423.out) hg hat); have n1_ := Aside0.mk (hb); have n2_ := Aside0.mk (ho); clear HO423; clear HB; clear HO_11; have HO423 := n0_; have HB := n1_; have HO426 := n2_; clear n0_ n1_ n2_; clear ho hb hg hat) | ((with_reducible refine gate_builtin (b := .append) (xs := #[.tmp 43, .tmp 46]) rfl ?_); at_builtin; refine Kd.R_append k39 (w0 := w) w.heap.size rfl (.tmp 43) (.tmp 46) 23 39 (.agg #[(.int .i64 0), (.int .i64 0)]) 16 rfl Try.underlying23 info39 rfl (by decide) (by omega) v425 y424 (⟨a2, 0⟩ : S39) [.int .i64 a2, .int .i64 0] (fun k_ => some k_ ≠ (.slice Ao15 t419.length co15 : Value).ownBlock) (fun _ => False) rfl rfl ?aP (fun _ hk => hk.elim) ?aF ?aO ?aB ?aS ?aL ?_; (case aP => exact k39_mkM _ _ _ (⟨a2, 0⟩ : S39)); (case aB => exact pwg_); (case aF => exact (fun k_ hk => Kd.fresh' (Kd.R_lt (by (with_reducible repeat apply Kd.R_alloc); exact HO423.out)) k_ hk)); (case aO => exact (by (with_reducible repeat apply Kd.R_alloc); exact HO426.out)); (case aS => exact (below_size pwg_)); (case aL => have := LMc12.out; omega); intro v428 w16 ho hb hg hat; rw [← Ny427.out] at ho; have n0_ := Aside0.mk (Kd.R_after (ok := (fun _ => True)) (by (with_reducible repeat apply Kd.R_alloc); exact HO423.out) hg hat); have n1_ := Aside0.mk (hb); have n2_ := Aside0.mk (ho); clear HO423; clear HB; clear HO426; have HO423 := n0_; have HB := n1_; have HO429 := n2_; clear n0_ n1_ n2_; clear ho hb hg hat))
       go_roundg k1
       case measure => have := HK1.out; omega
       case rel => exact ⟨(t420), (y427), (t421), pwa_, pwa_, H', ⟨by have := HK1.out; omega⟩, ⟨by (with_reducible repeat apply Kd.R_alloc); exact Kd.R_mono HO429.out (fun _ hk => trivial)⟩, ⟨pwg_⟩⟩
      ·rw [if_neg c12] at H
       exact absurd H (by simp)
     ·rw [if_neg c11] at H
      exact absurd H (by simp)
    ·replace c9 := Bool.eq_false_iff.mpr c9
     subst c9
     have H1 : (some (x11_1, x0_1, true)) = some (r1, r2, r3) := by rw [if_neg (show ¬ (false = true) by decide)] at H; exact H
     clear H
     have H := H1
     clear H1
     simp only [Option.some.injEq, Prod.mk.injEq] at H
     obtain ⟨rfl, rfl, rfl⟩ := H
     go_wp2_with (first | ((with_reducible refine gate_callee (f := 31) rfl ?_); refine goesL_ (some 27) rfl rfl Try.func31 (by kernel_rfl) rfl #[.string x0_1, .string a1] rfl pwi_ ?_; (with_reducible refine (strings_CutPrefix.calls x0_1 a1 t417 false _ A8.out).mono ?_); rintro e w' ⟨rfl, ⟨nd, rfl⟩⟩; refine ⟨_, rfl, ?_⟩))
     go_ret3
     exact ⟨_, by first | rfl | (simp [errW_none, errW_some] <;> rfl) | (simp [*, errW_none, errW_some] <;> rfl), pwd_, pwg_⟩
   ·replace c7 := Bool.eq_false_iff.mpr c7
    subst c7
    have H1 : (some (([] : List (S39)), x0_1, false)) = some (r1, r2, r3) := by rw [if_neg (show ¬ (false = true) by decide)] at H; exact H
    clear H
    have H := H1
    clear H1
    simp only [Option.some.injEq, Prod.mk.injEq] at H
    obtain ⟨rfl, rfl, rfl⟩ := H
    go_wp2
    go_ret3
    exact ⟨_, by first | rfl | (simp [errW_none, errW_some] <;> rfl) | (simp [*, errW_none, errW_some] <;> rfl), by first | exact Kd.R_nil _ _ _ _ _ | exact Kd.N_nil _ _ _ _ _ | exact Kd.V_nil _ _ _ _ _ | exact Kd.Q_nil _ _ _ _ _ | exact Kd.S_nil _ _ _ _ _, pwg_⟩
set_option maxHeartbeats 8000000 in
set_option maxRecDepth 100000 in
theorem impl_readOr.step (k : Nat) (h0_ : ∀ m_, m_ < k → ∀ (a0 : ByteArray) (r1 : List (S39)) (r2 : ByteArray) (r3 : Bool) (w : World) (h : impl_readPart.f m_ a0 = some (r1, r2, r3)),
  Calls Try.prog 34 #[.string a0] w fun e w' => ∃ v0_ : Value, e = .returned (.tuple #[v0_, .string r2, .bool r3]) ∧ Kd.R k39 39 w' w.heap.size (fun _ => True) v0_ r1 ∧ Below w.heap.size w w') (h1_ : ∀ m_, m_ < k → ∀ (a0 : ByteArray) (a1 : ByteArray) (a2 : Int) (a3 : Int) (r1 : List (S39)) (r2 : ByteArray) (r3 : Bool) (w : World) (h : impl_readRowC.f m_ a0 a1 a2 a3 = some (r1, r2, r3)),
  Calls Try.prog 28 #[.string a0, .string a1, .int .i64 a2, .func (.func 34) #[] #[]] w fun e w' => ∃ v0_ : Value, e = .returned (.tuple #[v0_, .string r2, .bool r3]) ∧ Kd.R k39 39 w' w.heap.size (fun _ => True) v0_ r1 ∧ Below w.heap.size w w') (h2_ : ∀ m_, m_ < k → ∀ (a0 : ByteArray) (r1 : List (S39)) (r2 : ByteArray) (r3 : Bool) (w : World) (h : impl_readAnd.f m_ a0 = some (r1, r2, r3)),
  Calls Try.prog 32 #[.string a0] w fun e w' => ∃ v0_ : Value, e = .returned (.tuple #[v0_, .string r2, .bool r3]) ∧ Kd.R k39 39 w' w.heap.size (fun _ => True) v0_ r1 ∧ Below w.heap.size w w') (h3_ : ∀ m_, m_ < k → ∀ (a0 : ByteArray) (a1 : ByteArray) (a2 : Int) (a3 : Int) (r1 : List (S39)) (r2 : ByteArray) (r3 : Bool) (w : World) (h : impl_readRowB.f m_ a0 a1 a2 a3 = some (r1, r2, r3)),
  Calls Try.prog 28 #[.string a0, .string a1, .int .i64 a2, .func (.func 32) #[] #[]] w fun e w' => ∃ v0_ : Value, e = .returned (.tuple #[v0_, .string r2, .bool r3]) ∧ Kd.R k39 39 w' w.heap.size (fun _ => True) v0_ r1 ∧ Below w.heap.size w w') (h4_ : ∀ m_, m_ < k → ∀ (a0 : ByteArray) (r1 : List (S39)) (r2 : ByteArray) (r3 : Bool) (w : World) (h : impl_readOr.f m_ a0 = some (r1, r2, r3)),
  Calls Try.prog 29 #[.string a0] w fun e w' => ∃ v0_ : Value, e = .returned (.tuple #[v0_, .string r2, .bool r3]) ∧ Kd.R k39 39 w' w.heap.size (fun _ => True) v0_ r1 ∧ Below w.heap.size w w') (h5_ : ∀ m_, m_ < k → ∀ (a0 : ByteArray) (a1 : ByteArray) (a2 : Int) (a3 : Int) (r1 : List (S39)) (r2 : ByteArray) (r3 : Bool) (w : World) (h : impl_readRowA.f m_ a0 a1 a2 a3 = some (r1, r2, r3)),
  Calls Try.prog 28 #[.string a0, .string a1, .int .i64 a2, .func (.func 29) #[] #[]] w fun e w' => ∃ v0_ : Value, e = .returned (.tuple #[v0_, .string r2, .bool r3]) ∧ Kd.R k39 39 w' w.heap.size (fun _ => True) v0_ r1 ∧ Below w.heap.size w w') (h6_ : ∀ m_, m_ < k → ∀ (a0 : ByteArray) (r1 : List (S39)) (r2 : ByteArray) (r3 : Bool) (w : World) (h : impl_readSame.f m_ a0 = some (r1, r2, r3)),
  Calls Try.prog 18 #[.string a0] w fun e w' => ∃ v0_ : Value, e = .returned (.tuple #[v0_, .string r2, .bool r3]) ∧ Kd.R k39 39 w' w.heap.size (fun _ => True) v0_ r1 ∧ Below w.heap.size w w') : ∀ (a0 : ByteArray) (r1 : List (S39)) (r2 : ByteArray) (r3 : Bool) (w : World) (h : impl_readOr.f k a0 = some (r1, r2, r3)),
  Calls Try.prog 29 #[.string a0] w fun e w' => ∃ v0_ : Value, e = .returned (.tuple #[v0_, .string r2, .bool r3]) ∧ Kd.R k39 39 w' w.heap.size (fun _ => True) v0_ r1 ∧ Below w.heap.size w w' := by
 have ih := h4_
 intro a0 r1 r2 r3 w h
 cases k with
 | zero => exact absurd h (by simp [impl_readOr.f])
 | succ k =>
 simp only [impl_readOr.f] at h
 have HB := Aside0.mk (Below.refl w.heap.size w)
 have H : ((impl_readRowB.f k a0 (⟨#[124]⟩ : ByteArray) 4 777032).bind fun bt430 => (some (bt430.1, bt430.2.1, bt430.2.2))) = some (r1, r2, r3) := h
 clear h
 replace H := Option.bind_eq_some_iff.mp H
 obtain ⟨⟨t430, t431, t432⟩, A20, H⟩ := H
 replace H : (some (t430, t431, t432)) = some (r1, r2, r3) := H
 have A2 := Aside0.mk A20
 clear A20
 simp only [Option.some.injEq, Prod.mk.injEq] at H
 obtain ⟨rfl, rfl, rfl⟩ := H
 go_enter Try.func29, Try.ntmps29
 go_wp2_with (first | ((with_reducible refine gate_callee (f := 28) rfl ?_); refine goesL_ (some 6) rfl rfl Try.func28 (by kernel_rfl) rfl #[.string a0, .string (⟨#[124]⟩ : ByteArray), .int .i64 4, .func (.func 032) #[] #[]] rfl pwi_ ?_; (with_reducible refine (h3_ k (by omega) a0 (⟨#[124]⟩ : ByteArray) 4 777032 t430 t431 t432 _ A2.out).mono ?_); rintro e w3 ⟨v433, rfl, ho0, hb⟩; refine ⟨_, rfl, ?_⟩; have n0_ := Aside0.mk (Kd.R_lower ho0 (below_size pwg_)); have n1_ := Aside0.mk (below_step pwg_ hb); clear HB; have HO434 := n0_; have HB := n1_; clear n0_ n1_; (try clear hb); (try clear hb2); (try clear hk); (try clear hi); (try clear ho0)))
 go_ret3
 exact ⟨_, by first | rfl | (simp [errW_none, errW_some] <;> rfl) | (simp [*, errW_none, errW_some] <;> rfl), by (with_reducible repeat apply Kd.R_alloc); exact HO434.out, pwg_⟩
set_option maxHeartbeats 8000000 in
set_option maxRecDepth 100000 in
theorem impl_readRowA.step (k : Nat) (h0_ : ∀ m_, m_ < k → ∀ (a0 : ByteArray) (r1 : List (S39)) (r2 : ByteArray) (r3 : Bool) (w : World) (h : impl_readPart.f m_ a0 = some (r1, r2, r3)),
  Calls Try.prog 34 #[.string a0] w fun e w' => ∃ v0_ : Value, e = .returned (.tuple #[v0_, .string r2, .bool r3]) ∧ Kd.R k39 39 w' w.heap.size (fun _ => True) v0_ r1 ∧ Below w.heap.size w w') (h1_ : ∀ m_, m_ < k → ∀ (a0 : ByteArray) (a1 : ByteArray) (a2 : Int) (a3 : Int) (r1 : List (S39)) (r2 : ByteArray) (r3 : Bool) (w : World) (h : impl_readRowC.f m_ a0 a1 a2 a3 = some (r1, r2, r3)),
  Calls Try.prog 28 #[.string a0, .string a1, .int .i64 a2, .func (.func 34) #[] #[]] w fun e w' => ∃ v0_ : Value, e = .returned (.tuple #[v0_, .string r2, .bool r3]) ∧ Kd.R k39 39 w' w.heap.size (fun _ => True) v0_ r1 ∧ Below w.heap.size w w') (h2_ : ∀ m_, m_ < k → ∀ (a0 : ByteArray) (r1 : List (S39)) (r2 : ByteArray) (r3 : Bool) (w : World) (h : impl_readAnd.f m_ a0 = some (r1, r2, r3)),
  Calls Try.prog 32 #[.string a0] w fun e w' => ∃ v0_ : Value, e = .returned (.tuple #[v0_, .string r2, .bool r3]) ∧ Kd.R k39 39 w' w.heap.size (fun _ => True) v0_ r1 ∧ Below w.heap.size w w') (h3_ : ∀ m_, m_ < k → ∀ (a0 : ByteArray) (a1 : ByteArray) (a2 : Int) (a3 : Int) (r1 : List (S39)) (r2 : ByteArray) (r3 : Bool) (w : World) (h : impl_readRowB.f m_ a0 a1 a2 a3 = some (r1, r2, r3)),
  Calls Try.prog 28 #[.string a0, .string a1, .int .i64 a2, .func (.func 32) #[] #[]] w fun e w' => ∃ v0_ : Value, e = .returned (.tuple #[v0_, .string r2, .bool r3]) ∧ Kd.R k39 39 w' w.heap.size (fun _ => True) v0_ r1 ∧ Below w.heap.size w w') (h4_ : ∀ m_, m_ < k → ∀ (a0 : ByteArray) (r1 : List (S39)) (r2 : ByteArray) (r3 : Bool) (w : World) (h : impl_readOr.f m_ a0 = some (r1, r2, r3)),
  Calls Try.prog 29 #[.string a0] w fun e w' => ∃ v0_ : Value, e = .returned (.tuple #[v0_, .string r2, .bool r3]) ∧ Kd.R k39 39 w' w.heap.size (fun _ => True) v0_ r1 ∧ Below w.heap.size w w') (h5_ : ∀ m_, m_ < k → ∀ (a0 : ByteArray) (a1 : ByteArray) (a2 : Int) (a3 : Int) (r1 : List (S39)) (r2 : ByteArray) (r3 : Bool) (w : World) (h : impl_readRowA.f m_ a0 a1 a2 a3 = some (r1, r2, r3)),
  Calls Try.prog 28 #[.string a0, .string a1, .int .i64 a2, .func (.func 29) #[] #[]] w fun e w' => ∃ v0_ : Value, e = .returned (.tuple #[v0_, .string r2, .bool r3]) ∧ Kd.R k39 39 w' w.heap.size (fun _ => True) v0_ r1 ∧ Below w.heap.size w w') (h6_ : ∀ m_, m_ < k → ∀ (a0 : ByteArray) (r1 : List (S39)) (r2 : ByteArray) (r3 : Bool) (w : World) (h : impl_readSame.f m_ a0 = some (r1, r2, r3)),
  Calls Try.prog 18 #[.string a0] w fun e w' => ∃ v0_ : Value, e = .returned (.tuple #[v0_, .string r2, .bool r3]) ∧ Kd.R k39 39 w' w.heap.size (fun _ => True) v0_ r1 ∧ Below w.heap.size w w') : ∀ (a0 : ByteArray) (a1 : ByteArray) (a2 : Int) (a3 : Int) (r1 : List (S39)) (r2 : ByteArray) (r3 : Bool) (w : World) (h : impl_readRowA.f k a0 a1 a2 a3 = some (r1, r2, r3)),
  Calls Try.prog 28 #[.string a0, .string a1, .int .i64 a2, .func (.func 29) #[] #[]] w fun e w' => ∃ v0_ : Value, e = .returned (.tuple #[v0_, .string r2, .bool r3]) ∧ Kd.R k39 39 w' w.heap.size (fun _ => True) v0_ r1 ∧ Below w.heap.size w w' := by
 have ih := h5_
 intro a0 a1 a2 a3 r1 r2 r3 w h
 cases k with
 | zero => exact absurd h (by simp [impl_readRowA.f])
 | succ k =>
 simp only [impl_readRowA.f] at h
 have hu39 := Try.underlying39
 have HB := Aside0.mk (Below.refl w.heap.size w)
 have H : ((impl_readOr.f k a0).bind fun bt435 => (impl_readRowA.l0 k bt435.2.1 a1 a2 bt435.1 bt435.2.2)) = some (r1, r2, r3) := h
 clear h
 replace H := Option.bind_eq_some_iff.mp H
 obtain ⟨⟨t435, t436, t437⟩, A50, H⟩ := H
 replace H : (impl_readRowA.l0 k t436 a1 a2 t435 t437) = some (r1, r2, r3) := H
 have A5 := Aside0.mk A50
 clear A50
 have H' := Aside0.mk H
 clear H
 go_enter Try.func28, Try.ntmps28
 go_wp2_with (first | ((with_reducible refine gate_dyn (c := 17) rfl ?_); refine goesD_ (some 19) rfl rfl Try.func29 (by kernel_rfl) rfl #[.string a0] rfl (by first | rfl | (go_simp; done) | (go_simp; rfl)) pwi_ ?_; (with_reducible refine (h4_ k (by omega) a0 t435 t436 t437 _ A5.out).mono ?_); rintro e w6 ⟨v438, rfl, ho0, hb⟩; refine ⟨_, rfl, ?_⟩; have n0_ := Aside0.mk (Kd.R_lower ho0 (below_size pwg_)); have n1_ := Aside0.mk (below_step pwg_ hb); clear HB; have HO439 := n0_; have HB := n1_; clear n0_ n1_; (try clear hb); (try clear hb2); (try clear hk); (try clear hi); (try clear ho0)))
 go_loopg [0, 11, 12] k (fun kq v0 v11 v12 w' => ∃ (x0_1 : ByteArray) (x11_1 : List (S39)) (x12_1 : Bool), v0 = .string x0_1 ∧ v12 = .bool x12_1 ∧ Aside0 (impl_readRowA.l0 kq x0_1 a1 a2 x11_1 x12_1 = some (r1, r2, r3)) ∧ Aside0 (kq ≤ k) ∧ Aside0 (Kd.R k39 39 w' w.heap.size (fun _ => True) v11 x11_1) ∧ Aside0 (Below w.heap.size w w'))
 case atStart => exact ⟨(t436), (t435), (t437), pwa_, pwa_, H', ⟨Nat.le_refl _⟩, ⟨by (with_reducible repeat apply Kd.R_alloc); exact HO439.out⟩, ⟨pwg_⟩⟩
 case round =>
  clear H'
  try clear c2
  try clear p2
  try clear c5
  obtain ⟨x0_1, x11_1, x12_1, rfl, rfl, HA, HK1, HO_11, HB⟩ := hrel
  cases gk with
  | zero => exact absurd HA.out (by simp [impl_readRowA.l0])
  | succ k1 =>
   have H := HA.out
   clear HA
   simp only [impl_readRowA.l0] at H
   by_cases c7 : x12_1 = true
   ·subst c7
    have H1 : ((strings_CutPrefix.f x0_1 a1).bind fun bt440 => (if bt440.2 = true then ((impl_readOr.f k1 bt440.1).bind fun bt442 => (if x11_1.length + bt442.1.length < 8796093022208 then ((some (x11_1 ++ bt442.1 : List (S39))).bind fun y447 => (if y447.length < 8796093022208 then (impl_readRowA.l0 k1 bt442.2.1 a1 a2 (y447 ++ [(⟨a2, 0⟩ : S39)]) bt442.2.2) else (none))) else (none))) else (some (x11_1, x0_1, true)))) = some (r1, r2, r3) := by rw [if_pos rfl] at H; exact H
    clear H
    have H := H1
    clear H1
    replace H := Option.bind_eq_some_iff.mp H
    obtain ⟨⟨t440, t441⟩, A80, H⟩ := H
    replace H : (if t441 = true then ((impl_readOr.f k1 t440).bind fun bt442 => (if x11_1.length + bt442.1.length < 8796093022208 then ((some (x11_1 ++ bt442.1 : List (S39))).bind fun y447 => (if y447.length < 8796093022208 then (impl_readRowA.l0 k1 bt442.2.1 a1 a2 (y447 ++ [(⟨a2, 0⟩ : S39)]) bt442.2.2) else (none))) else (none))) else (some (x11_1, x0_1, true))) = some (r1, r2, r3) := H
    have A8 := Aside0.mk A80
    clear A80
    by_cases c9 : t441 = true
    ·subst c9
     have H1 : ((impl_readOr.f k1 t440).bind fun bt442 => (if x11_1.length + bt442.1.length < 8796093022208 then ((some (x11_1 ++ bt442.1 : List (S39))).bind fun y447 => (if y447.length < 8796093022208 then (impl_readRowA.l0 k1 bt442.2.1 a1 a2 (y447 ++ [(⟨a2, 0⟩ : S39)]) bt442.2.2) else (none))) else (none))) = some (r1, r2, r3) := by rw [if_pos rfl] at H; exact H
     clear H
     have H := H1
     clear H1
     replace H := Option.bind_eq_some_iff.mp H
     obtain ⟨⟨t442, t443, t444⟩, A100, H⟩ := H
     replace H : (if x11_1.length + t442.length < 8796093022208 then ((some (x11_1 ++ t442 : List (S39))).bind fun y447 => (if y447.length < 8796093022208 then (impl_readRowA.l0 k1 t443 a1 a2 (y447 ++ [(⟨a2, 0⟩ : S39)]) t444) else (none))) else (none)) = some (r1, r2, r3) := H
     have A10 := Aside0.mk A100
     clear A100
     by_cases c11 : x11_1.length + t442.length < 8796093022208
     ·rw [if_pos c11] at H
      have LMc11 := Aside0.mk c11
      clear c11
      obtain ⟨y447, hy447⟩ : ∃ y_ : List (S39), y_ = (x11_1 ++ t442) := ⟨_, rfl⟩
      replace H : (if y447.length < 8796093022208 then (impl_readRowA.l0 k1 t443 a1 a2 (y447 ++ [(⟨a2, 0⟩ : S39)]) t444) else (none)) = some (r1, r2, r3) := by first | (rw [hy447]; with_reducible exact H) | (have H2_ := (Option.bind_some _ _).symm.trans H; rw [hy447]; with_reducible exact H2_) | (have H2_ := (Option.bind_some _ _).symm.trans H; with_reducible exact H2_) | with_reducible exact H | (rw [hy447]; exact H) | exact H
      have Ny447 := Aside0.mk hy447
      clear hy447
      by_cases c12 : y447.length < 8796093022208
      ·rw [if_pos c12] at H
       have LMc12 := Aside0.mk c12
       clear c12
       obtain ⟨y450, hy450⟩ : ∃ y_ : List (S39), y_ = (y447 ++ [(⟨a2, 0⟩ : S39)]) := ⟨_, rfl⟩
       replace H : (impl_readRowA.l0 k1 t443 a1 a2 y450 t444) = some (r1, r2, r3) := by first | (rw [hy450]; with_reducible exact H) | (have H2_ := (Option.bind_some _ _).symm.trans H; rw [hy450]; with_reducible exact H2_) | (have H2_ := (Option.bind_some _ _).symm.trans H; with_reducible exact H2_) | with_reducible exact H | (rw [hy450]; exact H) | exact H
       have Ny450 := Aside0.mk hy450
       clear hy450
       have H' := Aside0.mk H
       clear H
       go_wp2_with (first | ((with_reducible refine gate_callee (f := 31) rfl ?_); refine goesL_ (some 27) rfl rfl Try.func31 (by kernel_rfl) rfl #[.string x0_1, .string a1] rfl pwi_ ?_; (with_reducible refine (strings_CutPrefix.calls x0_1 a1 t440 true _ A8.out).mono ?_); rintro e w' ⟨rfl, ⟨nd, rfl⟩⟩; refine ⟨_, rfl, ?_⟩) | ((with_reducible refine gate_dyn (c := 35) rfl ?_); refine goesD_ (some 37) rfl rfl Try.func29 (by kernel_rfl) rfl #[.string t440] rfl (by first | rfl | (go_simp; done) | (go_simp; rfl)) pwi_ ?_; (with_reducible refine (h4_ k1 (by have := HK1.out; omega) t440 t442 t443 t444 _ A10.out).mono ?_); rintro e w13 ⟨v445, rfl, ho0, hb⟩; refine ⟨_, rfl, ?_⟩; have n0_ := Aside0.mk (Kd.R_elder' pwd_ (Kd.R_base ho0) hb); have n1_ := Aside0.mk (Kd.R_lower (Kd.R_new' ho0 (Kd.R_lt pwd_)) (below_size pwg_)); have n2_ := Aside0.mk (below_step pwg_ hb); clear HO_11; clear HB; have HO_11 := n0_; have HO446 := n1_; have HB := n2_; clear n0_ n1_ n2_; (try clear hb); (try clear hb2); (try clear hk); (try clear hi); (try clear ho0); obtain ⟨Ao15, co15, eo15⟩ := Kd.R_slice HO446.out; subst eo15) | ((with_reducible refine gate_builtin (b := .append) (xs := #[.tmp 41, .tmp 42]) rfl ?_); at_builtin; refine Kd.R_append_rows k39 (w0 := w) w.heap.size rfl (.tmp 41) (.tmp 42) 23 39 (.agg #[(.int .i64 0), (.int .i64 0)]) 16 rfl Try.underlying23 info39 rfl (by decide) (by omega) u11 x11_1 t442 _ _ _ (fun k_ => some k_ ≠ (.slice Ao15 t442.length co15 : Value).ownBlock) (fun _ => False) rfl rfl ?aO ?aR (fun _ _ h => h) (fun _ h => h.elim) ?aF ?aB ?aS ?aL ?_; (case aR => repeat (first | exact (Kd.R_reads' HO446.out).2.2 | (with_reducible refine Kd.C_alloc ?_ _) | (with_reducible refine Kd.C_drewN ?_ _) | (with_reducible refine Kd.C_drew ?_))); (case aB => exact pwg_); (case aF => exact (fun k_ hk => Kd.fresh' (Kd.R_lt (by (with_reducible repeat apply Kd.R_alloc); exact HO446.out)) k_ hk)); (case aO => exact (by (with_reducible repeat apply Kd.R_alloc); exact Kd.R_mono HO_11.out (fun _ hk => hk.2))); (case aS => exact (below_size pwg_)); (case aL => have := LMc11.out; omega); intro v448 w14 ho hb hg hat; rw [← Ny447.out] at ho; have n0_ := Aside0.mk (Kd.R_after (ok := (fun _ => True)) (by (with_reducible repeat apply Kd.R_alloc); exact HO446.out) hg hat); have n1_ := Aside0.mk (hb); have n2_ := Aside0.mk (ho); clear HO446; clear HB; clear HO_11; have HO446 := n0_; have HB := n1_; have HO449 := n2_; clear n0_ n1_ n2_; clear ho hb hg hat) | ((with_reducible refine gate_builtin (b := .append) (xs := #[.tmp 43, .tmp 46]) rfl ?_); at_builtin; refine Kd.R_append k39 (w0 := w) w.heap.size rfl (.tmp 43) (.tmp 46) 23 39 (.agg #[(.int .i64 0), (.int .i64 0)]) 16 rfl Try.underlying23 info39 rfl (by decide) (by omega) v448 y447 (⟨a2, 0⟩ : S39) [.int .i64 a2, .int .i64 0] (fun k_ => some k_ ≠ (.slice Ao15 t442.length co15 : Value).ownBlock) (fun _ => False) rfl rfl ?aP (fun _ hk => hk.elim) ?aF ?aO ?aB ?aS ?aL ?_; (case aP => exact k39_mkM _ _ _ (⟨a2, 0⟩ : S39)); (case aB => exact pwg_); (case aF => exact (fun k_ hk => Kd.fresh' (Kd.R_lt (by (with_reducible repeat apply Kd.R_alloc); exact HO446.out)) k_ hk)); (case aO => exact (by (with_reducible repeat apply Kd.R_alloc); exact HO449.out)); (case aS => exact (below_size pwg_)); (case aL => have := LMc12.out; omega); intro v451 w16 ho hb hg hat; rw [← Ny450.out] at ho; have n0_ := Aside0.mk (Kd.R_after (ok := (fun _ => True)) (by (with_reducible repeat apply Kd.R_alloc); exact HO446.out) hg hat); have n1_ := Aside0.mk (hb); have n2_ := Aside0.mk (ho); clear HO446; clear HB; clear HO449; have HO446 := n0_; have HB := n1_; have HO452 := n2_; clear n0_ n1_ n2_; clear ho hb hg hat))
       go_roundg k1
       case measure => have := HK1.out; omega
       case rel => exact ⟨(t443), (y450), (t444), pwa_, pwa_, H', ⟨by have := HK1.out; omega⟩, ⟨by (with_reducible repeat apply Kd.R_alloc); exact Kd.R_mono HO452.out (fun _ hk => trivial)⟩, ⟨pwg_⟩⟩
      ·rw [if_neg c12] at H
       exact absurd H (by simp)
     ·rw [if_neg c11] at H
      exact absurd H (by simp)
    ·replace c9 := Bool.eq_false_iff.mpr c9
     subst c9
     have H1 : (some (x11_1, x0_1, true)) = some (r1, r2, r3) := by rw [if_neg (show ¬ (false = true) by decide)] at H; exact H
     clear H
     have H := H1
     clear H1
     simp only [Option.some.injEq, Prod.mk.injEq] at H
     obtain ⟨rfl, rfl, rfl⟩ := H
     go_wp2_with (first | ((with_reducible refine gate_callee (f := 31) rfl ?_); refine goesL_ (some 27) rfl rfl Try.func31 (by kernel_rfl) rfl #[.string x0_1, .string a1] rfl pwi_ ?_; (with_reducible refine (strings_CutPrefix.calls x0_1 a1 t440 false _ A8.out).mono ?_); rintro e w' ⟨rfl, ⟨nd, rfl⟩⟩; refine ⟨_, rfl, ?_⟩))
     go_ret3
     exact ⟨_, by first | rfl | (simp [errW_none, errW_some] <;> rfl) | (simp [*, errW_none, errW_some] <;> rfl), pwd_, pwg_⟩
   ·replace c7 := Bool.eq_false_iff.mpr c7
    subst c7
    have H1 : (some (([] : List (S39)), x0_1, false)) = some (r1, r2, r3) := by rw [if_neg (show ¬ (false = true) by decide)] at H; exact H
    clear H
    have H := H1
    clear H1
    simp only [Option.some.injEq, Prod.mk.injEq] at H
    obtain ⟨rfl, rfl, rfl⟩ := H
    go_wp2
    go_ret3
    exact ⟨_, by first | rfl | (simp [errW_none, errW_some] <;> rfl) | (simp [*, errW_none, errW_some] <;> rfl), by first | exact Kd.R_nil _ _ _ _ _ | exact Kd.N_nil _ _ _ _ _ | exact Kd.V_nil _ _ _ _ _ | exact Kd.Q_nil _ _ _ _ _ | exact Kd.S_nil _ _ _ _ _, pwg_⟩
set_option maxHeartbeats 8000000 in
set_option maxRecDepth 100000 in
theorem impl_readSame.step (k : Nat) (h0_ : ∀ m_, m_ < k → ∀ (a0 : ByteArray) (r1 : List (S39)) (r2 : ByteArray) (r3 : Bool) (w : World) (h : impl_readPart.f m_ a0 = some (r1, r2, r3)),
  Calls Try.prog 34 #[.string a0] w fun e w' => ∃ v0_ : Value, e = .returned (.tuple #[v0_, .string r2, .bool r3]) ∧ Kd.R k39 39 w' w.heap.size (fun _ => True) v0_ r1 ∧ Below w.heap.size w w') (h1_ : ∀ m_, m_ < k → ∀ (a0 : ByteArray) (a1 : ByteArray) (a2 : Int) (a3 : Int) (r1 : List (S39)) (r2 : ByteArray) (r3 : Bool) (w : World) (h : impl_readRowC.f m_ a0 a1 a2 a3 = some (r1, r2, r3)),
  Calls Try.prog 28 #[.string a0, .string a1, .int .i64 a2, .func (.func 34) #[] #[]] w fun e w' => ∃ v0_ : Value, e = .returned (.tuple #[v0_, .string r2, .bool r3]) ∧ Kd.R k39 39 w' w.heap.size (fun _ => True) v0_ r1 ∧ Below w.heap.size w w') (h2_ : ∀ m_, m_ < k → ∀ (a0 : ByteArray) (r1 : List (S39)) (r2 : ByteArray) (r3 : Bool) (w : World) (h : impl_readAnd.f m_ a0 = some (r1, r2, r3)),
  Calls Try.prog 32 #[.string a0] w fun e w' => ∃ v0_ : Value, e = .returned (.tuple #[v0_, .string r2, .bool r3]) ∧ Kd.R k39 39 w' w.heap.size (fun _ => True) v0_ r1 ∧ Below w.heap.size w w') (h3_ : ∀ m_, m_ < k → ∀ (a0 : ByteArray) (a1 : ByteArray) (a2 : Int) (a3 : Int) (r1 : List (S39)) (r2 : ByteArray) (r3 : Bool) (w : World) (h : impl_readRowB.f m_ a0 a1 a2 a3 = some (r1, r2, r3)),
  Calls Try.prog 28 #[.string a0, .string a1, .int .i64 a2, .func (.func 32) #[] #[]] w fun e w' => ∃ v0_ : Value, e = .returned (.tuple #[v0_, .string r2, .bool r3]) ∧ Kd.R k39 39 w' w.heap.size (fun _ => True) v0_ r1 ∧ Below w.heap.size w w') (h4_ : ∀ m_, m_ < k → ∀ (a0 : ByteArray) (r1 : List (S39)) (r2 : ByteArray) (r3 : Bool) (w : World) (h : impl_readOr.f m_ a0 = some (r1, r2, r3)),
  Calls Try.prog 29 #[.string a0] w fun e w' => ∃ v0_ : Value, e = .returned (.tuple #[v0_, .string r2, .bool r3]) ∧ Kd.R k39 39 w' w.heap.size (fun _ => True) v0_ r1 ∧ Below w.heap.size w w') (h5_ : ∀ m_, m_ < k → ∀ (a0 : ByteArray) (a1 : ByteArray) (a2 : Int) (a3 : Int) (r1 : List (S39)) (r2 : ByteArray) (r3 : Bool) (w : World) (h : impl_readRowA.f m_ a0 a1 a2 a3 = some (r1, r2, r3)),
  Calls Try.prog 28 #[.string a0, .string a1, .int .i64 a2, .func (.func 29) #[] #[]] w fun e w' => ∃ v0_ : Value, e = .returned (.tuple #[v0_, .string r2, .bool r3]) ∧ Kd.R k39 39 w' w.heap.size (fun _ => True) v0_ r1 ∧ Below w.heap.size w w') (h6_ : ∀ m_, m_ < k → ∀ (a0 : ByteArray) (r1 : List (S39)) (r2 : ByteArray) (r3 : Bool) (w : World) (h : impl_readSame.f m_ a0 = some (r1, r2, r3)),
  Calls Try.prog 18 #[.string a0] w fun e w' => ∃ v0_ : Value, e = .returned (.tuple #[v0_, .string r2, .bool r3]) ∧ Kd.R k39 39 w' w.heap.size (fun _ => True) v0_ r1 ∧ Below w.heap.size w w') : ∀ (a0 : ByteArray) (r1 : List (S39)) (r2 : ByteArray) (r3 : Bool) (w : World) (h : impl_readSame.f k a0 = some (r1, r2, r3)),
  Calls Try.prog 18 #[.string a0] w fun e w' => ∃ v0_ : Value, e = .returned (.tuple #[v0_, .string r2, .bool r3]) ∧ Kd.R k39 39 w' w.heap.size (fun _ => True) v0_ r1 ∧ Below w.heap.size w w' := by
 have ih := h6_
 intro a0 r1 r2 r3 w h
 cases k with
 | zero => exact absurd h (by simp [impl_readSame.f])
 | succ k =>
 simp only [impl_readSame.f] at h
 have HB := Aside0.mk (Below.refl w.heap.size w)
 have H : ((impl_readRowA.f k a0 (⟨#[61]⟩ : ByteArray) 5 777029).bind fun bt453 => (some (bt453.1, bt453.2.1, bt453.2.2))) = some (r1, r2, r3) := h
 clear h
 replace H := Option.bind_eq_some_iff.mp H
 obtain ⟨⟨t453, t454, t455⟩, A20, H⟩ := H
 replace H : (some (t453, t454, t455)) = some (r1, r2, r3) := H
 have A2 := Aside0.mk A20
 clear A20
 simp only [Option.some.injEq, Prod.mk.injEq] at H
 obtain ⟨rfl, rfl, rfl⟩ := H
 go_enter Try.func18, Try.ntmps18
 go_wp2_with (first | ((with_reducible refine gate_callee (f := 28) rfl ?_); refine goesL_ (some 6) rfl rfl Try.func28 (by kernel_rfl) rfl #[.string a0, .string (⟨#[61]⟩ : ByteArray), .int .i64 5, .func (.func 029) #[] #[]] rfl pwi_ ?_; (with_reducible refine (h5_ k (by omega) a0 (⟨#[61]⟩ : ByteArray) 5 777029 t453 t454 t455 _ A2.out).mono ?_); rintro e w3 ⟨v456, rfl, ho0, hb⟩; refine ⟨_, rfl, ?_⟩; have n0_ := Aside0.mk (Kd.R_lower ho0 (below_size pwg_)); have n1_ := Aside0.mk (below_step pwg_ hb); clear HB; have HO457 := n0_; have HB := n1_; clear n0_ n1_; (try clear hb); (try clear hb2); (try clear hk); (try clear hi); (try clear ho0)))
 go_ret3
 exact ⟨_, by first | rfl | (simp [errW_none, errW_some] <;> rfl) | (simp [*, errW_none, errW_some] <;> rfl), by (with_reducible repeat apply Kd.R_alloc); exact HO457.out, pwg_⟩
theorem readSame_readPart_c.both (k : Nat) : (∀ (a0 : ByteArray) (r1 : List (S39)) (r2 : ByteArray) (r3 : Bool) (w : World) (h : impl_readPart.f k a0 = some (r1, r2, r3)),
  Calls Try.prog 34 #[.string a0] w fun e w' => ∃ v0_ : Value, e = .returned (.tuple #[v0_, .string r2, .bool r3]) ∧ Kd.R k39 39 w' w.heap.size (fun _ => True) v0_ r1 ∧ Below w.heap.size w w') ∧ (∀ (a0 : ByteArray) (a1 : ByteArray) (a2 : Int) (a3 : Int) (r1 : List (S39)) (r2 : ByteArray) (r3 : Bool) (w : World) (h : impl_readRowC.f k a0 a1 a2 a3 = some (r1, r2, r3)),
  Calls Try.prog 28 #[.string a0, .string a1, .int .i64 a2, .func (.func 34) #[] #[]] w fun e w' => ∃ v0_ : Value, e = .returned (.tuple #[v0_, .string r2, .bool r3]) ∧ Kd.R k39 39 w' w.heap.size (fun _ => True) v0_ r1 ∧ Below w.heap.size w w') ∧ (∀ (a0 : ByteArray) (r1 : List (S39)) (r2 : ByteArray) (r3 : Bool) (w : World) (h : impl_readAnd.f k a0 = some (r1, r2, r3)),
  Calls Try.prog 32 #[.string a0] w fun e w' => ∃ v0_ : Value, e = .returned (.tuple #[v0_, .string r2, .bool r3]) ∧ Kd.R k39 39 w' w.heap.size (fun _ => True) v0_ r1 ∧ Below w.heap.size w w') ∧ (∀ (a0 : ByteArray) (a1 : ByteArray) (a2 : Int) (a3 : Int) (r1 : List (S39)) (r2 : ByteArray) (r3 : Bool) (w : World) (h : impl_readRowB.f k a0 a1 a2 a3 = some (r1, r2, r3)),
  Calls Try.prog 28 #[.string a0, .string a1, .int .i64 a2, .func (.func 32) #[] #[]] w fun e w' => ∃ v0_ : Value, e = .returned (.tuple #[v0_, .string r2, .bool r3]) ∧ Kd.R k39 39 w' w.heap.size (fun _ => True) v0_ r1 ∧ Below w.heap.size w w') ∧ (∀ (a0 : ByteArray) (r1 : List (S39)) (r2 : ByteArray) (r3 : Bool) (w : World) (h : impl_readOr.f k a0 = some (r1, r2, r3)),
  Calls Try.prog 29 #[.string a0] w fun e w' => ∃ v0_ : Value, e = .returned (.tuple #[v0_, .string r2, .bool r3]) ∧ Kd.R k39 39 w' w.heap.size (fun _ => True) v0_ r1 ∧ Below w.heap.size w w') ∧ (∀ (a0 : ByteArray) (a1 : ByteArray) (a2 : Int) (a3 : Int) (r1 : List (S39)) (r2 : ByteArray) (r3 : Bool) (w : World) (h : impl_readRowA.f k a0 a1 a2 a3 = some (r1, r2, r3)),
  Calls Try.prog 28 #[.string a0, .string a1, .int .i64 a2, .func (.func 29) #[] #[]] w fun e w' => ∃ v0_ : Value, e = .returned (.tuple #[v0_, .string r2, .bool r3]) ∧ Kd.R k39 39 w' w.heap.size (fun _ => True) v0_ r1 ∧ Below w.heap.size w w') ∧ (∀ (a0 : ByteArray) (r1 : List (S39)) (r2 : ByteArray) (r3 : Bool) (w : World) (h : impl_readSame.f k a0 = some (r1, r2, r3)),
  Calls Try.prog 18 #[.string a0] w fun e w' => ∃ v0_ : Value, e = .returned (.tuple #[v0_, .string r2, .bool r3]) ∧ Kd.R k39 39 w' w.heap.size (fun _ => True) v0_ r1 ∧ Below w.heap.size w w') := by
 induction k using Nat.strongRecOn with
 | _ k ih =>
  exact ⟨impl_readPart.step k (fun m h => (ih m h).1) (fun m h => (ih m h).2.1) (fun m h => (ih m h).2.2.1) (fun m h => (ih m h).2.2.2.1) (fun m h => (ih m h).2.2.2.2.1) (fun m h => (ih m h).2.2.2.2.2.1) (fun m h => (ih m h).2.2.2.2.2.2), impl_readRowC.step k (fun m h => (ih m h).1) (fun m h => (ih m h).2.1) (fun m h => (ih m h).2.2.1) (fun m h => (ih m h).2.2.2.1) (fun m h => (ih m h).2.2.2.2.1) (fun m h => (ih m h).2.2.2.2.2.1) (fun m h => (ih m h).2.2.2.2.2.2), impl_readAnd.step k (fun m h => (ih m h).1) (fun m h => (ih m h).2.1) (fun m h => (ih m h).2.2.1) (fun m h => (ih m h).2.2.2.1) (fun m h => (ih m h).2.2.2.2.1) (fun m h => (ih m h).2.2.2.2.2.1) (fun m h => (ih m h).2.2.2.2.2.2), impl_readRowB.step k (fun m h => (ih m h).1) (fun m h => (ih m h).2.1) (fun m h => (ih m h).2.2.1) (fun m h => (ih m h).2.2.2.1) (fun m h => (ih m h).2.2.2.2.1) (fun m h => (ih m h).2.2.2.2.2.1) (fun m h => (ih m h).2.2.2.2.2.2), impl_readOr.step k (fun m h => (ih m h).1) (fun m h => (ih m h).2.1) (fun m h => (ih m h).2.2.1) (fun m h => (ih m h).2.2.2.1) (fun m h => (ih m h).2.2.2.2.1) (fun m h => (ih m h).2.2.2.2.2.1) (fun m h => (ih m h).2.2.2.2.2.2), impl_readRowA.step k (fun m h => (ih m h).1) (fun m h => (ih m h).2.1) (fun m h => (ih m h).2.2.1) (fun m h => (ih m h).2.2.2.1) (fun m h => (ih m h).2.2.2.2.1) (fun m h => (ih m h).2.2.2.2.2.1) (fun m h => (ih m h).2.2.2.2.2.2), impl_readSame.step k (fun m h => (ih m h).1) (fun m h => (ih m h).2.1) (fun m h => (ih m h).2.2.1) (fun m h => (ih m h).2.2.2.1) (fun m h => (ih m h).2.2.2.2.1) (fun m h => (ih m h).2.2.2.2.2.1) (fun m h => (ih m h).2.2.2.2.2.2)⟩
theorem impl_readPart.calls (k : Nat) : ∀ (a0 : ByteArray) (r1 : List (S39)) (r2 : ByteArray) (r3 : Bool) (w : World) (h : impl_readPart.f k a0 = some (r1, r2, r3)),
  Calls Try.prog 34 #[.string a0] w fun e w' => ∃ v0_ : Value, e = .returned (.tuple #[v0_, .string r2, .bool r3]) ∧ Kd.R k39 39 w' w.heap.size (fun _ => True) v0_ r1 ∧ Below w.heap.size w w' := (readSame_readPart_c.both k).1
theorem impl_readRowC.calls (k : Nat) : ∀ (a0 : ByteArray) (a1 : ByteArray) (a2 : Int) (a3 : Int) (r1 : List (S39)) (r2 : ByteArray) (r3 : Bool) (w : World) (h : impl_readRowC.f k a0 a1 a2 a3 = some (r1, r2, r3)),
  Calls Try.prog 28 #[.string a0, .string a1, .int .i64 a2, .func (.func 34) #[] #[]] w fun e w' => ∃ v0_ : Value, e = .returned (.tuple #[v0_, .string r2, .bool r3]) ∧ Kd.R k39 39 w' w.heap.size (fun _ => True) v0_ r1 ∧ Below w.heap.size w w' := (readSame_readPart_c.both k).2.1
theorem impl_readAnd.calls (k : Nat) : ∀ (a0 : ByteArray) (r1 : List (S39)) (r2 : ByteArray) (r3 : Bool) (w : World) (h : impl_readAnd.f k a0 = some (r1, r2, r3)),
  Calls Try.prog 32 #[.string a0] w fun e w' => ∃ v0_ : Value, e = .returned (.tuple #[v0_, .string r2, .bool r3]) ∧ Kd.R k39 39 w' w.heap.size (fun _ => True) v0_ r1 ∧ Below w.heap.size w w' := (readSame_readPart_c.both k).2.2.1
theorem impl_readRowB.calls (k : Nat) : ∀ (a0 : ByteArray) (a1 : ByteArray) (a2 : Int) (a3 : Int) (r1 : List (S39)) (r2 : ByteArray) (r3 : Bool) (w : World) (h : impl_readRowB.f k a0 a1 a2 a3 = some (r1, r2, r3)),
  Calls Try.prog 28 #[.string a0, .string a1, .int .i64 a2, .func (.func 32) #[] #[]] w fun e w' => ∃ v0_ : Value, e = .returned (.tuple #[v0_, .string r2, .bool r3]) ∧ Kd.R k39 39 w' w.heap.size (fun _ => True) v0_ r1 ∧ Below w.heap.size w w' := (readSame_readPart_c.both k).2.2.2.1
theorem impl_readOr.calls (k : Nat) : ∀ (a0 : ByteArray) (r1 : List (S39)) (r2 : ByteArray) (r3 : Bool) (w : World) (h : impl_readOr.f k a0 = some (r1, r2, r3)),
  Calls Try.prog 29 #[.string a0] w fun e w' => ∃ v0_ : Value, e = .returned (.tuple #[v0_, .string r2, .bool r3]) ∧ Kd.R k39 39 w' w.heap.size (fun _ => True) v0_ r1 ∧ Below w.heap.size w w' := (readSame_readPart_c.both k).2.2.2.2.1
theorem impl_readRowA.calls (k : Nat) : ∀ (a0 : ByteArray) (a1 : ByteArray) (a2 : Int) (a3 : Int) (r1 : List (S39)) (r2 : ByteArray) (r3 : Bool) (w : World) (h : impl_readRowA.f k a0 a1 a2 a3 = some (r1, r2, r3)),
  Calls Try.prog 28 #[.string a0, .string a1, .int .i64 a2, .func (.func 29) #[] #[]] w fun e w' => ∃ v0_ : Value, e = .returned (.tuple #[v0_, .string r2, .bool r3]) ∧ Kd.R k39 39 w' w.heap.size (fun _ => True) v0_ r1 ∧ Below w.heap.size w w' := (readSame_readPart_c.both k).2.2.2.2.2.1
theorem impl_readSame.calls (k : Nat) : ∀ (a0 : ByteArray) (r1 : List (S39)) (r2 : ByteArray) (r3 : Bool) (w : World) (h : impl_readSame.f k a0 = some (r1, r2, r3)),
  Calls Try.prog 18 #[.string a0] w fun e w' => ∃ v0_ : Value, e = .returned (.tuple #[v0_, .string r2, .bool r3]) ∧ Kd.R k39 39 w' w.heap.size (fun _ => True) v0_ r1 ∧ Below w.heap.size w w' := (readSame_readPart_c.both k).2.2.2.2.2.2

/-! ### impl_ReadTerm: function 9 -/
def impl_ReadTerm.j0 : Nat → Int → ByteArray → Bool → Option ((List (S39)) × Bool)
 | 0, _, _, _ => none
 | k + 1, x0, x1, x16 => if x16 = true then (some (([] : List (S39)), false)) else ((impl_readSame.f k x1).bind fun bt459 => (if bt459.2.2 = true then (if bt459.2.1.toList = ([] : List UInt8) then ((impl_TermText.f k x0 bt459.1).bind fun t464 => (if t464.toList = x1.toList then (some (bt459.1, true)) else (some (([] : List (S39)), false)))) else (some (([] : List (S39)), false))) else (some (([] : List (S39)), false))))
def impl_ReadTerm.f (k : Nat) (a0 : Int) (a1 : ByteArray) : Option ((List (S39)) × Bool) := (impl_peopleOk.f a0).bind fun t458 => (if t458 = true then (impl_ReadTerm.j0 k a0 a1 (decide ((a1.size : Int) > 60))) else (impl_ReadTerm.j0 k a0 a1 true))
theorem impl_ReadTerm.mono_l : ∀ k, (∀ y0 y1 y2, LeO (impl_ReadTerm.j0 k y0 y1 y2) (impl_ReadTerm.j0 (k + 1) y0 y1 y2))
 | 0 => fun _ _ _ r h => by simp [impl_ReadTerm.j0] at h
 | k + 1 => by
  have ih0 := impl_ReadTerm.mono_l k
  ·intro y0 y1 y2
   unfold impl_ReadTerm.j0
   repeat' first
   | (with_reducible exact ih0 _ _ _)
   | (with_reducible exact impl_TermText.mono _ _ _)
   | (with_reducible exact impl_readSame.mono _ _)
   | (with_reducible exact LeO.refl _)
   | (with_reducible exact LeO.none _)
   | (with_reducible refine LeO.ite ?_ ?_)
   | (with_reducible refine LeO.bind ?_ (fun _ => ?_))
   | exact ih0 _ _ _
   | exact impl_TermText.mono _ _ _
   | exact impl_readSame.mono _ _
   | exact LeO.none _
   | refine LeO.ite ?_ ?_
   | refine LeO.bind ?_ (fun _ => ?_)
theorem impl_ReadTerm.mono : ∀ a0 a1 k, LeO (impl_ReadTerm.f k a0 a1) (impl_ReadTerm.f (k + 1) a0 a1) := by
 intro a0 a1 k
 have ih0 := impl_ReadTerm.mono_l k
 unfold impl_ReadTerm.f
 repeat' first
   | (with_reducible exact ih0 _ _ _)
   | (with_reducible exact impl_TermText.mono _ _ _)
   | (with_reducible exact impl_readSame.mono _ _)
   | (with_reducible exact LeO.refl _)
   | (with_reducible exact LeO.none _)
   | (with_reducible refine LeO.ite ?_ ?_)
   | (with_reducible refine LeO.bind ?_ (fun _ => ?_))
   | exact ih0 _ _ _
   | exact impl_TermText.mono _ _ _
   | exact impl_readSame.mono _ _
   | exact LeO.none _
   | refine LeO.ite ?_ ?_
   | refine LeO.bind ?_ (fun _ => ?_)
set_option maxHeartbeats 8000000 in
set_option maxRecDepth 100000 in
theorem impl_ReadTerm.calls (k : Nat) (a0 : Int) (a1 : ByteArray) (r1 : List (S39)) (r2 : Bool) (w : World) (h : impl_ReadTerm.f k a0 a1 = some (r1, r2)) :
  Calls Try.prog 9 #[.int .i64 a0, .string a1] w fun e w' => ∃ v0_ : Value, e = .returned (.tuple #[v0_, .bool r2]) ∧ Kd.R k39 39 w' w.heap.size (fun _ => True) v0_ r1 ∧ Below w.heap.size w w' := by
 have HB := Aside0.mk (Below.refl w.heap.size w)
 have H : ((impl_peopleOk.f a0).bind fun t458 => (if t458 = true then (impl_ReadTerm.j0 k a0 a1 (decide ((a1.size : Int) > 60))) else (impl_ReadTerm.j0 k a0 a1 true))) = some (r1, r2) := h
 clear h
 have HC3 := Aside0.mk H
 clear H
 go_enter Try.func9, Try.ntmps9
 go_upto_region 1 with (fail)
 go_cut [16] (fun v16 wc => ∃ (kq : Nat) (x16_2 : Bool), v16 = .bool x16_2 ∧ Aside0 (impl_ReadTerm.j0 kq a0 a1 x16_2 = some (r1, r2)) ∧ Aside0 (kq ≤ k) ∧ Aside0 (Below w.heap.size w wc))
 case first =>
  have H := HC3.out
  clear HC3
  replace H := Option.bind_eq_some_iff.mp H
  obtain ⟨t458, A40, H⟩ := H
  replace H : (if t458 = true then (impl_ReadTerm.j0 k a0 a1 (decide ((a1.size : Int) > 60))) else (impl_ReadTerm.j0 k a0 a1 true)) = some (r1, r2) := H
  have A4 := Aside0.mk A40
  clear A40
  by_cases c5 : t458 = true
  ·subst c5
   have H1 : (impl_ReadTerm.j0 k a0 a1 (decide ((a1.size : Int) > 60))) = some (r1, r2) := by rw [if_pos rfl] at H; exact H
   clear H
   have H := H1
   clear H1
   have H' := Aside0.mk H
   clear H
   go_wp2_with (first | ((with_reducible refine gate_callee (f := 16) rfl ?_); refine goesL_ (some 10) rfl rfl Try.func16 (by kernel_rfl) rfl #[.int .i64 a0] rfl pwi_ ?_; (with_reducible refine (impl_peopleOk.calls a0 true _ A4.out).mono ?_); rintro e w' ⟨rfl, ⟨nd, rfl⟩⟩; refine ⟨_, rfl, ?_⟩))
   go_meet
   case rel => exact ⟨_, (decide ((a1.size : Int) > 60)), pwa_, H', ⟨by first | omega | exact Nat.le_refl _⟩, ⟨pwg_⟩⟩
  ·replace c5 := Bool.eq_false_iff.mpr c5
   subst c5
   have H1 : (impl_ReadTerm.j0 k a0 a1 true) = some (r1, r2) := by rw [if_neg (show ¬ (false = true) by decide)] at H; exact H
   clear H
   have H := H1
   clear H1
   have H' := Aside0.mk H
   clear H
   go_wp2_with (first | ((with_reducible refine gate_callee (f := 16) rfl ?_); refine goesL_ (some 10) rfl rfl Try.func16 (by kernel_rfl) rfl #[.int .i64 a0] rfl pwi_ ?_; (with_reducible refine (impl_peopleOk.calls a0 false _ A4.out).mono ?_); rintro e w' ⟨rfl, ⟨nd, rfl⟩⟩; refine ⟨_, rfl, ?_⟩))
   go_meet
   case rel => exact ⟨_, (true), pwa_, H', ⟨by first | omega | exact Nat.le_refl _⟩, ⟨pwg_⟩⟩
 case rest =>
  clear HC3
  try clear c1
  try clear p2
  try clear c5
  obtain ⟨kq, x16_2, rfl, HA, HJ2, HB⟩ := hcut
  cases kq with
  | zero => exact absurd HA.out (by simp [impl_ReadTerm.j0])
  | succ kj2 =>
   have H := HA.out
   clear HA
   simp only [impl_ReadTerm.j0] at H
   by_cases c6 : x16_2 = true
   ·subst c6
    have H1 : (some (([] : List (S39)), false)) = some (r1, r2) := by rw [if_pos rfl] at H; exact H
    clear H
    have H := H1
    clear H1
    simp only [Option.some.injEq, Prod.mk.injEq] at H
    obtain ⟨rfl, rfl⟩ := H
    go_wp2
    go_ret2
    exact ⟨_, by first | rfl | (simp [errW_none, errW_some] <;> rfl) | (simp [*, errW_none, errW_some] <;> rfl), by first | exact Kd.R_nil _ _ _ _ _ | exact Kd.N_nil _ _ _ _ _ | exact Kd.V_nil _ _ _ _ _ | exact Kd.Q_nil _ _ _ _ _ | exact Kd.S_nil _ _ _ _ _, pwg_⟩
   ·replace c6 := Bool.eq_false_iff.mpr c6
    subst c6
    have H1 : ((impl_readSame.f kj2 a1).bind fun bt459 => (if bt459.2.2 = true then (if bt459.2.1.toList = ([] : List UInt8) then ((impl_TermText.f kj2 a0 bt459.1).bind fun t464 => (if t464.toList = a1.toList then (some (bt459.1, true)) else (some (([] : List (S39)), false)))) else (some (([] : List (S39)), false))) else (some (([] : List (S39)), false)))) = some (r1, r2) := by rw [if_neg (show ¬ (false = true) by decide)] at H; exact H
    clear H
    have H := H1
    clear H1
    replace H := Option.bind_eq_some_iff.mp H
    obtain ⟨⟨t459, t460, t461⟩, A70, H⟩ := H
    replace H : (if t461 = true then (if t460.toList = ([] : List UInt8) then ((impl_TermText.f kj2 a0 t459).bind fun t464 => (if t464.toList = a1.toList then (some (t459, true)) else (some (([] : List (S39)), false)))) else (some (([] : List (S39)), false))) else (some (([] : List (S39)), false))) = some (r1, r2) := H
    have A7 := Aside0.mk A70
    clear A70
    by_cases c8 : t461 = true
    ·subst c8
     have H1 : (if t460.toList = ([] : List UInt8) then ((impl_TermText.f kj2 a0 t459).bind fun t464 => (if t464.toList = a1.toList then (some (t459, true)) else (some (([] : List (S39)), false)))) else (some (([] : List (S39)), false))) = some (r1, r2) := by rw [if_pos rfl] at H; exact H
     clear H
     have H := H1
     clear H1
     by_cases c9 : t460.toList = ([] : List UInt8)
     ·rw [if_pos c9] at H
      have c9b0 : (t460.toList == ([] : List UInt8)) = true := beq_iff_eq.mpr c9
      have c9b1 : (t460.toList != ([] : List UInt8)) = false := bne_eq_false_iff_eq.mpr c9
      clear c9
      replace H := Option.bind_eq_some_iff.mp H
      obtain ⟨t464, A100, H⟩ := H
      replace H : (if t464.toList = a1.toList then (some (t459, true)) else (some (([] : List (S39)), false))) = some (r1, r2) := H
      have A10 := Aside0.mk A100
      clear A100
      by_cases c11 : t464.toList = a1.toList
      ·rw [if_pos c11] at H
       have c11b0 : (t464.toList == a1.toList) = true := beq_iff_eq.mpr c11
       have c11b1 : (t464.toList != a1.toList) = false := bne_eq_false_iff_eq.mpr c11
       clear c11
       simp only [Option.some.injEq, Prod.mk.injEq] at H
       obtain ⟨rfl, rfl⟩ := H
       go_wp2_with (first | ((with_reducible refine gate_callee (f := 18) rfl ?_); refine goesL_ (some 19) rfl rfl Try.func18 (by kernel_rfl) rfl #[.string a1] rfl pwi_ ?_; (with_reducible refine (impl_readSame.calls kj2 a1 t459 t460 true _ A7.out).mono ?_); rintro e w12 ⟨v462, rfl, ho0, hb⟩; refine ⟨_, rfl, ?_⟩; have n0_ := Aside0.mk (Kd.R_lower ho0 (below_size pwg_)); have n1_ := Aside0.mk (below_step pwg_ hb); clear HB; have HO463 := n0_; have HB := n1_; clear n0_ n1_; (try clear hb); (try clear hb2); (try clear hk); (try clear hi); (try clear ho0); obtain ⟨Ao13, co13, eo13⟩ := Kd.R_slice HO463.out; subst eo13) | (go_at_call 5; (with_reducible refine (impl_TermText.calls kj2 a0 _ _ t459 t464 _ ?side1 ?side2 A10.out).mono ?_); (case side1 => repeat (first | exact (Kd.R_reads' HO463.out).2.2 | (with_reducible refine Kd.C_alloc ?_ _) | (with_reducible refine Kd.C_drewN ?_ _) | (with_reducible refine Kd.C_drew ?_))); (case side2 => exact (Kd.R_reads' HO463.out).2.1); rintro e w14 ⟨rfl, hb⟩; have n0_ := Aside0.mk (Kd.R_below (by (with_reducible repeat apply Kd.R_alloc); exact HO463.out) hb); have n1_ := Aside0.mk (below_step pwg_ hb); clear HO463; clear HB; have HO463 := n0_; have HB := n1_; clear n0_ n1_; (try clear hb); (try clear hb2); (try clear hk); (try clear hi)))
       go_ret2
       exact ⟨_, by first | rfl | (simp [errW_none, errW_some] <;> rfl) | (simp [*, errW_none, errW_some] <;> rfl), by (with_reducible repeat apply Kd.R_alloc); exact HO463.out, pwg_⟩
      ·rw [if_neg c11] at H
       have c11b0 : (t464.toList == a1.toList) = false := beq_eq_false_iff_ne.mpr c11
       have c11b1 : (t464.toList != a1.toList) = true := bne_iff_ne.mpr c11
       simp only [Option.some.injEq, Prod.mk.injEq] at H
       obtain ⟨rfl, rfl⟩ := H
       go_wp2_with (first | ((with_reducible refine gate_callee (f := 18) rfl ?_); refine goesL_ (some 19) rfl rfl Try.func18 (by kernel_rfl) rfl #[.string a1] rfl pwi_ ?_; (with_reducible refine (impl_readSame.calls kj2 a1 t459 t460 true _ A7.out).mono ?_); rintro e w15 ⟨v462, rfl, ho0, hb⟩; refine ⟨_, rfl, ?_⟩; have n0_ := Aside0.mk (Kd.R_lower ho0 (below_size pwg_)); have n1_ := Aside0.mk (below_step pwg_ hb); clear HB; have HO463 := n0_; have HB := n1_; clear n0_ n1_; (try clear hb); (try clear hb2); (try clear hk); (try clear hi); (try clear ho0); obtain ⟨Ao16, co16, eo16⟩ := Kd.R_slice HO463.out; subst eo16) | (go_at_call 5; (with_reducible refine (impl_TermText.calls kj2 a0 _ _ t459 t464 _ ?side1 ?side2 A10.out).mono ?_); (case side1 => repeat (first | exact (Kd.R_reads' HO463.out).2.2 | (with_reducible refine Kd.C_alloc ?_ _) | (with_reducible refine Kd.C_drewN ?_ _) | (with_reducible refine Kd.C_drew ?_))); (case side2 => exact (Kd.R_reads' HO463.out).2.1); rintro e w17 ⟨rfl, hb⟩; have n0_ := Aside0.mk (Kd.R_below (by (with_reducible repeat apply Kd.R_alloc); exact HO463.out) hb); have n1_ := Aside0.mk (below_step pwg_ hb); clear HO463; clear HB; have HO463 := n0_; have HB := n1_; clear n0_ n1_; (try clear hb); (try clear hb2); (try clear hk); (try clear hi)))
       go_ret2
       exact ⟨_, by first | rfl | (simp [errW_none, errW_some] <;> rfl) | (simp [*, errW_none, errW_some] <;> rfl), by first | exact Kd.R_nil _ _ _ _ _ | exact Kd.N_nil _ _ _ _ _ | exact Kd.V_nil _ _ _ _ _ | exact Kd.Q_nil _ _ _ _ _ | exact Kd.S_nil _ _ _ _ _, pwg_⟩
     ·rw [if_neg c9] at H
      have c9b0 : (t460.toList == ([] : List UInt8)) = false := beq_eq_false_iff_ne.mpr c9
      have c9b1 : (t460.toList != ([] : List UInt8)) = true := bne_iff_ne.mpr c9
      simp only [Option.some.injEq, Prod.mk.injEq] at H
      obtain ⟨rfl, rfl⟩ := H
      go_wp2_with (first | ((with_reducible refine gate_callee (f := 18) rfl ?_); refine goesL_ (some 19) rfl rfl Try.func18 (by kernel_rfl) rfl #[.string a1] rfl pwi_ ?_; (with_reducible refine (impl_readSame.calls kj2 a1 t459 t460 true _ A7.out).mono ?_); rintro e w18 ⟨v462, rfl, ho0, hb⟩; refine ⟨_, rfl, ?_⟩; have n0_ := Aside0.mk (Kd.R_lower ho0 (below_size pwg_)); have n1_ := Aside0.mk (below_step pwg_ hb); clear HB; have HO463 := n0_; have HB := n1_; clear n0_ n1_; (try clear hb); (try clear hb2); (try clear hk); (try clear hi); (try clear ho0)))
      go_ret2
      exact ⟨_, by first | rfl | (simp [errW_none, errW_some] <;> rfl) | (simp [*, errW_none, errW_some] <;> rfl), by first | exact Kd.R_nil _ _ _ _ _ | exact Kd.N_nil _ _ _ _ _ | exact Kd.V_nil _ _ _ _ _ | exact Kd.Q_nil _ _ _ _ _ | exact Kd.S_nil _ _ _ _ _, pwg_⟩
    ·replace c8 := Bool.eq_false_iff.mpr c8
     subst c8
     have H1 : (some (([] : List (S39)), false)) = some (r1, r2) := by rw [if_neg (show ¬ (false = true) by decide)] at H; exact H
     clear H
     have H := H1
     clear H1
     simp only [Option.some.injEq, Prod.mk.injEq] at H
     obtain ⟨rfl, rfl⟩ := H
     go_wp2_with (first | ((with_reducible refine gate_callee (f := 18) rfl ?_); refine goesL_ (some 19) rfl rfl Try.func18 (by kernel_rfl) rfl #[.string a1] rfl pwi_ ?_; (with_reducible refine (impl_readSame.calls kj2 a1 t459 t460 false _ A7.out).mono ?_); rintro e w19 ⟨v462, rfl, ho0, hb⟩; refine ⟨_, rfl, ?_⟩; have n0_ := Aside0.mk (Kd.R_lower ho0 (below_size pwg_)); have n1_ := Aside0.mk (below_step pwg_ hb); clear HB; have HO463 := n0_; have HB := n1_; clear n0_ n1_; (try clear hb); (try clear hb2); (try clear hk); (try clear hi); (try clear ho0)))
     go_ret2
     exact ⟨_, by first | rfl | (simp [errW_none, errW_some] <;> rfl) | (simp [*, errW_none, errW_some] <;> rfl), by first | exact Kd.R_nil _ _ _ _ _ | exact Kd.N_nil _ _ _ _ _ | exact Kd.V_nil _ _ _ _ _ | exact Kd.Q_nil _ _ _ _ _ | exact Kd.S_nil _ _ _ _ _, pwg_⟩

/-! ### laws_sameMarks: function 10 -/
def laws_sameMarks.l0 : Nat → List (S39) → List (S39) → Int → Option (Bool)
 | 0, _, _, _ => none
 | k + 1, x0, x1, x5 => if x5 < (x0.length : Int) then (if 0 ≤ x5 then (if x5 < (x1.length : Int) then (if (!(((rd_T39 x0 x5).f0) == ((rd_T39 x1 x5).f0)) || (!(((rd_T39 x0 x5).f1) == ((rd_T39 x1 x5).f1)))) = true then (some false) else (laws_sameMarks.l0 k x0 x1 (wrap64 (x5 + 1)))) else (none)) else (none)) else (some true)
def laws_sameMarks.f (k : Nat) (l0 : List (S39)) (l1 : List (S39)) : Option (Bool) := if (l0.length : Int) = (l1.length : Int) then (laws_sameMarks.l0 k l0 l1 0) else (some false)
theorem laws_sameMarks.mono_l : ∀ k, (∀ y0 y1 y2, LeO (laws_sameMarks.l0 k y0 y1 y2) (laws_sameMarks.l0 (k + 1) y0 y1 y2))
 | 0 => fun _ _ _ r h => by simp [laws_sameMarks.l0] at h
 | k + 1 => by
  have ih0 := laws_sameMarks.mono_l k
  ·intro y0 y1 y2
   unfold laws_sameMarks.l0
   repeat' first
   | (with_reducible exact ih0 _ _ _)
   | (with_reducible exact LeO.refl _)
   | (with_reducible exact LeO.none _)
   | (with_reducible refine LeO.ite ?_ ?_)
   | (with_reducible refine LeO.bind ?_ (fun _ => ?_))
   | exact ih0 _ _ _
   | exact LeO.none _
   | refine LeO.ite ?_ ?_
   | refine LeO.bind ?_ (fun _ => ?_)
theorem laws_sameMarks.mono : ∀ a0 a1 k, LeO (laws_sameMarks.f k a0 a1) (laws_sameMarks.f (k + 1) a0 a1) := by
 intro a0 a1 k
 have ih0 := laws_sameMarks.mono_l k
 unfold laws_sameMarks.f
 repeat' first
   | (with_reducible exact ih0 _ _ _)
   | (with_reducible exact LeO.refl _)
   | (with_reducible exact LeO.none _)
   | (with_reducible refine LeO.ite ?_ ?_)
   | (with_reducible refine LeO.bind ?_ (fun _ => ?_))
   | exact ih0 _ _ _
   | exact LeO.none _
   | refine LeO.ite ?_ ?_
   | refine LeO.bind ?_ (fun _ => ?_)
set_option maxHeartbeats 8000000 in
set_option maxRecDepth 100000 in
theorem laws_sameMarks.calls (k : Nat) (A0 : Option Addr) (c0 : Nat) (l0 : List (S39)) (A1 : Option Addr) (c1 : Nat) (l1 : List (S39)) (r : Bool) (w : World) (hr0 : Kd.C k39 w A0 l0.length l0) (hc0 : l0.length ≤ c0) (hr1 : Kd.C k39 w A1 l1.length l1) (hc1 : l1.length ≤ c1) (h : laws_sameMarks.f k l0 l1 = some r) :
  Calls Try.prog 10 #[.slice A0 l0.length c0, .slice A1 l1.length c1] w fun e w' => e = .returned (.bool r) ∧ Drawn0 w w' := by
 have hu39 := Try.underlying39
 have HR0 := Aside0.mk hr0
 have HC0 := Aside0.mk hc0
 clear hr0 hc0
 have HR1 := Aside0.mk hr1
 have HC1 := Aside0.mk hc1
 clear hr1 hc1
 have H : (if (l0.length : Int) = (l1.length : Int) then (laws_sameMarks.l0 k l0 l1 0) else (some false)) = some r := h
 clear h
 by_cases c3 : (l0.length : Int) = (l1.length : Int)
 ·rw [if_pos c3] at H
  have c3b0 : ((l0.length : Int) == (l1.length : Int)) = true := beq_iff_eq.mpr c3
  have c3b1 : ((l0.length : Int) != (l1.length : Int)) = false := bne_eq_false_iff_eq.mpr c3
  have c3b2 : (l0.length == l1.length) = true := by first | simpa using c3 | (simp at c3 ⊢; omega)
  clear c3
  have H' := Aside0.mk H
  clear H
  go_enter Try.func10, Try.ntmps10
  go_wp2
  repeat (go_quiet (fail); try go_wp2)
  go_loopg [5] k (fun kq v5 w' => ∃ (x5_1 : Int), v5 = .int .i64 x5_1 ∧ Aside0 (laws_sameMarks.l0 kq l0 l1 x5_1 = some r) ∧ Aside0 (kq ≤ k) ∧ Drawn0 w w')
  case atStart => exact ⟨(0), pwa_, H', ⟨Nat.le_refl _⟩, by repeat (first | exact Drawn0.refl _ | apply Drawn0.step)⟩
  case round =>
   clear H'
   try clear c1
   try clear p2
   try clear c3
   try clear c3b0
   try clear c3b1
   try clear c3b2
   obtain ⟨x5_1, rfl, HA, HK1, ⟨m1, rfl⟩⟩ := hrel
   cases gk with
   | zero => exact absurd HA.out (by simp [laws_sameMarks.l0])
   | succ k1 =>
    have H := HA.out
    clear HA
    simp only [laws_sameMarks.l0] at H
    by_cases c4 : x5_1 < (l0.length : Int)
    ·rw [if_pos c4] at H
     have c4b0 : decide (x5_1 < (l0.length : Int)) = true := decide_eq_true c4
     clear c4
     by_cases c5 : 0 ≤ x5_1
     ·rw [if_pos c5] at H
      have c5b0 : decide (0 ≤ x5_1) = true := decide_eq_true c5
      clear c5
      by_cases c6 : x5_1 < (l1.length : Int)
      ·rw [if_pos c6] at H
       have c6b0 : decide (x5_1 < (l1.length : Int)) = true := decide_eq_true c6
       clear c6
       by_cases c7 : (!(((rd_T39 l0 x5_1).f0) == ((rd_T39 l1 x5_1).f0)) || (!(((rd_T39 l0 x5_1).f1) == ((rd_T39 l1 x5_1).f1)))) = true
       ·rw [if_pos c7] at H
        have c7b0 : (!(((rd_T39 l0 x5_1).f0) == ((rd_T39 l1 x5_1).f0)) || (!(((rd_T39 l0 x5_1).f1) == ((rd_T39 l1 x5_1).f1)))) = true := c7
        clear c7
        obtain rfl := Option.some.inj H
        have p465 : 0 ≤ (x5_1 : Int) := of_decide_eq_true pwb_
        have q465 : x5_1 < (l0.length : Int) := of_decide_eq_true pwb_
        obtain ⟨ad465, e465, hx465_0, hx465_1⟩ := at_T39 HR0.out x5_1 p465 q465
        cases e465
        replace p465 := eq_true p465
        replace q465 := eq_true q465
        have p466 : 0 ≤ (x5_1 : Int) := of_decide_eq_true pwb_
        have q466 : x5_1 < (l1.length : Int) := of_decide_eq_true pwb_
        obtain ⟨ad466, e466, hx466_0, hx466_1⟩ := at_T39 HR1.out x5_1 p466 q466
        cases e466
        replace p466 := eq_true p466
        replace q466 := eq_true q466
        go_wp2
        repeat (go_quiet (fail); try go_wp2)
        go_ret
        exact ⟨pwa_, by repeat (first | exact Drawn0.refl _ | apply Drawn0.step)⟩
       ·rw [if_neg c7] at H
        have c7b0 : (!(((rd_T39 l0 x5_1).f0) == ((rd_T39 l1 x5_1).f0)) || (!(((rd_T39 l0 x5_1).f1) == ((rd_T39 l1 x5_1).f1)))) = false := by simpa using c7
        clear c7
        have H' := Aside0.mk H
        clear H
        have p465 : 0 ≤ (x5_1 : Int) := of_decide_eq_true pwb_
        have q465 : x5_1 < (l0.length : Int) := of_decide_eq_true pwb_
        obtain ⟨ad465, e465, hx465_0, hx465_1⟩ := at_T39 HR0.out x5_1 p465 q465
        cases e465
        replace p465 := eq_true p465
        replace q465 := eq_true q465
        have p466 : 0 ≤ (x5_1 : Int) := of_decide_eq_true pwb_
        have q466 : x5_1 < (l1.length : Int) := of_decide_eq_true pwb_
        obtain ⟨ad466, e466, hx466_0, hx466_1⟩ := at_T39 HR1.out x5_1 p466 q466
        cases e466
        replace p466 := eq_true p466
        replace q466 := eq_true q466
        go_wp2
        repeat (go_quiet (fail); try go_wp2)
        go_roundg k1
        case measure => have := HK1.out; omega
        case rel => exact ⟨(wrap64 (x5_1 + 1)), pwa_, H', ⟨by have := HK1.out; omega⟩, by repeat (first | exact Drawn0.refl _ | apply Drawn0.step)⟩
      ·rw [if_neg c6] at H
       exact absurd H (by simp)
     ·rw [if_neg c5] at H
      exact absurd H (by simp)
    ·rw [if_neg c4] at H
     have c4b0 : decide (x5_1 < (l0.length : Int)) = false := decide_eq_false c4
     clear c4
     obtain rfl := Option.some.inj H
     go_wp2
     repeat (go_quiet (fail); try go_wp2)
     go_ret
     exact ⟨pwa_, by repeat (first | exact Drawn0.refl _ | apply Drawn0.step)⟩
 ·rw [if_neg c3] at H
  have c3b0 : ((l0.length : Int) == (l1.length : Int)) = false := beq_eq_false_iff_ne.mpr c3
  have c3b1 : ((l0.length : Int) != (l1.length : Int)) = true := bne_iff_ne.mpr c3
  have c3b2 : (l0.length == l1.length) = false := by first | simpa using c3 | (simp at c3 ⊢; omega)
  obtain rfl := Option.some.inj H
  go_enter Try.func10, Try.ntmps10
  go_wp2
  repeat (go_quiet (fail); try go_wp2)
  go_ret
  exact ⟨pwa_, by repeat (first | exact Drawn0.refl _ | apply Drawn0.step)⟩

/-! ### laws_FnTermText: function 3 -/
def laws_FnTermText.f (k : Nat) (l0 : List Int) : Option (Bool) := if (l0.length : Int) > 1048576 then (some true) else ((spec_DrawTermText.f k l0).bind fun bt467 => ((impl_TermText.f k bt467.1 bt467.2).bind fun t471 => ((spec_TermText.f k bt467.1 bt467.2).bind fun t472 => (if t471.toList = t472.toList then (if t471.toList = ([] : List UInt8) then ((impl_TermOk.f k bt467.1 bt467.2).bind fun t473 => (if t473 = true then (some false) else ((laws_alive.f).bind fun t474 => (some t474)))) else ((impl_ReadTerm.f k bt467.1 t471).bind fun bt475 => (if bt475.2 = true then ((laws_sameMarks.f k bt475.1 bt467.2).bind fun t479 => (some t479)) else (some false)))) else (some false)))))
theorem laws_FnTermText.mono : ∀ a0 k, LeO (laws_FnTermText.f k a0) (laws_FnTermText.f (k + 1) a0) := by
 intro a0 k
 unfold laws_FnTermText.f
 repeat' first
   | (with_reducible exact impl_ReadTerm.mono _ _ _)
   | (with_reducible exact impl_TermOk.mono _ _ _)
   | (with_reducible exact impl_TermText.mono _ _ _)
   | (with_reducible exact laws_sameMarks.mono _ _ _)
   | (with_reducible exact spec_DrawTermText.mono _ _)
   | (with_reducible exact spec_TermText.mono _ _ _)
   | (with_reducible exact LeO.refl _)
   | (with_reducible exact LeO.none _)
   | (with_reducible refine LeO.ite ?_ ?_)
   | (with_reducible refine LeO.bind ?_ (fun _ => ?_))
   | exact impl_ReadTerm.mono _ _ _
   | exact impl_TermOk.mono _ _ _
   | exact impl_TermText.mono _ _ _
   | exact laws_sameMarks.mono _ _ _
   | exact spec_DrawTermText.mono _ _
   | exact spec_TermText.mono _ _ _
   | exact LeO.none _
   | refine LeO.ite ?_ ?_
   | refine LeO.bind ?_ (fun _ => ?_)
set_option maxHeartbeats 8000000 in
set_option maxRecDepth 100000 in
theorem laws_FnTermText.calls (k : Nat) (A0 : Option Addr) (c0 : Nat) (l0 : List Int) (r : Bool) (w : World) (hr0 : Kd.C (Kd.int .u8) w A0 l0.length l0) (hc0 : l0.length ≤ c0) (h : laws_FnTermText.f k l0 = some r) :
  Calls Try.prog 3 #[.slice A0 l0.length c0] w fun e w' => e = .returned (.bool r) ∧ Below w.heap.size w w' := by
 have HR0 := Aside0.mk hr0
 have HC0 := Aside0.mk hc0
 clear hr0 hc0
 have HB := Aside0.mk (Below.refl w.heap.size w)
 have H : (if (l0.length : Int) > 1048576 then (some true) else ((spec_DrawTermText.f k l0).bind fun bt467 => ((impl_TermText.f k bt467.1 bt467.2).bind fun t471 => ((spec_TermText.f k bt467.1 bt467.2).bind fun t472 => (if t471.toList = t472.toList then (if t471.toList = ([] : List UInt8) then ((impl_TermOk.f k bt467.1 bt467.2).bind fun t473 => (if t473 = true then (some false) else ((laws_alive.f).bind fun t474 => (some t474)))) else ((impl_ReadTerm.f k bt467.1 t471).bind fun bt475 => (if bt475.2 = true then ((laws_sameMarks.f k bt475.1 bt467.2).bind fun t479 => (some t479)) else (some false)))) else (some false)))))) = some r := h
 clear h
 by_cases c2 : (l0.length : Int) > 1048576
 ·rw [if_pos c2] at H
  have c2b0 : decide (1048576 < (l0.length : Int)) = true := decide_eq_true c2
  have c2b1 : decide (1048576 < l0.length) = true := decide_eq_true (by omega)
  clear c2
  obtain rfl := Option.some.inj H
  go_enter Try.func3, Try.ntmps3
  go_wp2
  go_ret
  exact ⟨by first | rfl | (simp [errW_none, errW_some] <;> rfl) | (simp [*, errW_none, errW_some] <;> rfl), pwg_⟩
 ·rw [if_neg c2] at H
  have c2b0 : decide (1048576 < (l0.length : Int)) = false := decide_eq_false c2
  have c2b1 : decide (1048576 < l0.length) = false := decide_eq_false (by omega)
  clear c2
  replace H := Option.bind_eq_some_iff.mp H
  obtain ⟨⟨t467, t468⟩, A30, H⟩ := H
  replace H : ((impl_TermText.f k t467 t468).bind fun t471 => ((spec_TermText.f k t467 t468).bind fun t472 => (if t471.toList = t472.toList then (if t471.toList = ([] : List UInt8) then ((impl_TermOk.f k t467 t468).bind fun t473 => (if t473 = true then (some false) else ((laws_alive.f).bind fun t474 => (some t474)))) else ((impl_ReadTerm.f k t467 t471).bind fun bt475 => (if bt475.2 = true then ((laws_sameMarks.f k bt475.1 t468).bind fun t479 => (some t479)) else (some false)))) else (some false)))) = some r := H
  have A3 := Aside0.mk A30
  clear A30
  replace H := Option.bind_eq_some_iff.mp H
  obtain ⟨t471, A40, H⟩ := H
  replace H : ((spec_TermText.f k t467 t468).bind fun t472 => (if t471.toList = t472.toList then (if t471.toList = ([] : List UInt8) then ((impl_TermOk.f k t467 t468).bind fun t473 => (if t473 = true then (some false) else ((laws_alive.f).bind fun t474 => (some t474)))) else ((impl_ReadTerm.f k t467 t471).bind fun bt475 => (if bt475.2 = true then ((laws_sameMarks.f k bt475.1 t468).bind fun t479 => (some t479)) else (some false)))) else (some false))) = some r := H
  have A4 := Aside0.mk A40
  clear A40
  replace H := Option.bind_eq_some_iff.mp H
  obtain ⟨t472, A50, H⟩ := H
  replace H : (if t471.toList = t472.toList then (if t471.toList = ([] : List UInt8) then ((impl_TermOk.f k t467 t468).bind fun t473 => (if t473 = true then (some false) else ((laws_alive.f).bind fun t474 => (some t474)))) else ((impl_ReadTerm.f k t467 t471).bind fun bt475 => (if bt475.2 = true then ((laws_sameMarks.f k bt475.1 t468).bind fun t479 => (some t479)) else (some false)))) else (some false)) = some r := H
  have A5 := Aside0.mk A50
  clear A50
  by_cases c6 : t471.toList = t472.toList
  ·rw [if_pos c6] at H
   have c6b0 : (t471.toList == t472.toList) = true := beq_iff_eq.mpr c6
   have c6b1 : (t471.toList != t472.toList) = false := bne_eq_false_iff_eq.mpr c6
   clear c6
   by_cases c7 : t471.toList = ([] : List UInt8)
   ·rw [if_pos c7] at H
    have c7b0 : (t471.toList == ([] : List UInt8)) = true := beq_iff_eq.mpr c7
    have c7b1 : (t471.toList != ([] : List UInt8)) = false := bne_eq_false_iff_eq.mpr c7
    clear c7
    replace H := Option.bind_eq_some_iff.mp H
    obtain ⟨t473, A80, H⟩ := H
    replace H : (if t473 = true then (some false) else ((laws_alive.f).bind fun t474 => (some t474))) = some r := H
    have A8 := Aside0.mk A80
    clear A80
    by_cases c9 : t473 = true
    ·subst c9
     have H1 : (some false) = some r := by rw [if_pos rfl] at H; exact H
     clear H
     have H := H1
     clear H1
     obtain rfl := Option.some.inj H
     go_enter Try.func3, Try.ntmps3
     go_wp2_with (first | ((with_reducible refine gate_callee (f := 4) rfl ?_); refine goesL_ (some 13) rfl rfl Try.func4 (by kernel_rfl) rfl #[.slice A0 l0.length c0] rfl pwi_ ?_; (with_reducible refine (spec_DrawTermText.calls k _ _ l0 t467 t468 _ ?side1 ?side2 A3.out).mono ?_); (case side1 => repeat (first | exact HR0.out | (with_reducible refine Kd.C_alloc ?_ _) | (with_reducible refine Kd.C_drewN ?_ _) | (with_reducible refine Kd.C_drew ?_))); (case side2 => exact HC0.out); rintro e w10 ⟨v469, rfl, ho0, hb⟩; refine ⟨_, rfl, ?_⟩; have n0_ := Aside0.mk (Kd.R_lower ho0 (below_size pwg_)); have n1_ := Aside0.mk (below_step pwg_ hb); clear HB; have HO470 := n0_; have HB := n1_; clear n0_ n1_; (try clear hb); (try clear hb2); (try clear hk); (try clear hi); (try clear ho0); obtain ⟨Ao11, co11, eo11⟩ := Kd.R_slice HO470.out; subst eo11) | ((with_reducible refine gate_callee (f := 5) rfl ?_); refine goesL_ (some 18) rfl rfl Try.func5 (by kernel_rfl) rfl #[.int .i64 t467, .slice Ao11 t468.length co11] rfl pwi_ ?_; (with_reducible refine (impl_TermText.calls k t467 _ _ t468 t471 _ ?side1 ?side2 A4.out).mono ?_); (case side1 => repeat (first | exact (Kd.R_reads' HO470.out).2.2 | (with_reducible refine Kd.C_alloc ?_ _) | (with_reducible refine Kd.C_drewN ?_ _) | (with_reducible refine Kd.C_drew ?_))); (case side2 => exact (Kd.R_reads' HO470.out).2.1); rintro e w12 ⟨rfl, hb⟩; refine ⟨_, rfl, ?_⟩; have n0_ := Aside0.mk (Kd.R_below (by (with_reducible repeat apply Kd.R_alloc); exact HO470.out) hb); have n1_ := Aside0.mk (below_step pwg_ hb); clear HO470; clear HB; have HO470 := n0_; have HB := n1_; clear n0_ n1_; (try clear hb); (try clear hb2); (try clear hk); (try clear hi)) | ((with_reducible refine gate_callee (f := 6) rfl ?_); refine goesL_ (some 22) rfl rfl Try.func6 (by kernel_rfl) rfl #[.int .i64 t467, .slice Ao11 t468.length co11] rfl pwi_ ?_; (with_reducible refine (spec_TermText.calls k t467 _ _ t468 t472 _ ?side1 ?side2 A5.out).mono ?_); (case side1 => repeat (first | exact (Kd.R_reads' HO470.out).2.2 | (with_reducible refine Kd.C_alloc ?_ _) | (with_reducible refine Kd.C_drewN ?_ _) | (with_reducible refine Kd.C_drew ?_))); (case side2 => exact (Kd.R_reads' HO470.out).2.1); rintro e w13 ⟨rfl, hb⟩; refine ⟨_, rfl, ?_⟩; have n0_ := Aside0.mk (Kd.R_below (by (with_reducible repeat apply Kd.R_alloc); exact HO470.out) hb); have n1_ := Aside0.mk (below_step pwg_ hb); clear HO470; clear HB; have HO470 := n0_; have HB := n1_; clear n0_ n1_; (try clear hb); (try clear hb2); (try clear hk); (try clear hi)) | ((with_reducible refine gate_callee (f := 7) rfl ?_); refine goesL_ (some 28) rfl rfl Try.func7 (by kernel_rfl) rfl #[.int .i64 t467, .slice Ao11 t468.length co11] rfl pwi_ ?_; (with_reducible refine (impl_TermOk.calls k t467 _ _ t468 true _ ?side1 ?side2 A8.out).mono ?_); (case side1 => repeat (first | exact (Kd.R_reads' HO470.out).2.2 | (with_reducible refine Kd.C_alloc ?_ _) | (with_reducible refine Kd.C_drewN ?_ _) | (with_reducible refine Kd.C_drew ?_))); (case side2 => exact (Kd.R_reads' HO470.out).2.1); rintro e w14 ⟨rfl, hb⟩; refine ⟨_, rfl, ?_⟩; have n0_ := Aside0.mk (Kd.R_below (by (with_reducible repeat apply Kd.R_alloc); exact HO470.out) hb); have n1_ := Aside0.mk (below_step pwg_ hb); clear HO470; clear HB; have HO470 := n0_; have HB := n1_; clear n0_ n1_; (try clear hb); (try clear hb2); (try clear hk); (try clear hi)))
     go_ret
     exact ⟨by first | rfl | (simp [errW_none, errW_some] <;> rfl) | (simp [*, errW_none, errW_some] <;> rfl), pwg_⟩
    ·replace c9 := Bool.eq_false_iff.mpr c9
     subst c9
     have H1 : ((laws_alive.f).bind fun t474 => (some t474)) = some r := by rw [if_neg (show ¬ (false = true) by decide)] at H; exact H
     clear H
     have H := H1
     clear H1
     replace H := Option.bind_eq_some_iff.mp H
     obtain ⟨t474, A150, H⟩ := H
     replace H : (some t474) = some r := H
     have A15 := Aside0.mk A150
     clear A150
     obtain rfl := Option.some.inj H
     go_enter Try.func3, Try.ntmps3
     go_wp2_with (first | ((with_reducible refine gate_callee (f := 4) rfl ?_); refine goesL_ (some 13) rfl rfl Try.func4 (by kernel_rfl) rfl #[.slice A0 l0.length c0] rfl pwi_ ?_; (with_reducible refine (spec_DrawTermText.calls k _ _ l0 t467 t468 _ ?side1 ?side2 A3.out).mono ?_); (case side1 => repeat (first | exact HR0.out | (with_reducible refine Kd.C_alloc ?_ _) | (with_reducible refine Kd.C_drewN ?_ _) | (with_reducible refine Kd.C_drew ?_))); (case side2 => exact HC0.out); rintro e w16 ⟨v469, rfl, ho0, hb⟩; refine ⟨_, rfl, ?_⟩; have n0_ := Aside0.mk (Kd.R_lower ho0 (below_size pwg_)); have n1_ := Aside0.mk (below_step pwg_ hb); clear HB; have HO470 := n0_; have HB := n1_; clear n0_ n1_; (try clear hb); (try clear hb2); (try clear hk); (try clear hi); (try clear ho0); obtain ⟨Ao17, co17, eo17⟩ := Kd.R_slice HO470.out; subst eo17) | ((with_reducible refine gate_callee (f := 5) rfl ?_); refine goesL_ (some 18) rfl rfl Try.func5 (by kernel_rfl) rfl #[.int .i64 t467, .slice Ao17 t468.length co17] rfl pwi_ ?_; (with_reducible refine (impl_TermText.calls k t467 _ _ t468 t471 _ ?side1 ?side2 A4.out).mono ?_); (case side1 => repeat (first | exact (Kd.R_reads' HO470.out).2.2 | (with_reducible refine Kd.C_alloc ?_ _) | (with_reducible refine Kd.C_drewN ?_ _) | (with_reducible refine Kd.C_drew ?_))); (case side2 => exact (Kd.R_reads' HO470.out).2.1); rintro e w18 ⟨rfl, hb⟩; refine ⟨_, rfl, ?_⟩; have n0_ := Aside0.mk (Kd.R_below (by (with_reducible repeat apply Kd.R_alloc); exact HO470.out) hb); have n1_ := Aside0.mk (below_step pwg_ hb); clear HO470; clear HB; have HO470 := n0_; have HB := n1_; clear n0_ n1_; (try clear hb); (try clear hb2); (try clear hk); (try clear hi)) | ((with_reducible refine gate_callee (f := 6) rfl ?_); refine goesL_ (some 22) rfl rfl Try.func6 (by kernel_rfl) rfl #[.int .i64 t467, .slice Ao17 t468.length co17] rfl pwi_ ?_; (with_reducible refine (spec_TermText.calls k t467 _ _ t468 t472 _ ?side1 ?side2 A5.out).mono ?_); (case side1 => repeat (first | exact (Kd.R_reads' HO470.out).2.2 | (with_reducible refine Kd.C_alloc ?_ _) | (with_reducible refine Kd.C_drewN ?_ _) | (with_reducible refine Kd.C_drew ?_))); (case side2 => exact (Kd.R_reads' HO470.out).2.1); rintro e w19 ⟨rfl, hb⟩; refine ⟨_, rfl, ?_⟩; have n0_ := Aside0.mk (Kd.R_below (by (with_reducible repeat apply Kd.R_alloc); exact HO470.out) hb); have n1_ := Aside0.mk (below_step pwg_ hb); clear HO470; clear HB; have HO470 := n0_; have HB := n1_; clear n0_ n1_; (try clear hb); (try clear hb2); (try clear hk); (try clear hi)) | ((with_reducible refine gate_callee (f := 7) rfl ?_); refine goesL_ (some 28) rfl rfl Try.func7 (by kernel_rfl) rfl #[.int .i64 t467, .slice Ao17 t468.length co17] rfl pwi_ ?_; (with_reducible refine (impl_TermOk.calls k t467 _ _ t468 false _ ?side1 ?side2 A8.out).mono ?_); (case side1 => repeat (first | exact (Kd.R_reads' HO470.out).2.2 | (with_reducible refine Kd.C_alloc ?_ _) | (with_reducible refine Kd.C_drewN ?_ _) | (with_reducible refine Kd.C_drew ?_))); (case side2 => exact (Kd.R_reads' HO470.out).2.1); rintro e w20 ⟨rfl, hb⟩; refine ⟨_, rfl, ?_⟩; have n0_ := Aside0.mk (Kd.R_below (by (with_reducible repeat apply Kd.R_alloc); exact HO470.out) hb); have n1_ := Aside0.mk (below_step pwg_ hb); clear HO470; clear HB; have HO470 := n0_; have HB := n1_; clear n0_ n1_; (try clear hb); (try clear hb2); (try clear hk); (try clear hi)) | (go_at_call 8; (with_reducible refine (laws_alive.calls  t474 _ A15.out).mono ?_); rintro e w' ⟨rfl, ⟨nd, rfl⟩⟩))
     go_ret
     exact ⟨by first | rfl | (simp [errW_none, errW_some] <;> rfl) | (simp [*, errW_none, errW_some] <;> rfl), pwg_⟩
   ·rw [if_neg c7] at H
    have c7b0 : (t471.toList == ([] : List UInt8)) = false := beq_eq_false_iff_ne.mpr c7
    have c7b1 : (t471.toList != ([] : List UInt8)) = true := bne_iff_ne.mpr c7
    replace H := Option.bind_eq_some_iff.mp H
    obtain ⟨⟨t475, t476⟩, A210, H⟩ := H
    replace H : (if t476 = true then ((laws_sameMarks.f k t475 t468).bind fun t479 => (some t479)) else (some false)) = some r := H
    have A21 := Aside0.mk A210
    clear A210
    by_cases c22 : t476 = true
    ·subst c22
     have H1 : ((laws_sameMarks.f k t475 t468).bind fun t479 => (some t479)) = some r := by rw [if_pos rfl] at H; exact H
     clear H
     have H := H1
     clear H1
     replace H := Option.bind_eq_some_iff.mp H
     obtain ⟨t479, A230, H⟩ := H
     replace H : (some t479) = some r := H
     have A23 := Aside0.mk A230
     clear A230
     obtain rfl := Option.some.inj H
     go_enter Try.func3, Try.ntmps3
     go_wp2_with (first | ((with_reducible refine gate_callee (f := 4) rfl ?_); refine goesL_ (some 13) rfl rfl Try.func4 (by kernel_rfl) rfl #[.slice A0 l0.length c0] rfl pwi_ ?_; (with_reducible refine (spec_DrawTermText.calls k _ _ l0 t467 t468 _ ?side1 ?side2 A3.out).mono ?_); (case side1 => repeat (first | exact HR0.out | (with_reducible refine Kd.C_alloc ?_ _) | (with_reducible refine Kd.C_drewN ?_ _) | (with_reducible refine Kd.C_drew ?_))); (case side2 => exact HC0.out); rintro e w24 ⟨v469, rfl, ho0, hb⟩; refine ⟨_, rfl, ?_⟩; have n0_ := Aside0.mk (Kd.R_lower ho0 (below_size pwg_)); have n1_ := Aside0.mk (below_step pwg_ hb); clear HB; have HO470 := n0_; have HB := n1_; clear n0_ n1_; (try clear hb); (try clear hb2); (try clear hk); (try clear hi); (try clear ho0); obtain ⟨Ao25, co25, eo25⟩ := Kd.R_slice HO470.out; subst eo25) | ((with_reducible refine gate_callee (f := 5) rfl ?_); refine goesL_ (some 18) rfl rfl Try.func5 (by kernel_rfl) rfl #[.int .i64 t467, .slice Ao25 t468.length co25] rfl pwi_ ?_; (with_reducible refine (impl_TermText.calls k t467 _ _ t468 t471 _ ?side1 ?side2 A4.out).mono ?_); (case side1 => repeat (first | exact (Kd.R_reads' HO470.out).2.2 | (with_reducible refine Kd.C_alloc ?_ _) | (with_reducible refine Kd.C_drewN ?_ _) | (with_reducible refine Kd.C_drew ?_))); (case side2 => exact (Kd.R_reads' HO470.out).2.1); rintro e w26 ⟨rfl, hb⟩; refine ⟨_, rfl, ?_⟩; have n0_ := Aside0.mk (Kd.R_below (by (with_reducible repeat apply Kd.R_alloc); exact HO470.out) hb); have n1_ := Aside0.mk (below_step pwg_ hb); clear HO470; clear HB; have HO470 := n0_; have HB := n1_; clear n0_ n1_; (try clear hb); (try clear hb2); (try clear hk); (try clear hi)) | ((with_reducible refine gate_callee (f := 6) rfl ?_); refine goesL_ (some 22) rfl rfl Try.func6 (by kernel_rfl) rfl #[.int .i64 t467, .slice Ao25 t468.length co25] rfl pwi_ ?_; (with_reducible refine (spec_TermText.calls k t467 _ _ t468 t472 _ ?side1 ?side2 A5.out).mono ?_); (case side1 => repeat (first | exact (Kd.R_reads' HO470.out).2.2 | (with_reducible refine Kd.C_alloc ?_ _) | (with_reducible refine Kd.C_drewN ?_ _) | (with_reducible refine Kd.C_drew ?_))); (case side2 => exact (Kd.R_reads' HO470.out).2.1); rintro e w27 ⟨rfl, hb⟩; refine ⟨_, rfl, ?_⟩; have n0_ := Aside0.mk (Kd.R_below (by (with_reducible repeat apply Kd.R_alloc); exact HO470.out) hb); have n1_ := Aside0.mk (below_step pwg_ hb); clear HO470; clear HB; have HO470 := n0_; have HB := n1_; clear n0_ n1_; (try clear hb); (try clear hb2); (try clear hk); (try clear hi)) | ((with_reducible refine gate_callee (f := 9) rfl ?_); refine goesL_ (some 36) rfl rfl Try.func9 (by kernel_rfl) rfl #[.int .i64 t467, .string t471] rfl pwi_ ?_; (with_reducible refine (impl_ReadTerm.calls k t467 t471 t475 true _ A21.out).mono ?_); rintro e w28 ⟨v477, rfl, ho0, hb⟩; refine ⟨_, rfl, ?_⟩; have n0_ := Aside0.mk (Kd.R_elder' (by (with_reducible repeat apply Kd.R_alloc); exact HO470.out) (Kd.R_base ho0) hb); have n1_ := Aside0.mk (Kd.R_lower (Kd.R_new' ho0 (Kd.R_lt (by (with_reducible repeat apply Kd.R_alloc); exact HO470.out))) (below_size pwg_)); have n2_ := Aside0.mk (below_step pwg_ hb); clear HO470; clear HB; have HO470 := n0_; have HO478 := n1_; have HB := n2_; clear n0_ n1_ n2_; (try clear hb); (try clear hb2); (try clear hk); (try clear hi); (try clear ho0); obtain ⟨Ao29, co29, eo29⟩ := Kd.R_slice HO478.out; subst eo29) | (go_at_call 10; (with_reducible refine (laws_sameMarks.calls k _ _ t475 _ _ t468 t479 _ ?side1 ?side2 ?side3 ?side4 A23.out).mono ?_); (case side1 => repeat (first | exact (Kd.R_reads' HO478.out).2.2 | (with_reducible refine Kd.C_alloc ?_ _) | (with_reducible refine Kd.C_drewN ?_ _) | (with_reducible refine Kd.C_drew ?_))); (case side2 => exact (Kd.R_reads' HO478.out).2.1); (case side3 => repeat (first | exact (Kd.R_reads' HO470.out).2.2 | (with_reducible refine Kd.C_alloc ?_ _) | (with_reducible refine Kd.C_drewN ?_ _) | (with_reducible refine Kd.C_drew ?_))); (case side4 => exact (Kd.R_reads' HO470.out).2.1); rintro e w' ⟨rfl, ⟨nd, rfl⟩⟩))
     go_ret
     exact ⟨by first | rfl | (simp [errW_none, errW_some] <;> rfl) | (simp [*, errW_none, errW_some] <;> rfl), pwg_⟩
    ·replace c22 := Bool.eq_false_iff.mpr c22
     subst c22
     have H1 : (some false) = some r := by rw [if_neg (show ¬ (false = true) by decide)] at H; exact H
     clear H
     have H := H1
     clear H1
     obtain rfl := Option.some.inj H
     go_enter Try.func3, Try.ntmps3
     go_wp2_with (first | ((with_reducible refine gate_callee (f := 4) rfl ?_); refine goesL_ (some 13) rfl rfl Try.func4 (by kernel_rfl) rfl #[.slice A0 l0.length c0] rfl pwi_ ?_; (with_reducible refine (spec_DrawTermText.calls k _ _ l0 t467 t468 _ ?side1 ?side2 A3.out).mono ?_); (case side1 => repeat (first | exact HR0.out | (with_reducible refine Kd.C_alloc ?_ _) | (with_reducible refine Kd.C_drewN ?_ _) | (with_reducible refine Kd.C_drew ?_))); (case side2 => exact HC0.out); rintro e w30 ⟨v469, rfl, ho0, hb⟩; refine ⟨_, rfl, ?_⟩; have n0_ := Aside0.mk (Kd.R_lower ho0 (below_size pwg_)); have n1_ := Aside0.mk (below_step pwg_ hb); clear HB; have HO470 := n0_; have HB := n1_; clear n0_ n1_; (try clear hb); (try clear hb2); (try clear hk); (try clear hi); (try clear ho0); obtain ⟨Ao31, co31, eo31⟩ := Kd.R_slice HO470.out; subst eo31) | ((with_reducible refine gate_callee (f := 5) rfl ?_); refine goesL_ (some 18) rfl rfl Try.func5 (by kernel_rfl) rfl #[.int .i64 t467, .slice Ao31 t468.length co31] rfl pwi_ ?_; (with_reducible refine (impl_TermText.calls k t467 _ _ t468 t471 _ ?side1 ?side2 A4.out).mono ?_); (case side1 => repeat (first | exact (Kd.R_reads' HO470.out).2.2 | (with_reducible refine Kd.C_alloc ?_ _) | (with_reducible refine Kd.C_drewN ?_ _) | (with_reducible refine Kd.C_drew ?_))); (case side2 => exact (Kd.R_reads' HO470.out).2.1); rintro e w32 ⟨rfl, hb⟩; refine ⟨_, rfl, ?_⟩; have n0_ := Aside0.mk (Kd.R_below (by (with_reducible repeat apply Kd.R_alloc); exact HO470.out) hb); have n1_ := Aside0.mk (below_step pwg_ hb); clear HO470; clear HB; have HO470 := n0_; have HB := n1_; clear n0_ n1_; (try clear hb); (try clear hb2); (try clear hk); (try clear hi)) | ((with_reducible refine gate_callee (f := 6) rfl ?_); refine goesL_ (some 22) rfl rfl Try.func6 (by kernel_rfl) rfl #[.int .i64 t467, .slice Ao31 t468.length co31] rfl pwi_ ?_; (with_reducible refine (spec_TermText.calls k t467 _ _ t468 t472 _ ?side1 ?side2 A5.out).mono ?_); (case side1 => repeat (first | exact (Kd.R_reads' HO470.out).2.2 | (with_reducible refine Kd.C_alloc ?_ _) | (with_reducible refine Kd.C_drewN ?_ _) | (with_reducible refine Kd.C_drew ?_))); (case side2 => exact (Kd.R_reads' HO470.out).2.1); rintro e w33 ⟨rfl, hb⟩; refine ⟨_, rfl, ?_⟩; have n0_ := Aside0.mk (Kd.R_below (by (with_reducible repeat apply Kd.R_alloc); exact HO470.out) hb); have n1_ := Aside0.mk (below_step pwg_ hb); clear HO470; clear HB; have HO470 := n0_; have HB := n1_; clear n0_ n1_; (try clear hb); (try clear hb2); (try clear hk); (try clear hi)) | ((with_reducible refine gate_callee (f := 9) rfl ?_); refine goesL_ (some 36) rfl rfl Try.func9 (by kernel_rfl) rfl #[.int .i64 t467, .string t471] rfl pwi_ ?_; (with_reducible refine (impl_ReadTerm.calls k t467 t471 t475 false _ A21.out).mono ?_); rintro e w34 ⟨v477, rfl, ho0, hb⟩; refine ⟨_, rfl, ?_⟩; have n0_ := Aside0.mk (Kd.R_elder' (by (with_reducible repeat apply Kd.R_alloc); exact HO470.out) (Kd.R_base ho0) hb); have n1_ := Aside0.mk (Kd.R_lower (Kd.R_new' ho0 (Kd.R_lt (by (with_reducible repeat apply Kd.R_alloc); exact HO470.out))) (below_size pwg_)); have n2_ := Aside0.mk (below_step pwg_ hb); clear HO470; clear HB; have HO470 := n0_; have HO478 := n1_; have HB := n2_; clear n0_ n1_ n2_; (try clear hb); (try clear hb2); (try clear hk); (try clear hi); (try clear ho0)))
     go_ret
     exact ⟨by first | rfl | (simp [errW_none, errW_some] <;> rfl) | (simp [*, errW_none, errW_some] <;> rfl), pwg_⟩
  ·rw [if_neg c6] at H
   have c6b0 : (t471.toList == t472.toList) = false := beq_eq_false_iff_ne.mpr c6
   have c6b1 : (t471.toList != t472.toList) = true := bne_iff_ne.mpr c6
   obtain rfl := Option.some.inj H
   go_enter Try.func3, Try.ntmps3
   go_wp2_with (first | ((with_reducible refine gate_callee (f := 4) rfl ?_); refine goesL_ (some 13) rfl rfl Try.func4 (by kernel_rfl) rfl #[.slice A0 l0.length c0] rfl pwi_ ?_; (with_reducible refine (spec_DrawTermText.calls k _ _ l0 t467 t468 _ ?side1 ?side2 A3.out).mono ?_); (case side1 => repeat (first | exact HR0.out | (with_reducible refine Kd.C_alloc ?_ _) | (with_reducible refine Kd.C_drewN ?_ _) | (with_reducible refine Kd.C_drew ?_))); (case side2 => exact HC0.out); rintro e w35 ⟨v469, rfl, ho0, hb⟩; refine ⟨_, rfl, ?_⟩; have n0_ := Aside0.mk (Kd.R_lower ho0 (below_size pwg_)); have n1_ := Aside0.mk (below_step pwg_ hb); clear HB; have HO470 := n0_; have HB := n1_; clear n0_ n1_; (try clear hb); (try clear hb2); (try clear hk); (try clear hi); (try clear ho0); obtain ⟨Ao36, co36, eo36⟩ := Kd.R_slice HO470.out; subst eo36) | ((with_reducible refine gate_callee (f := 5) rfl ?_); refine goesL_ (some 18) rfl rfl Try.func5 (by kernel_rfl) rfl #[.int .i64 t467, .slice Ao36 t468.length co36] rfl pwi_ ?_; (with_reducible refine (impl_TermText.calls k t467 _ _ t468 t471 _ ?side1 ?side2 A4.out).mono ?_); (case side1 => repeat (first | exact (Kd.R_reads' HO470.out).2.2 | (with_reducible refine Kd.C_alloc ?_ _) | (with_reducible refine Kd.C_drewN ?_ _) | (with_reducible refine Kd.C_drew ?_))); (case side2 => exact (Kd.R_reads' HO470.out).2.1); rintro e w37 ⟨rfl, hb⟩; refine ⟨_, rfl, ?_⟩; have n0_ := Aside0.mk (Kd.R_below (by (with_reducible repeat apply Kd.R_alloc); exact HO470.out) hb); have n1_ := Aside0.mk (below_step pwg_ hb); clear HO470; clear HB; have HO470 := n0_; have HB := n1_; clear n0_ n1_; (try clear hb); (try clear hb2); (try clear hk); (try clear hi)) | ((with_reducible refine gate_callee (f := 6) rfl ?_); refine goesL_ (some 22) rfl rfl Try.func6 (by kernel_rfl) rfl #[.int .i64 t467, .slice Ao36 t468.length co36] rfl pwi_ ?_; (with_reducible refine (spec_TermText.calls k t467 _ _ t468 t472 _ ?side1 ?side2 A5.out).mono ?_); (case side1 => repeat (first | exact (Kd.R_reads' HO470.out).2.2 | (with_reducible refine Kd.C_alloc ?_ _) | (with_reducible refine Kd.C_drewN ?_ _) | (with_reducible refine Kd.C_drew ?_))); (case side2 => exact (Kd.R_reads' HO470.out).2.1); rintro e w38 ⟨rfl, hb⟩; refine ⟨_, rfl, ?_⟩; have n0_ := Aside0.mk (Kd.R_below (by (with_reducible repeat apply Kd.R_alloc); exact HO470.out) hb); have n1_ := Aside0.mk (below_step pwg_ hb); clear HO470; clear HB; have HO470 := n0_; have HB := n1_; clear n0_ n1_; (try clear hb); (try clear hb2); (try clear hk); (try clear hi)))
   go_ret
   exact ⟨by first | rfl | (simp [errW_none, errW_some] <;> rfl) | (simp [*, errW_none, errW_some] <;> rfl), pwg_⟩

/-- THE ONE PURE STATEMENT of laws_FnTermText: yours. -/
def laws_FnTermText.Pure : Prop := ∀ (l0 : List Int), l0.length ≤ maxLen → l0.length * 1 ≤ 140737488351232 → (∀ x ∈ l0, (Lit.int .u8 x).wf = true) → ∃ k, laws_FnTermText.f k l0 = some true
theorem laws_FnTermText.walk (P : laws_FnTermText.Pure) (a0 : Option Addr) (len0 cap0 : Nat) (z0 : List Int) (w : World) (w0 : (a0 = none ∧ len0 = 0 ∧ cap0 = 0 ∧ z0 = []) ∨ ∃ x, a0 = some x ∧ len0 ≤ cap0 ∧ cap0 ≤ maxLen ∧ z0.length = cap0 ∧ (∀ i, i < z0.length → w.cell? (x.add i) = some (.int .u8 (z0.getD i 0))) ∧ ∀ n ∈ z0, (Lit.int .u8 n).wf = true) (y0 : len0 * 1 ≤ 140737488351232) :
  Calls Try.prog 3 #[.slice a0 len0 cap0] w fun e w' => e = .returned (.bool true) ∧ Below w.heap.size w w' := by
 obtain ⟨l0, rfl, hr0, hm0, hw0, hc0⟩ := ReadsInt.ofRowC w0
 obtain ⟨k, h⟩ := P l0 hm0 y0 hw0
 refine (laws_FnTermText.calls k _ _ l0 true w (Kd.C_of_reads (d := (0 : Int)) (h1 := fun _ => rfl) hr0) hc0 h).mono ?_
 rintro e w' ⟨rfl, hd⟩
 exact ⟨rfl, hd⟩

end Go.Proofs.Ytcadjbmekmnjaaa.PFnTermText
