-- Made by a program of this session (wip/tools/patchprint.py), not by the kit itself.
import Derived.Test.YtfhmafmfaoknlaaPFnReadTermx0
import Derived.Test.YtfhmafmfaoknlaaPFnReadTermx7
import Derived.Test.YtfhmafmfaoknlaaPFnReadTermx9
import Derived.Test.YtfhmafmfaoknlaaPFnReadTermx10
namespace Go.Proofs.Ytfhmafmfaoknlaa.PFnReadTerm
open Go.RowKit Go.Proofs.YtfhmafmfaoknlaaW.PrintWords Go.Proofs.YtfhmafmfaoknlaaW.PrintLast Go.Proofs.YtfhmafmfaoknlaaW.PrintMore
attribute [local go_sem] max2_int min2_int max_two min_two max_three min_three max_four min_four   -- for this text's walks alone
set_option linter.unusedVariables false
set_option linter.unusedSimpArgs false

attribute [local go_sem] setCell_isSome


/-! ### impl_readPart, impl_readRowC, impl_readAnd, impl_readRowB, impl_readOr, impl_readRowA, impl_readSame, which call each other -/
mutual
def impl_readPart.j0 : Nat → ByteArray → Int → ByteArray → Bool → Option ((List (S62)) × ByteArray × Bool)
 | 0, _, _, _, _ => none
 | k + 1, x0, x5, x6, x21 => if x21 = true then (some ((([(⟨0, (x5 - 97) % 256⟩ : S62)] : List (S62))), x6, true)) else (if x5 ≥ 48 then (impl_readPart.j1 k x0 x5 x6 (decide (x5 ≤ 57))) else (impl_readPart.j1 k x0 x5 x6 false))
def impl_readPart.j1 : Nat → ByteArray → Int → ByteArray → Bool → Option ((List (S62)) × ByteArray × Bool)
 | 0, _, _, _, _ => none
 | k + 1, x0, x5, x6, x34 => if x34 = true then (some ((([(⟨1, (x5 - 48) % 256⟩ : S62)] : List (S62))), x6, true)) else (if x5 = 33 then ((impl_readPart.f k x6).bind fun bt377 => (if bt377.1.length < 8796093022208 then (some ((bt377.1 ++ [(⟨2, 0⟩ : S62)]), bt377.2.1, bt377.2.2)) else (none))) else (if x5 = 40 then ((impl_readSame.f k x6).bind fun bt385 => ((strings_CutPrefix.f bt385.2.1 (⟨#[41]⟩ : ByteArray)).bind fun bt390 => (if bt385.2.2 = true then (some (bt385.1, bt390.1, bt390.2)) else (some (bt385.1, bt390.1, false))))) else (some (([] : List (S62)), x0, false))))
def impl_readPart.f : Nat → ByteArray → Option ((List (S62)) × ByteArray × Bool)
 | 0, _ => none
 | k + 1, a0 => if a0.toList = ([] : List UInt8) then (some (([] : List (S62)), a0, false)) else (if 0 < (a0.size : Int) then (if 1 ≤ (a0.size : Int) then (if (bt a0 0) ≥ 97 then (impl_readPart.j0 k a0 (bt a0 0) (a0.extract 1 a0.size) (decide ((bt a0 0) ≤ 122))) else (impl_readPart.j0 k a0 (bt a0 0) (a0.extract 1 a0.size) false)) else (none)) else (none))
def impl_readRowC.l0 : Nat → ByteArray → ByteArray → Int → List (S62) → Bool → Option ((List (S62)) × ByteArray × Bool)
 | 0, _, _, _, _, _ => none
 | k + 1, x0, x1, x2, x11, x12 => if x12 = true then ((strings_CutPrefix.f x0 x1).bind fun bt397 => (if bt397.2 = true then ((impl_readPart.f k bt397.1).bind fun bt399 => (if x11.length + bt399.1.length < 8796093022208 then ((some (x11 ++ bt399.1 : List (S62))).bind fun y404 => (if y404.length < 8796093022208 then (impl_readRowC.l0 k bt399.2.1 x1 x2 (y404 ++ [(⟨x2, 0⟩ : S62)]) bt399.2.2) else (none))) else (none))) else (some (x11, x0, true)))) else (some (([] : List (S62)), x0, false))
def impl_readRowC.f : Nat → ByteArray → ByteArray → Int → Int → Option ((List (S62)) × ByteArray × Bool)
 | 0, _, _, _, _ => none
 | k + 1, a0, a1, a2, a3 => (impl_readPart.f k a0).bind fun bt392 => (impl_readRowC.l0 k bt392.2.1 a1 a2 bt392.1 bt392.2.2)
def impl_readAnd.f : Nat → ByteArray → Option ((List (S62)) × ByteArray × Bool)
 | 0, _ => none
 | k + 1, a0 => (impl_readRowC.f k a0 (⟨#[38]⟩ : ByteArray) 3 777107).bind fun bt410 => (some (bt410.1, bt410.2.1, bt410.2.2))
def impl_readRowB.l0 : Nat → ByteArray → ByteArray → Int → List (S62) → Bool → Option ((List (S62)) × ByteArray × Bool)
 | 0, _, _, _, _, _ => none
 | k + 1, x0, x1, x2, x11, x12 => if x12 = true then ((strings_CutPrefix.f x0 x1).bind fun bt420 => (if bt420.2 = true then ((impl_readAnd.f k bt420.1).bind fun bt422 => (if x11.length + bt422.1.length < 8796093022208 then ((some (x11 ++ bt422.1 : List (S62))).bind fun y427 => (if y427.length < 8796093022208 then (impl_readRowB.l0 k bt422.2.1 x1 x2 (y427 ++ [(⟨x2, 0⟩ : S62)]) bt422.2.2) else (none))) else (none))) else (some (x11, x0, true)))) else (some (([] : List (S62)), x0, false))
def impl_readRowB.f : Nat → ByteArray → ByteArray → Int → Int → Option ((List (S62)) × ByteArray × Bool)
 | 0, _, _, _, _ => none
 | k + 1, a0, a1, a2, a3 => (impl_readAnd.f k a0).bind fun bt415 => (impl_readRowB.l0 k bt415.2.1 a1 a2 bt415.1 bt415.2.2)
def impl_readOr.f : Nat → ByteArray → Option ((List (S62)) × ByteArray × Bool)
 | 0, _ => none
 | k + 1, a0 => (impl_readRowB.f k a0 (⟨#[124]⟩ : ByteArray) 4 777102).bind fun bt433 => (some (bt433.1, bt433.2.1, bt433.2.2))
def impl_readRowA.l0 : Nat → ByteArray → ByteArray → Int → List (S62) → Bool → Option ((List (S62)) × ByteArray × Bool)
 | 0, _, _, _, _, _ => none
 | k + 1, x0, x1, x2, x11, x12 => if x12 = true then ((strings_CutPrefix.f x0 x1).bind fun bt443 => (if bt443.2 = true then ((impl_readOr.f k bt443.1).bind fun bt445 => (if x11.length + bt445.1.length < 8796093022208 then ((some (x11 ++ bt445.1 : List (S62))).bind fun y450 => (if y450.length < 8796093022208 then (impl_readRowA.l0 k bt445.2.1 x1 x2 (y450 ++ [(⟨x2, 0⟩ : S62)]) bt445.2.2) else (none))) else (none))) else (some (x11, x0, true)))) else (some (([] : List (S62)), x0, false))
def impl_readRowA.f : Nat → ByteArray → ByteArray → Int → Int → Option ((List (S62)) × ByteArray × Bool)
 | 0, _, _, _, _ => none
 | k + 1, a0, a1, a2, a3 => (impl_readOr.f k a0).bind fun bt438 => (impl_readRowA.l0 k bt438.2.1 a1 a2 bt438.1 bt438.2.2)
def impl_readSame.f : Nat → ByteArray → Option ((List (S62)) × ByteArray × Bool)
 | 0, _ => none
 | k + 1, a0 => (impl_readRowA.f k a0 (⟨#[61]⟩ : ByteArray) 5 777090).bind fun bt456 => (some (bt456.1, bt456.2.1, bt456.2.2))
end
theorem readSame_readPart_c.mono_l : ∀ k, ((∀ y0, LeO (impl_readPart.f k y0) (impl_readPart.f (k + 1) y0)) ∧ (∀ y0 y1 y2 y3, LeO (impl_readPart.j0 k y0 y1 y2 y3) (impl_readPart.j0 (k + 1) y0 y1 y2 y3)) ∧ (∀ y0 y1 y2 y3, LeO (impl_readPart.j1 k y0 y1 y2 y3) (impl_readPart.j1 (k + 1) y0 y1 y2 y3))) ∧ ((∀ y0 y1 y2 y3, LeO (impl_readRowC.f k y0 y1 y2 y3) (impl_readRowC.f (k + 1) y0 y1 y2 y3)) ∧ (∀ y0 y1 y2 y3 y4, LeO (impl_readRowC.l0 k y0 y1 y2 y3 y4) (impl_readRowC.l0 (k + 1) y0 y1 y2 y3 y4))) ∧ ((∀ y0, LeO (impl_readAnd.f k y0) (impl_readAnd.f (k + 1) y0))) ∧ ((∀ y0 y1 y2 y3, LeO (impl_readRowB.f k y0 y1 y2 y3) (impl_readRowB.f (k + 1) y0 y1 y2 y3)) ∧ (∀ y0 y1 y2 y3 y4, LeO (impl_readRowB.l0 k y0 y1 y2 y3 y4) (impl_readRowB.l0 (k + 1) y0 y1 y2 y3 y4))) ∧ ((∀ y0, LeO (impl_readOr.f k y0) (impl_readOr.f (k + 1) y0))) ∧ ((∀ y0 y1 y2 y3, LeO (impl_readRowA.f k y0 y1 y2 y3) (impl_readRowA.f (k + 1) y0 y1 y2 y3)) ∧ (∀ y0 y1 y2 y3 y4, LeO (impl_readRowA.l0 k y0 y1 y2 y3 y4) (impl_readRowA.l0 (k + 1) y0 y1 y2 y3 y4))) ∧ ((∀ y0, LeO (impl_readSame.f k y0) (impl_readSame.f (k + 1) y0)))
 | 0 => ⟨⟨fun _ r h => by simp [impl_readPart.f] at h, fun _ _ _ _ r h => by simp [impl_readPart.j0] at h, fun _ _ _ _ r h => by simp [impl_readPart.j1] at h⟩, ⟨fun _ _ _ _ r h => by simp [impl_readRowC.f] at h, fun _ _ _ _ _ r h => by simp [impl_readRowC.l0] at h⟩, fun _ r h => by simp [impl_readAnd.f] at h, ⟨fun _ _ _ _ r h => by simp [impl_readRowB.f] at h, fun _ _ _ _ _ r h => by simp [impl_readRowB.l0] at h⟩, fun _ r h => by simp [impl_readOr.f] at h, ⟨fun _ _ _ _ r h => by simp [impl_readRowA.f] at h, fun _ _ _ _ _ r h => by simp [impl_readRowA.l0] at h⟩, fun _ r h => by simp [impl_readSame.f] at h⟩
 | k + 1 => by
  obtain ⟨g0_, g1_, g2_, g3_, g4_, g5_, g6_⟩ := readSame_readPart_c.mono_l k
  refine ⟨?_, ?_, ?_, ?_, ?_, ?_, ?_⟩
  case refine_1 =>
   obtain ⟨ih0, ih1, ih2⟩ := g0_
   refine ⟨?_, ?_, ?_⟩
   ·intro y0
    unfold impl_readPart.f
    repeat' first
    | (with_reducible exact ih0 _)
    | (with_reducible exact ih1 _ _ _ _)
    | (with_reducible exact ih2 _ _ _ _)
    | (with_reducible exact g6_ _)
    | (with_reducible exact LeO.refl _)
    | (with_reducible exact LeO.none _)
    | (with_reducible refine LeO.ite ?_ ?_)
    | (with_reducible refine LeO.bind ?_ (fun _ => ?_))
    | exact ih0 _
    | exact ih1 _ _ _ _
    | exact ih2 _ _ _ _
    | exact g6_ _
    | exact LeO.none _
    | refine LeO.ite ?_ ?_
    | refine LeO.bind ?_ (fun _ => ?_)
   ·intro y0 y1 y2 y3
    unfold impl_readPart.j0
    repeat' first
    | (with_reducible exact ih0 _)
    | (with_reducible exact ih1 _ _ _ _)
    | (with_reducible exact ih2 _ _ _ _)
    | (with_reducible exact g6_ _)
    | (with_reducible exact LeO.refl _)
    | (with_reducible exact LeO.none _)
    | (with_reducible refine LeO.ite ?_ ?_)
    | (with_reducible refine LeO.bind ?_ (fun _ => ?_))
    | exact ih0 _
    | exact ih1 _ _ _ _
    | exact ih2 _ _ _ _
    | exact g6_ _
    | exact LeO.none _
    | refine LeO.ite ?_ ?_
    | refine LeO.bind ?_ (fun _ => ?_)
   ·intro y0 y1 y2 y3
    unfold impl_readPart.j1
    repeat' first
    | (with_reducible exact ih0 _)
    | (with_reducible exact ih1 _ _ _ _)
    | (with_reducible exact ih2 _ _ _ _)
    | (with_reducible exact g6_ _)
    | (with_reducible exact LeO.refl _)
    | (with_reducible exact LeO.none _)
    | (with_reducible refine LeO.ite ?_ ?_)
    | (with_reducible refine LeO.bind ?_ (fun _ => ?_))
    | exact ih0 _
    | exact ih1 _ _ _ _
    | exact ih2 _ _ _ _
    | exact g6_ _
    | exact LeO.none _
    | refine LeO.ite ?_ ?_
    | refine LeO.bind ?_ (fun _ => ?_)
  case refine_2 =>
   obtain ⟨ih0, ih1⟩ := g1_
   refine ⟨?_, ?_⟩
   ·intro y0 y1 y2 y3
    unfold impl_readRowC.f
    repeat' first
    | (with_reducible exact ih0 _ _ _ _)
    | (with_reducible exact ih1 _ _ _ _ _)
    | (with_reducible exact g0_.1 _)
    | (with_reducible exact LeO.refl _)
    | (with_reducible exact LeO.none _)
    | (with_reducible refine LeO.ite ?_ ?_)
    | (with_reducible refine LeO.bind ?_ (fun _ => ?_))
    | exact ih0 _ _ _ _
    | exact ih1 _ _ _ _ _
    | exact g0_.1 _
    | exact LeO.none _
    | refine LeO.ite ?_ ?_
    | refine LeO.bind ?_ (fun _ => ?_)
   ·intro y0 y1 y2 y3 y4
    unfold impl_readRowC.l0
    repeat' first
    | (with_reducible exact ih0 _ _ _ _)
    | (with_reducible exact ih1 _ _ _ _ _)
    | (with_reducible exact g0_.1 _)
    | (with_reducible exact LeO.refl _)
    | (with_reducible exact LeO.none _)
    | (with_reducible refine LeO.ite ?_ ?_)
    | (with_reducible refine LeO.bind ?_ (fun _ => ?_))
    | exact ih0 _ _ _ _
    | exact ih1 _ _ _ _ _
    | exact g0_.1 _
    | exact LeO.none _
    | refine LeO.ite ?_ ?_
    | refine LeO.bind ?_ (fun _ => ?_)
  case refine_3 =>
   have ih0 := g2_
   ·intro y0
    unfold impl_readAnd.f
    repeat' first
    | (with_reducible exact ih0 _)
    | (with_reducible exact g1_.1 _ _ _ _)
    | (with_reducible exact LeO.refl _)
    | (with_reducible exact LeO.none _)
    | (with_reducible refine LeO.ite ?_ ?_)
    | (with_reducible refine LeO.bind ?_ (fun _ => ?_))
    | exact ih0 _
    | exact g1_.1 _ _ _ _
    | exact LeO.none _
    | refine LeO.ite ?_ ?_
    | refine LeO.bind ?_ (fun _ => ?_)
  case refine_4 =>
   obtain ⟨ih0, ih1⟩ := g3_
   refine ⟨?_, ?_⟩
   ·intro y0 y1 y2 y3
    unfold impl_readRowB.f
    repeat' first
    | (with_reducible exact ih0 _ _ _ _)
    | (with_reducible exact ih1 _ _ _ _ _)
    | (with_reducible exact g2_ _)
    | (with_reducible exact LeO.refl _)
    | (with_reducible exact LeO.none _)
    | (with_reducible refine LeO.ite ?_ ?_)
    | (with_reducible refine LeO.bind ?_ (fun _ => ?_))
    | exact ih0 _ _ _ _
    | exact ih1 _ _ _ _ _
    | exact g2_ _
    | exact LeO.none _
    | refine LeO.ite ?_ ?_
    | refine LeO.bind ?_ (fun _ => ?_)
   ·intro y0 y1 y2 y3 y4
    unfold impl_readRowB.l0
    repeat' first
    | (with_reducible exact ih0 _ _ _ _)
    | (with_reducible exact ih1 _ _ _ _ _)
    | (with_reducible exact g2_ _)
    | (with_reducible exact LeO.refl _)
    | (with_reducible exact LeO.none _)
    | (with_reducible refine LeO.ite ?_ ?_)
    | (with_reducible refine LeO.bind ?_ (fun _ => ?_))
    | exact ih0 _ _ _ _
    | exact ih1 _ _ _ _ _
    | exact g2_ _
    | exact LeO.none _
    | refine LeO.ite ?_ ?_
    | refine LeO.bind ?_ (fun _ => ?_)
  case refine_5 =>
   have ih0 := g4_
   ·intro y0
    unfold impl_readOr.f
    repeat' first
    | (with_reducible exact ih0 _)
    | (with_reducible exact g3_.1 _ _ _ _)
    | (with_reducible exact LeO.refl _)
    | (with_reducible exact LeO.none _)
    | (with_reducible refine LeO.ite ?_ ?_)
    | (with_reducible refine LeO.bind ?_ (fun _ => ?_))
    | exact ih0 _
    | exact g3_.1 _ _ _ _
    | exact LeO.none _
    | refine LeO.ite ?_ ?_
    | refine LeO.bind ?_ (fun _ => ?_)
  case refine_6 =>
   obtain ⟨ih0, ih1⟩ := g5_
   refine ⟨?_, ?_⟩
   ·intro y0 y1 y2 y3
    unfold impl_readRowA.f
    repeat' first
    | (with_reducible exact ih0 _ _ _ _)
    | (with_reducible exact ih1 _ _ _ _ _)
    | (with_reducible exact g4_ _)
    | (with_reducible exact LeO.refl _)
    | (with_reducible exact LeO.none _)
    | (with_reducible refine LeO.ite ?_ ?_)
    | (with_reducible refine LeO.bind ?_ (fun _ => ?_))
    | exact ih0 _ _ _ _
    | exact ih1 _ _ _ _ _
    | exact g4_ _
    | exact LeO.none _
    | refine LeO.ite ?_ ?_
    | refine LeO.bind ?_ (fun _ => ?_)
   ·intro y0 y1 y2 y3 y4
    unfold impl_readRowA.l0
    repeat' first
    | (with_reducible exact ih0 _ _ _ _)
    | (with_reducible exact ih1 _ _ _ _ _)
    | (with_reducible exact g4_ _)
    | (with_reducible exact LeO.refl _)
    | (with_reducible exact LeO.none _)
    | (with_reducible refine LeO.ite ?_ ?_)
    | (with_reducible refine LeO.bind ?_ (fun _ => ?_))
    | exact ih0 _ _ _ _
    | exact ih1 _ _ _ _ _
    | exact g4_ _
    | exact LeO.none _
    | refine LeO.ite ?_ ?_
    | refine LeO.bind ?_ (fun _ => ?_)
  case refine_7 =>
   have ih0 := g6_
   ·intro y0
    unfold impl_readSame.f
    repeat' first
    | (with_reducible exact ih0 _)
    | (with_reducible exact g5_.1 _ _ _ _)
    | (with_reducible exact LeO.refl _)
    | (with_reducible exact LeO.none _)
    | (with_reducible refine LeO.ite ?_ ?_)
    | (with_reducible refine LeO.bind ?_ (fun _ => ?_))
    | exact ih0 _
    | exact g5_.1 _ _ _ _
    | exact LeO.none _
    | refine LeO.ite ?_ ?_
    | refine LeO.bind ?_ (fun _ => ?_)
theorem impl_readPart.mono : ∀ a0 k, LeO (impl_readPart.f k a0) (impl_readPart.f (k + 1) a0) := by
 intro a0 k
 obtain ⟨ih0, ih1, ih2⟩ := (readSame_readPart_c.mono_l k).1
 exact ih0 a0
theorem impl_readRowC.mono : ∀ a0 a1 a2 a3 k, LeO (impl_readRowC.f k a0 a1 a2 a3) (impl_readRowC.f (k + 1) a0 a1 a2 a3) := by
 intro a0 a1 a2 a3 k
 obtain ⟨ih0, ih1⟩ := (readSame_readPart_c.mono_l k).2.1
 exact ih0 a0 a1 a2 a3
theorem impl_readAnd.mono : ∀ a0 k, LeO (impl_readAnd.f k a0) (impl_readAnd.f (k + 1) a0) := by
 intro a0 k
 have ih0 := (readSame_readPart_c.mono_l k).2.2.1
 exact ih0 a0
theorem impl_readRowB.mono : ∀ a0 a1 a2 a3 k, LeO (impl_readRowB.f k a0 a1 a2 a3) (impl_readRowB.f (k + 1) a0 a1 a2 a3) := by
 intro a0 a1 a2 a3 k
 obtain ⟨ih0, ih1⟩ := (readSame_readPart_c.mono_l k).2.2.2.1
 exact ih0 a0 a1 a2 a3
theorem impl_readOr.mono : ∀ a0 k, LeO (impl_readOr.f k a0) (impl_readOr.f (k + 1) a0) := by
 intro a0 k
 have ih0 := (readSame_readPart_c.mono_l k).2.2.2.2.1
 exact ih0 a0
theorem impl_readRowA.mono : ∀ a0 a1 a2 a3 k, LeO (impl_readRowA.f k a0 a1 a2 a3) (impl_readRowA.f (k + 1) a0 a1 a2 a3) := by
 intro a0 a1 a2 a3 k
 obtain ⟨ih0, ih1⟩ := (readSame_readPart_c.mono_l k).2.2.2.2.2.1
 exact ih0 a0 a1 a2 a3
theorem impl_readSame.mono : ∀ a0 k, LeO (impl_readSame.f k a0) (impl_readSame.f (k + 1) a0) := by
 intro a0 k
 have ih0 := (readSame_readPart_c.mono_l k).2.2.2.2.2.2
 exact ih0 a0
set_option maxHeartbeats 8000000 in
set_option maxRecDepth 100000 in
theorem impl_readPart.step (k : Nat) (h0_ : ∀ m_, m_ < k → ∀ (a0 : ByteArray) (r1 : List (S62)) (r2 : ByteArray) (r3 : Bool) (w : World) (h : impl_readPart.f m_ a0 = some (r1, r2, r3)),
  Calls Try.prog 107 #[.string a0] w fun e w' => ∃ v0_ : Value, e = .returned (.tuple #[v0_, .string r2, .bool r3]) ∧ Kd.R k62 62 w' w.heap.size (fun _ => True) v0_ r1 ∧ Below w.heap.size w w') (h1_ : ∀ m_, m_ < k → ∀ (a0 : ByteArray) (a1 : ByteArray) (a2 : Int) (a3 : Int) (r1 : List (S62)) (r2 : ByteArray) (r3 : Bool) (w : World) (h : impl_readRowC.f m_ a0 a1 a2 a3 = some (r1, r2, r3)),
  Calls Try.prog 89 #[.string a0, .string a1, .int .i64 a2, .func (.func 107) #[] #[]] w fun e w' => ∃ v0_ : Value, e = .returned (.tuple #[v0_, .string r2, .bool r3]) ∧ Kd.R k62 62 w' w.heap.size (fun _ => True) v0_ r1 ∧ Below w.heap.size w w') (h2_ : ∀ m_, m_ < k → ∀ (a0 : ByteArray) (r1 : List (S62)) (r2 : ByteArray) (r3 : Bool) (w : World) (h : impl_readAnd.f m_ a0 = some (r1, r2, r3)),
  Calls Try.prog 102 #[.string a0] w fun e w' => ∃ v0_ : Value, e = .returned (.tuple #[v0_, .string r2, .bool r3]) ∧ Kd.R k62 62 w' w.heap.size (fun _ => True) v0_ r1 ∧ Below w.heap.size w w') (h3_ : ∀ m_, m_ < k → ∀ (a0 : ByteArray) (a1 : ByteArray) (a2 : Int) (a3 : Int) (r1 : List (S62)) (r2 : ByteArray) (r3 : Bool) (w : World) (h : impl_readRowB.f m_ a0 a1 a2 a3 = some (r1, r2, r3)),
  Calls Try.prog 89 #[.string a0, .string a1, .int .i64 a2, .func (.func 102) #[] #[]] w fun e w' => ∃ v0_ : Value, e = .returned (.tuple #[v0_, .string r2, .bool r3]) ∧ Kd.R k62 62 w' w.heap.size (fun _ => True) v0_ r1 ∧ Below w.heap.size w w') (h4_ : ∀ m_, m_ < k → ∀ (a0 : ByteArray) (r1 : List (S62)) (r2 : ByteArray) (r3 : Bool) (w : World) (h : impl_readOr.f m_ a0 = some (r1, r2, r3)),
  Calls Try.prog 90 #[.string a0] w fun e w' => ∃ v0_ : Value, e = .returned (.tuple #[v0_, .string r2, .bool r3]) ∧ Kd.R k62 62 w' w.heap.size (fun _ => True) v0_ r1 ∧ Below w.heap.size w w') (h5_ : ∀ m_, m_ < k → ∀ (a0 : ByteArray) (a1 : ByteArray) (a2 : Int) (a3 : Int) (r1 : List (S62)) (r2 : ByteArray) (r3 : Bool) (w : World) (h : impl_readRowA.f m_ a0 a1 a2 a3 = some (r1, r2, r3)),
  Calls Try.prog 89 #[.string a0, .string a1, .int .i64 a2, .func (.func 90) #[] #[]] w fun e w' => ∃ v0_ : Value, e = .returned (.tuple #[v0_, .string r2, .bool r3]) ∧ Kd.R k62 62 w' w.heap.size (fun _ => True) v0_ r1 ∧ Below w.heap.size w w') (h6_ : ∀ m_, m_ < k → ∀ (a0 : ByteArray) (r1 : List (S62)) (r2 : ByteArray) (r3 : Bool) (w : World) (h : impl_readSame.f m_ a0 = some (r1, r2, r3)),
  Calls Try.prog 63 #[.string a0] w fun e w' => ∃ v0_ : Value, e = .returned (.tuple #[v0_, .string r2, .bool r3]) ∧ Kd.R k62 62 w' w.heap.size (fun _ => True) v0_ r1 ∧ Below w.heap.size w w') : ∀ (a0 : ByteArray) (r1 : List (S62)) (r2 : ByteArray) (r3 : Bool) (w : World) (h : impl_readPart.f k a0 = some (r1, r2, r3)),
  Calls Try.prog 107 #[.string a0] w fun e w' => ∃ v0_ : Value, e = .returned (.tuple #[v0_, .string r2, .bool r3]) ∧ Kd.R k62 62 w' w.heap.size (fun _ => True) v0_ r1 ∧ Below w.heap.size w w' := by
 have ih := h0_
 intro a0 r1 r2 r3 w h
 cases k with
 | zero => exact absurd h (by simp [impl_readPart.f])
 | succ k =>
 simp only [impl_readPart.f] at h
 have hu62 := Try.underlying62
 have HB := Aside0.mk (Below.refl w.heap.size w)
 have H : (if a0.toList = ([] : List UInt8) then (some (([] : List (S62)), a0, false)) else (if 0 < (a0.size : Int) then (if 1 ≤ (a0.size : Int) then (if (bt a0 0) ≥ 97 then (impl_readPart.j0 k a0 (bt a0 0) (a0.extract 1 a0.size) (decide ((bt a0 0) ≤ 122))) else (impl_readPart.j0 k a0 (bt a0 0) (a0.extract 1 a0.size) false)) else (none)) else (none))) = some (r1, r2, r3) := h
 clear h
 by_cases c2 : a0.toList = ([] : List UInt8)
 ·rw [if_pos c2] at H
  have c2b0 : (a0.toList == ([] : List UInt8)) = true := beq_iff_eq.mpr c2
  have c2b1 : (a0.toList != ([] : List UInt8)) = false := bne_eq_false_iff_eq.mpr c2
  clear c2
  simp only [Option.some.injEq, Prod.mk.injEq] at H
  obtain ⟨rfl, rfl, rfl⟩ := H
  go_enter Try.func107, Try.ntmps107
  go_wp2
  repeat (go_quiet (fail); try go_wp2)
  go_ret3
  exact ⟨_, by first | rfl | (simp [errW_none, errW_some] <;> rfl) | (simp [*, errW_none, errW_some] <;> rfl), by first | exact Kd.R_nil _ _ _ _ _ | exact Kd.N_nil _ _ _ _ _ | exact Kd.V_nil _ _ _ _ _ | exact Kd.Q_nil _ _ _ _ _ | exact Kd.S_nil _ _ _ _ _, pwi_⟩
 ·rw [if_neg c2] at H
  have c2b0 : (a0.toList == ([] : List UInt8)) = false := beq_eq_false_iff_ne.mpr c2
  have c2b1 : (a0.toList != ([] : List UInt8)) = true := bne_iff_ne.mpr c2
  by_cases c3 : 0 < (a0.size : Int)
  ·rw [if_pos c3] at H
   have c3b0 : decide (0 < (a0.size : Int)) = true := decide_eq_true c3
   have c3b1 : decide (0 < a0.size) = true := decide_eq_true (by omega)
   clear c3
   by_cases c5 : 1 ≤ (a0.size : Int)
   ·rw [if_pos c5] at H
    have c5b0 := eq_true c5
    have c5b1 : decide (1 ≤ (a0.size : Int)) = true := decide_eq_true c5
    clear c5
    have HC6 := Aside0.mk H
    clear H
    have p4 : 0 ≤ (0 : Int) := (by omega)
    have q4 : 0 < a0.size := (by have : (0 : Int) < (a0.size : Int) := of_decide_eq_true pwb_; omega)
    have hx4 : ∀ h : 0 < a0.size, ((a0[0]'h).toNat : Int) = bt a0 0 := bt_at a0 0
    clear p4
    have qi4 : (0 < (a0.size : Int)) = True := eq_true (of_decide_eq_true pwb_)
    replace q4 := eq_true q4
    go_enter Try.func107, Try.ntmps107
    go_upto_region 4 with (fail)
    repeat (go_quiet (fail); go_upto_region 4 with (fail))
    go_cut [21] (fun v21 wc => ∃ (kq : Nat) (x21_5 : Bool), v21 = .bool x21_5 ∧ Aside0 (impl_readPart.j0 kq a0 (bt a0 0) (a0.extract 1 a0.size) x21_5 = some (r1, r2, r3)) ∧ Aside0 (kq ≤ k) ∧ Aside0 (Below w.heap.size w wc))
    case first =>
     have H := HC6.out
     clear HC6
     by_cases c7 : (bt a0 0) ≥ 97
     ·rw [if_pos c7] at H
      have c7b0 : decide (97 ≤ (bt a0 0)) = true := decide_eq_true c7
      clear c7
      (first | rw [c7b0] | (simp only [i64_w, i32_w]; rw [c7b0]) | skip)
      have H' := Aside0.mk H
      clear H
      go_wp2
      repeat (go_quiet (fail); try go_wp2)
      go_meet
      case rel => exact ⟨_, (decide ((bt a0 0) ≤ 122)), pwa_, H', ⟨by first | omega | exact Nat.le_refl _⟩, ⟨pwi_⟩⟩
     ·rw [if_neg c7] at H
      have c7b0 : decide (97 ≤ (bt a0 0)) = false := decide_eq_false c7
      clear c7
      (first | rw [c7b0] | (simp only [i64_w, i32_w]; rw [c7b0]) | skip)
      have H' := Aside0.mk H
      clear H
      go_wp2
      repeat (go_quiet (fail); try go_wp2)
      go_meet
      case rel => exact ⟨_, (false), pwa_, H', ⟨by first | omega | exact Nat.le_refl _⟩, ⟨pwi_⟩⟩
    case rest =>
     clear HC6
     try clear c1
     try clear c2
     try clear c2b0
     try clear c2b1
     try clear p2
     try clear c3
     try clear c3b0
     try clear c3b1
     try clear p4
     try clear q4
     try clear hx4
     try clear qi4
     try clear c5
     try clear c5b0
     try clear c5b1
     try clear c7
     try clear c7b0
     try clear p4
     try clear q4
     obtain ⟨kq, x21_5, rfl, HA, HJ5, HB⟩ := hcut
     cases kq with
     | zero => exact absurd HA.out (by simp [impl_readPart.j0])
     | succ kj5 =>
      have H := HA.out
      clear HA
      simp only [impl_readPart.j0] at H
      by_cases c8 : x21_5 = true
      ·subst c8
       have H1 : (some ((([(⟨0, ((bt a0 0) - 97) % 256⟩ : S62)] : List (S62))), (a0.extract 1 a0.size), true)) = some (r1, r2, r3) := by rw [if_pos rfl] at H; exact H
       clear H
       have H := H1
       clear H1
       obtain ⟨y371, hy371⟩ : ∃ y_ : List (S62), y_ = (([(⟨0, ((bt a0 0) - 97) % 256⟩ : S62)] : List (S62))) := ⟨_, rfl⟩
       replace H : (some (y371, (a0.extract 1 a0.size), true)) = some (r1, r2, r3) := by first | (rw [hy371]; with_reducible exact H) | (have H2_ := (Option.bind_some _ _).symm.trans H; rw [hy371]; with_reducible exact H2_) | (have H2_ := (Option.bind_some _ _).symm.trans H; with_reducible exact H2_) | with_reducible exact H | (rw [hy371]; exact H) | exact H
       have Ny371 := Aside0.mk hy371
       clear hy371
       simp only [Option.some.injEq, Prod.mk.injEq] at H
       obtain ⟨rfl, rfl, rfl⟩ := H
       go_wp2_with (first | ((with_reducible refine gate_dst (N := 32) rfl ?_); refine Kd.R_lit k62 _ 62 ?hg (N := 32) ?hd (xs := ([(⟨0, ((bt a0 0) - 97) % 256⟩ : S62)] : List (S62))) (inner := [.int .i64 0, .int .i64 (((bt a0 0) - 97) % 256)]) (ok := fun _ => True) (okp := fun _ => True) ?hr ?hp (fun _ hk => hk) trivial (Below.refl _ _) (Nat.le_refl _) (by simp) ?_; (case hd => rfl); (case hg => rfl); (case hr => first | (go_simp; done) | (go_simp; rfl)); (case hp => exact (Reps.c2 (show Kd.M k62 _ _ _ (⟨0, ((bt a0 0) - 97) % 256⟩ : S62) [.int .i64 0, .int .i64 (((bt a0 0) - 97) % 256)] from (k62_mkM _ _ _ (⟨0, ((bt a0 0) - 97) % 256⟩ : S62) )) (Reps.none _ _))); intro v372 w9 ho10 hb hg_ hnew_; clear hg_ hnew_; (first | rw [← Ny371.out] at ho10 | (simp only [Int.reduceToNat] at ho10; rw [← Ny371.out] at ho10)); have n0_ := Aside0.mk (Kd.R_lower ho10 (below_size pwi_)); have n1_ := Aside0.mk (below_step pwi_ hb); clear HB; have HO373 := n0_; have HB := n1_; clear n0_ n1_; clear hb ho10))
       repeat (go_quiet (first | ((with_reducible refine gate_dst (N := 32) rfl ?_); refine Kd.R_lit k62 _ 62 ?hg (N := 32) ?hd (xs := ([(⟨0, ((bt a0 0) - 97) % 256⟩ : S62)] : List (S62))) (inner := [.int .i64 0, .int .i64 (((bt a0 0) - 97) % 256)]) (ok := fun _ => True) (okp := fun _ => True) ?hr ?hp (fun _ hk => hk) trivial (Below.refl _ _) (Nat.le_refl _) (by simp) ?_; (case hd => rfl); (case hg => rfl); (case hr => first | (go_simp; done) | (go_simp; rfl)); (case hp => exact (Reps.c2 (show Kd.M k62 _ _ _ (⟨0, ((bt a0 0) - 97) % 256⟩ : S62) [.int .i64 0, .int .i64 (((bt a0 0) - 97) % 256)] from (k62_mkM _ _ _ (⟨0, ((bt a0 0) - 97) % 256⟩ : S62) )) (Reps.none _ _))); intro v372 w9 ho10 hb hg_ hnew_; clear hg_ hnew_; (first | rw [← Ny371.out] at ho10 | (simp only [Int.reduceToNat] at ho10; rw [← Ny371.out] at ho10)); have n0_ := Aside0.mk (Kd.R_lower ho10 (below_size pwi_)); have n1_ := Aside0.mk (below_step pwi_ hb); clear HB; have HO373 := n0_; have HB := n1_; clear n0_ n1_; clear hb ho10)); try go_wp2_with (first | ((with_reducible refine gate_dst (N := 32) rfl ?_); refine Kd.R_lit k62 _ 62 ?hg (N := 32) ?hd (xs := ([(⟨0, ((bt a0 0) - 97) % 256⟩ : S62)] : List (S62))) (inner := [.int .i64 0, .int .i64 (((bt a0 0) - 97) % 256)]) (ok := fun _ => True) (okp := fun _ => True) ?hr ?hp (fun _ hk => hk) trivial (Below.refl _ _) (Nat.le_refl _) (by simp) ?_; (case hd => rfl); (case hg => rfl); (case hr => first | (go_simp; done) | (go_simp; rfl)); (case hp => exact (Reps.c2 (show Kd.M k62 _ _ _ (⟨0, ((bt a0 0) - 97) % 256⟩ : S62) [.int .i64 0, .int .i64 (((bt a0 0) - 97) % 256)] from (k62_mkM _ _ _ (⟨0, ((bt a0 0) - 97) % 256⟩ : S62) )) (Reps.none _ _))); intro v372 w9 ho10 hb hg_ hnew_; clear hg_ hnew_; (first | rw [← Ny371.out] at ho10 | (simp only [Int.reduceToNat] at ho10; rw [← Ny371.out] at ho10)); have n0_ := Aside0.mk (Kd.R_lower ho10 (below_size pwi_)); have n1_ := Aside0.mk (below_step pwi_ hb); clear HB; have HO373 := n0_; have HB := n1_; clear n0_ n1_; clear hb ho10)))
       go_ret3
       exact ⟨_, by first | rfl | (simp [errW_none, errW_some] <;> rfl) | (simp [*, errW_none, errW_some] <;> rfl), by (with_reducible repeat apply Kd.R_alloc); exact HO373.out, pwi_⟩
      ·replace c8 := Bool.eq_false_iff.mpr c8
       subst c8
       have H1 : (if (bt a0 0) ≥ 48 then (impl_readPart.j1 kj5 a0 (bt a0 0) (a0.extract 1 a0.size) (decide ((bt a0 0) ≤ 57))) else (impl_readPart.j1 kj5 a0 (bt a0 0) (a0.extract 1 a0.size) false)) = some (r1, r2, r3) := by rw [if_neg (show ¬ (false = true) by decide)] at H; exact H
       clear H
       have H := H1
       clear H1
       have HC11 := Aside0.mk H
       clear H
       go_upto_region 6 with (fail)
       repeat (go_quiet (fail); go_upto_region 6 with (fail))
       go_cut [34] (fun v34 wc => ∃ (kq : Nat) (x34_10 : Bool), v34 = .bool x34_10 ∧ Aside0 (impl_readPart.j1 kq a0 (bt a0 0) (a0.extract 1 a0.size) x34_10 = some (r1, r2, r3)) ∧ Aside0 (kq ≤ kj5) ∧ Aside0 (Below w.heap.size w wc))
       case first =>
        have H := HC11.out
        clear HC11
        by_cases c12 : (bt a0 0) ≥ 48
        ·rw [if_pos c12] at H
         have c12b0 : decide (48 ≤ (bt a0 0)) = true := decide_eq_true c12
         clear c12
         (first | rw [c12b0] | (simp only [i64_w, i32_w]; rw [c12b0]) | skip)
         have H' := Aside0.mk H
         clear H
         go_wp2
         repeat (go_quiet (fail); try go_wp2)
         go_meet
         case rel => exact ⟨_, (decide ((bt a0 0) ≤ 57)), pwa_, H', ⟨by have := HJ5.out; first | omega | exact Nat.le_refl _⟩, ⟨pwi_⟩⟩
        ·rw [if_neg c12] at H
         have c12b0 : decide (48 ≤ (bt a0 0)) = false := decide_eq_false c12
         clear c12
         (first | rw [c12b0] | (simp only [i64_w, i32_w]; rw [c12b0]) | skip)
         have H' := Aside0.mk H
         clear H
         go_wp2
         repeat (go_quiet (fail); try go_wp2)
         go_meet
         case rel => exact ⟨_, (false), pwa_, H', ⟨by have := HJ5.out; first | omega | exact Nat.le_refl _⟩, ⟨pwi_⟩⟩
       case rest =>
        clear HC11
        try clear c1
        try clear c2
        try clear c2b0
        try clear c2b1
        try clear p2
        try clear c3
        try clear c3b0
        try clear c3b1
        try clear p4
        try clear q4
        try clear hx4
        try clear qi4
        try clear c5
        try clear c5b0
        try clear c5b1
        try clear c7
        try clear c7b0
        try clear c8
        try clear c10
        try clear c12
        try clear c12b0
        try clear p2
        try clear p4
        try clear q4
        obtain ⟨kq, x34_10, rfl, HA, HJ10, HB⟩ := hcut
        cases kq with
        | zero => exact absurd HA.out (by simp [impl_readPart.j1])
        | succ kj10 =>
         have H := HA.out
         clear HA
         simp only [impl_readPart.j1] at H
         by_cases c13 : x34_10 = true
         ·subst c13
          have H1 : (some ((([(⟨1, ((bt a0 0) - 48) % 256⟩ : S62)] : List (S62))), (a0.extract 1 a0.size), true)) = some (r1, r2, r3) := by rw [if_pos rfl] at H; exact H
          clear H
          have H := H1
          clear H1
          obtain ⟨y374, hy374⟩ : ∃ y_ : List (S62), y_ = (([(⟨1, ((bt a0 0) - 48) % 256⟩ : S62)] : List (S62))) := ⟨_, rfl⟩
          replace H : (some (y374, (a0.extract 1 a0.size), true)) = some (r1, r2, r3) := by first | (rw [hy374]; with_reducible exact H) | (have H2_ := (Option.bind_some _ _).symm.trans H; rw [hy374]; with_reducible exact H2_) | (have H2_ := (Option.bind_some _ _).symm.trans H; with_reducible exact H2_) | with_reducible exact H | (rw [hy374]; exact H) | exact H
          have Ny374 := Aside0.mk hy374
          clear hy374
          simp only [Option.some.injEq, Prod.mk.injEq] at H
          obtain ⟨rfl, rfl, rfl⟩ := H
          go_wp2_with (first | ((with_reducible refine gate_dst (N := 45) rfl ?_); refine Kd.R_lit k62 _ 62 ?hg (N := 45) ?hd (xs := ([(⟨1, ((bt a0 0) - 48) % 256⟩ : S62)] : List (S62))) (inner := [.int .i64 1, .int .i64 (((bt a0 0) - 48) % 256)]) (ok := fun _ => True) (okp := fun _ => True) ?hr ?hp (fun _ hk => hk) trivial (Below.refl _ _) (Nat.le_refl _) (by simp) ?_; (case hd => rfl); (case hg => rfl); (case hr => first | (go_simp; done) | (go_simp; rfl)); (case hp => exact (Reps.c2 (show Kd.M k62 _ _ _ (⟨1, ((bt a0 0) - 48) % 256⟩ : S62) [.int .i64 1, .int .i64 (((bt a0 0) - 48) % 256)] from (k62_mkM _ _ _ (⟨1, ((bt a0 0) - 48) % 256⟩ : S62) )) (Reps.none _ _))); intro v375 w14 ho15 hb hg_ hnew_; clear hg_ hnew_; (first | rw [← Ny374.out] at ho15 | (simp only [Int.reduceToNat] at ho15; rw [← Ny374.out] at ho15)); have n0_ := Aside0.mk (Kd.R_lower ho15 (below_size pwi_)); have n1_ := Aside0.mk (below_step pwi_ hb); clear HB; have HO376 := n0_; have HB := n1_; clear n0_ n1_; clear hb ho15))
          repeat (go_quiet (first | ((with_reducible refine gate_dst (N := 45) rfl ?_); refine Kd.R_lit k62 _ 62 ?hg (N := 45) ?hd (xs := ([(⟨1, ((bt a0 0) - 48) % 256⟩ : S62)] : List (S62))) (inner := [.int .i64 1, .int .i64 (((bt a0 0) - 48) % 256)]) (ok := fun _ => True) (okp := fun _ => True) ?hr ?hp (fun _ hk => hk) trivial (Below.refl _ _) (Nat.le_refl _) (by simp) ?_; (case hd => rfl); (case hg => rfl); (case hr => first | (go_simp; done) | (go_simp; rfl)); (case hp => exact (Reps.c2 (show Kd.M k62 _ _ _ (⟨1, ((bt a0 0) - 48) % 256⟩ : S62) [.int .i64 1, .int .i64 (((bt a0 0) - 48) % 256)] from (k62_mkM _ _ _ (⟨1, ((bt a0 0) - 48) % 256⟩ : S62) )) (Reps.none _ _))); intro v375 w14 ho15 hb hg_ hnew_; clear hg_ hnew_; (first | rw [← Ny374.out] at ho15 | (simp only [Int.reduceToNat] at ho15; rw [← Ny374.out] at ho15)); have n0_ := Aside0.mk (Kd.R_lower ho15 (below_size pwi_)); have n1_ := Aside0.mk (below_step pwi_ hb); clear HB; have HO376 := n0_; have HB := n1_; clear n0_ n1_; clear hb ho15)); try go_wp2_with (first | ((with_reducible refine gate_dst (N := 45) rfl ?_); refine Kd.R_lit k62 _ 62 ?hg (N := 45) ?hd (xs := ([(⟨1, ((bt a0 0) - 48) % 256⟩ : S62)] : List (S62))) (inner := [.int .i64 1, .int .i64 (((bt a0 0) - 48) % 256)]) (ok := fun _ => True) (okp := fun _ => True) ?hr ?hp (fun _ hk => hk) trivial (Below.refl _ _) (Nat.le_refl _) (by simp) ?_; (case hd => rfl); (case hg => rfl); (case hr => first | (go_simp; done) | (go_simp; rfl)); (case hp => exact (Reps.c2 (show Kd.M k62 _ _ _ (⟨1, ((bt a0 0) - 48) % 256⟩ : S62) [.int .i64 1, .int .i64 (((bt a0 0) - 48) % 256)] from (k62_mkM _ _ _ (⟨1, ((bt a0 0) - 48) % 256⟩ : S62) )) (Reps.none _ _))); intro v375 w14 ho15 hb hg_ hnew_; clear hg_ hnew_; (first | rw [← Ny374.out] at ho15 | (simp only [Int.reduceToNat] at ho15; rw [← Ny374.out] at ho15)); have n0_ := Aside0.mk (Kd.R_lower ho15 (below_size pwi_)); have n1_ := Aside0.mk (below_step pwi_ hb); clear HB; have HO376 := n0_; have HB := n1_; clear n0_ n1_; clear hb ho15)))
          go_ret3
          exact ⟨_, by first | rfl | (simp [errW_none, errW_some] <;> rfl) | (simp [*, errW_none, errW_some] <;> rfl), by (with_reducible repeat apply Kd.R_alloc); exact HO376.out, pwi_⟩
         ·replace c13 := Bool.eq_false_iff.mpr c13
          subst c13
          have H1 : (if (bt a0 0) = 33 then ((impl_readPart.f kj10 (a0.extract 1 a0.size)).bind fun bt377 => (if bt377.1.length < 8796093022208 then (some ((bt377.1 ++ [(⟨2, 0⟩ : S62)]), bt377.2.1, bt377.2.2)) else (none))) else (if (bt a0 0) = 40 then ((impl_readSame.f kj10 (a0.extract 1 a0.size)).bind fun bt385 => ((strings_CutPrefix.f bt385.2.1 (⟨#[41]⟩ : ByteArray)).bind fun bt390 => (if bt385.2.2 = true then (some (bt385.1, bt390.1, bt390.2)) else (some (bt385.1, bt390.1, false))))) else (some (([] : List (S62)), a0, false)))) = some (r1, r2, r3) := by rw [if_neg (show ¬ (false = true) by decide)] at H; exact H
          clear H
          have H := H1
          clear H1
          by_cases c16 : (bt a0 0) = 33
          ·rw [if_pos c16] at H
           have c16b0 : ((bt a0 0) == 33) = true := beq_iff_eq.mpr c16
           have c16b1 : ((bt a0 0) != 33) = false := bne_eq_false_iff_eq.mpr c16
           clear c16
           replace H := Option.bind_eq_some_iff.mp H
           obtain ⟨⟨t377, t378, t379⟩, A170, H⟩ := H
           replace H : (if t377.length < 8796093022208 then (some ((t377 ++ [(⟨2, 0⟩ : S62)]), t378, t379)) else (none)) = some (r1, r2, r3) := H
           have A17 := Aside0.mk A170
           clear A170
           by_cases c18 : t377.length < 8796093022208
           ·rw [if_pos c18] at H
            have LMc18 := Aside0.mk c18
            clear c18
            obtain ⟨y382, hy382⟩ : ∃ y_ : List (S62), y_ = (t377 ++ [(⟨2, 0⟩ : S62)]) := ⟨_, rfl⟩
            replace H : (some (y382, t378, t379)) = some (r1, r2, r3) := by first | (rw [hy382]; with_reducible exact H) | (have H2_ := (Option.bind_some _ _).symm.trans H; rw [hy382]; with_reducible exact H2_) | (have H2_ := (Option.bind_some _ _).symm.trans H; with_reducible exact H2_) | with_reducible exact H | (rw [hy382]; exact H) | exact H
            have Ny382 := Aside0.mk hy382
            clear hy382
            simp only [Option.some.injEq, Prod.mk.injEq] at H
            obtain ⟨rfl, rfl, rfl⟩ := H
            go_wp2_with (first | (go_at_call 107; (with_reducible refine (ih kj10 (by have := HJ5.out; have := HJ10.out; omega) (a0.extract 1 a0.size) t377 t378 t379 _ A17.out).mono ?_); rintro e w19 ⟨v380, rfl, ho0, hb⟩; have n0_ := Aside0.mk (Kd.R_lower ho0 (below_size pwi_)); have n1_ := Aside0.mk (below_step pwi_ hb); clear HB; have HO381 := n0_; have HB := n1_; clear n0_ n1_; (try clear hb); (try clear hb2); (try clear hk); (try clear hi); (try clear ho0)) | ((with_reducible refine gate_builtin (b := .append) (xs := #[.tmp 56, .tmp 58]) rfl ?_); at_builtin; refine Kd.R_append k62 (w0 := w) w.heap.size rfl (.tmp 56) (.tmp 58) 25 62 (.agg #[(.int .i64 0), (.int .i64 0)]) 16 rfl Try.underlying25 info62 rfl (by decide) (by omega) v380 t377 (⟨2, 0⟩ : S62) [.int .i64 2, .int .i64 0] (fun _ => True) (fun _ => False) rfl rfl ?aP (fun _ hk => hk.elim) ?aF ?aO ?aB ?aS ?aL ?_; (case aP => exact k62_mkM _ _ _ (⟨2, 0⟩ : S62)); (case aB => exact pwi_); (case aF => exact (fun _ _ => trivial)); (case aO => exact (by (with_reducible repeat apply Kd.R_alloc); exact HO381.out)); (case aS => exact (below_size pwi_)); (case aL => have := LMc18.out; omega); intro v383 w20 ho hb hg hat; rw [← Ny382.out] at ho; have n0_ := Aside0.mk (hb); have n1_ := Aside0.mk (ho); clear HB; clear HO381; have HB := n0_; have HO384 := n1_; clear n0_ n1_; clear ho hb hg hat))
            repeat (go_quiet (first | (go_at_call 107; (with_reducible refine (ih kj10 (by have := HJ5.out; have := HJ10.out; omega) (a0.extract 1 a0.size) t377 t378 t379 _ A17.out).mono ?_); rintro e w19 ⟨v380, rfl, ho0, hb⟩; have n0_ := Aside0.mk (Kd.R_lower ho0 (below_size pwi_)); have n1_ := Aside0.mk (below_step pwi_ hb); clear HB; have HO381 := n0_; have HB := n1_; clear n0_ n1_; (try clear hb); (try clear hb2); (try clear hk); (try clear hi); (try clear ho0)) | ((with_reducible refine gate_builtin (b := .append) (xs := #[.tmp 56, .tmp 58]) rfl ?_); at_builtin; refine Kd.R_append k62 (w0 := w) w.heap.size rfl (.tmp 56) (.tmp 58) 25 62 (.agg #[(.int .i64 0), (.int .i64 0)]) 16 rfl Try.underlying25 info62 rfl (by decide) (by omega) v380 t377 (⟨2, 0⟩ : S62) [.int .i64 2, .int .i64 0] (fun _ => True) (fun _ => False) rfl rfl ?aP (fun _ hk => hk.elim) ?aF ?aO ?aB ?aS ?aL ?_; (case aP => exact k62_mkM _ _ _ (⟨2, 0⟩ : S62)); (case aB => exact pwi_); (case aF => exact (fun _ _ => trivial)); (case aO => exact (by (with_reducible repeat apply Kd.R_alloc); exact HO381.out)); (case aS => exact (below_size pwi_)); (case aL => have := LMc18.out; omega); intro v383 w20 ho hb hg hat; rw [← Ny382.out] at ho; have n0_ := Aside0.mk (hb); have n1_ := Aside0.mk (ho); clear HB; clear HO381; have HB := n0_; have HO384 := n1_; clear n0_ n1_; clear ho hb hg hat)); try go_wp2_with (first | (go_at_call 107; (with_reducible refine (ih kj10 (by have := HJ5.out; have := HJ10.out; omega) (a0.extract 1 a0.size) t377 t378 t379 _ A17.out).mono ?_); rintro e w19 ⟨v380, rfl, ho0, hb⟩; have n0_ := Aside0.mk (Kd.R_lower ho0 (below_size pwi_)); have n1_ := Aside0.mk (below_step pwi_ hb); clear HB; have HO381 := n0_; have HB := n1_; clear n0_ n1_; (try clear hb); (try clear hb2); (try clear hk); (try clear hi); (try clear ho0)) | ((with_reducible refine gate_builtin (b := .append) (xs := #[.tmp 56, .tmp 58]) rfl ?_); at_builtin; refine Kd.R_append k62 (w0 := w) w.heap.size rfl (.tmp 56) (.tmp 58) 25 62 (.agg #[(.int .i64 0), (.int .i64 0)]) 16 rfl Try.underlying25 info62 rfl (by decide) (by omega) v380 t377 (⟨2, 0⟩ : S62) [.int .i64 2, .int .i64 0] (fun _ => True) (fun _ => False) rfl rfl ?aP (fun _ hk => hk.elim) ?aF ?aO ?aB ?aS ?aL ?_; (case aP => exact k62_mkM _ _ _ (⟨2, 0⟩ : S62)); (case aB => exact pwi_); (case aF => exact (fun _ _ => trivial)); (case aO => exact (by (with_reducible repeat apply Kd.R_alloc); exact HO381.out)); (case aS => exact (below_size pwi_)); (case aL => have := LMc18.out; omega); intro v383 w20 ho hb hg hat; rw [← Ny382.out] at ho; have n0_ := Aside0.mk (hb); have n1_ := Aside0.mk (ho); clear HB; clear HO381; have HB := n0_; have HO384 := n1_; clear n0_ n1_; clear ho hb hg hat)))
            go_ret3
            exact ⟨_, by first | rfl | (simp [errW_none, errW_some] <;> rfl) | (simp [*, errW_none, errW_some] <;> rfl), by (with_reducible repeat apply Kd.R_alloc); exact HO384.out, pwi_⟩
           ·rw [if_neg c18] at H
            exact absurd H (by simp)
          ·rw [if_neg c16] at H
           have c16b0 : ((bt a0 0) == 33) = false := beq_eq_false_iff_ne.mpr c16
           have c16b1 : ((bt a0 0) != 33) = true := bne_iff_ne.mpr c16
           by_cases c21 : (bt a0 0) = 40
           ·rw [if_pos c21] at H
            have c21b0 : ((bt a0 0) == 40) = true := beq_iff_eq.mpr c21
            have c21b1 : ((bt a0 0) != 40) = false := bne_eq_false_iff_eq.mpr c21
            clear c21
            replace H := Option.bind_eq_some_iff.mp H
            obtain ⟨⟨t385, t386, t387⟩, A220, H⟩ := H
            replace H : ((strings_CutPrefix.f t386 (⟨#[41]⟩ : ByteArray)).bind fun bt390 => (if t387 = true then (some (t385, bt390.1, bt390.2)) else (some (t385, bt390.1, false)))) = some (r1, r2, r3) := H
            have A22 := Aside0.mk A220
            clear A220
            replace H := Option.bind_eq_some_iff.mp H
            obtain ⟨⟨t390, t391⟩, A230, H⟩ := H
            replace H : (if t387 = true then (some (t385, t390, t391)) else (some (t385, t390, false))) = some (r1, r2, r3) := H
            have A23 := Aside0.mk A230
            clear A230
            by_cases c24 : t387 = true
            ·subst c24
             have H1 : (some (t385, t390, t391)) = some (r1, r2, r3) := by rw [if_pos rfl] at H; exact H
             clear H
             have H := H1
             clear H1
             simp only [Option.some.injEq, Prod.mk.injEq] at H
             obtain ⟨rfl, rfl, rfl⟩ := H
             go_wp2_with (first | (go_at_call 63; (with_reducible refine (h6_ kj10 (by have := HJ5.out; have := HJ10.out; omega) (a0.extract 1 a0.size) t385 t386 true _ A22.out).mono ?_); rintro e w25 ⟨v388, rfl, ho0, hb⟩; have n0_ := Aside0.mk (Kd.R_lower ho0 (below_size pwi_)); have n1_ := Aside0.mk (below_step pwi_ hb); clear HB; have HO389 := n0_; have HB := n1_; clear n0_ n1_; (try clear hb); (try clear hb2); (try clear hk); (try clear hi); (try clear ho0)) | (go_at_call 101; (with_reducible refine (strings_CutPrefix.calls t386 (⟨#[41]⟩ : ByteArray) t390 t391 _ A23.out).mono ?_); rintro e w' ⟨rfl, ⟨nd, rfl⟩⟩; (try first | exact ⟨rfl, _, World.drewN_drewN _ _ _⟩ | exact ⟨rfl, _, Eq.trans (World.drewN_drewN _ _ _) (congrArg (World.drewN _) (Nat.add_assoc _ _ _))⟩)))
             repeat (go_quiet (first | (go_at_call 63; (with_reducible refine (h6_ kj10 (by have := HJ5.out; have := HJ10.out; omega) (a0.extract 1 a0.size) t385 t386 true _ A22.out).mono ?_); rintro e w25 ⟨v388, rfl, ho0, hb⟩; have n0_ := Aside0.mk (Kd.R_lower ho0 (below_size pwi_)); have n1_ := Aside0.mk (below_step pwi_ hb); clear HB; have HO389 := n0_; have HB := n1_; clear n0_ n1_; (try clear hb); (try clear hb2); (try clear hk); (try clear hi); (try clear ho0)) | (go_at_call 101; (with_reducible refine (strings_CutPrefix.calls t386 (⟨#[41]⟩ : ByteArray) t390 t391 _ A23.out).mono ?_); rintro e w' ⟨rfl, ⟨nd, rfl⟩⟩; (try first | exact ⟨rfl, _, World.drewN_drewN _ _ _⟩ | exact ⟨rfl, _, Eq.trans (World.drewN_drewN _ _ _) (congrArg (World.drewN _) (Nat.add_assoc _ _ _))⟩))); try go_wp2_with (first | (go_at_call 63; (with_reducible refine (h6_ kj10 (by have := HJ5.out; have := HJ10.out; omega) (a0.extract 1 a0.size) t385 t386 true _ A22.out).mono ?_); rintro e w25 ⟨v388, rfl, ho0, hb⟩; have n0_ := Aside0.mk (Kd.R_lower ho0 (below_size pwi_)); have n1_ := Aside0.mk (below_step pwi_ hb); clear HB; have HO389 := n0_; have HB := n1_; clear n0_ n1_; (try clear hb); (try clear hb2); (try clear hk); (try clear hi); (try clear ho0)) | (go_at_call 101; (with_reducible refine (strings_CutPrefix.calls t386 (⟨#[41]⟩ : ByteArray) t390 t391 _ A23.out).mono ?_); rintro e w' ⟨rfl, ⟨nd, rfl⟩⟩; (try first | exact ⟨rfl, _, World.drewN_drewN _ _ _⟩ | exact ⟨rfl, _, Eq.trans (World.drewN_drewN _ _ _) (congrArg (World.drewN _) (Nat.add_assoc _ _ _))⟩))))
             go_ret3
             exact ⟨_, by first | rfl | (simp [errW_none, errW_some] <;> rfl) | (simp [*, errW_none, errW_some] <;> rfl), by (with_reducible repeat apply Kd.R_alloc); exact HO389.out, pwi_⟩
            ·replace c24 := Bool.eq_false_iff.mpr c24
             subst c24
             have H1 : (some (t385, t390, false)) = some (r1, r2, r3) := by rw [if_neg (show ¬ (false = true) by decide)] at H; exact H
             clear H
             have H := H1
             clear H1
             simp only [Option.some.injEq, Prod.mk.injEq] at H
             obtain ⟨rfl, rfl, rfl⟩ := H
             go_wp2_with (first | (go_at_call 63; (with_reducible refine (h6_ kj10 (by have := HJ5.out; have := HJ10.out; omega) (a0.extract 1 a0.size) t385 t386 false _ A22.out).mono ?_); rintro e w26 ⟨v388, rfl, ho0, hb⟩; have n0_ := Aside0.mk (Kd.R_lower ho0 (below_size pwi_)); have n1_ := Aside0.mk (below_step pwi_ hb); clear HB; have HO389 := n0_; have HB := n1_; clear n0_ n1_; (try clear hb); (try clear hb2); (try clear hk); (try clear hi); (try clear ho0)) | (go_at_call 101; (with_reducible refine (strings_CutPrefix.calls t386 (⟨#[41]⟩ : ByteArray) t390 t391 _ A23.out).mono ?_); rintro e w' ⟨rfl, ⟨nd, rfl⟩⟩; (try first | exact ⟨rfl, _, World.drewN_drewN _ _ _⟩ | exact ⟨rfl, _, Eq.trans (World.drewN_drewN _ _ _) (congrArg (World.drewN _) (Nat.add_assoc _ _ _))⟩)))
             repeat (go_quiet (first | (go_at_call 63; (with_reducible refine (h6_ kj10 (by have := HJ5.out; have := HJ10.out; omega) (a0.extract 1 a0.size) t385 t386 false _ A22.out).mono ?_); rintro e w26 ⟨v388, rfl, ho0, hb⟩; have n0_ := Aside0.mk (Kd.R_lower ho0 (below_size pwi_)); have n1_ := Aside0.mk (below_step pwi_ hb); clear HB; have HO389 := n0_; have HB := n1_; clear n0_ n1_; (try clear hb); (try clear hb2); (try clear hk); (try clear hi); (try clear ho0)) | (go_at_call 101; (with_reducible refine (strings_CutPrefix.calls t386 (⟨#[41]⟩ : ByteArray) t390 t391 _ A23.out).mono ?_); rintro e w' ⟨rfl, ⟨nd, rfl⟩⟩; (try first | exact ⟨rfl, _, World.drewN_drewN _ _ _⟩ | exact ⟨rfl, _, Eq.trans (World.drewN_drewN _ _ _) (congrArg (World.drewN _) (Nat.add_assoc _ _ _))⟩))); try go_wp2_with (first | (go_at_call 63; (with_reducible refine (h6_ kj10 (by have := HJ5.out; have := HJ10.out; omega) (a0.extract 1 a0.size) t385 t386 false _ A22.out).mono ?_); rintro e w26 ⟨v388, rfl, ho0, hb⟩; have n0_ := Aside0.mk (Kd.R_lower ho0 (below_size pwi_)); have n1_ := Aside0.mk (below_step pwi_ hb); clear HB; have HO389 := n0_; have HB := n1_; clear n0_ n1_; (try clear hb); (try clear hb2); (try clear hk); (try clear hi); (try clear ho0)) | (go_at_call 101; (with_reducible refine (strings_CutPrefix.calls t386 (⟨#[41]⟩ : ByteArray) t390 t391 _ A23.out).mono ?_); rintro e w' ⟨rfl, ⟨nd, rfl⟩⟩; (try first | exact ⟨rfl, _, World.drewN_drewN _ _ _⟩ | exact ⟨rfl, _, Eq.trans (World.drewN_drewN _ _ _) (congrArg (World.drewN _) (Nat.add_assoc _ _ _))⟩))))
             go_ret3
             exact ⟨_, by first | rfl | (simp [errW_none, errW_some] <;> rfl) | (simp [*, errW_none, errW_some] <;> rfl), by (with_reducible repeat apply Kd.R_alloc); exact HO389.out, pwi_⟩
           ·rw [if_neg c21] at H
            have c21b0 : ((bt a0 0) == 40) = false := beq_eq_false_iff_ne.mpr c21
            have c21b1 : ((bt a0 0) != 40) = true := bne_iff_ne.mpr c21
            simp only [Option.some.injEq, Prod.mk.injEq] at H
            obtain ⟨rfl, rfl, rfl⟩ := H
            go_wp2
            repeat (go_quiet (fail); try go_wp2)
            go_ret3
            exact ⟨_, by first | rfl | (simp [errW_none, errW_some] <;> rfl) | (simp [*, errW_none, errW_some] <;> rfl), by first | exact Kd.R_nil _ _ _ _ _ | exact Kd.N_nil _ _ _ _ _ | exact Kd.V_nil _ _ _ _ _ | exact Kd.Q_nil _ _ _ _ _ | exact Kd.S_nil _ _ _ _ _, pwi_⟩
   ·rw [if_neg c5] at H
    exact absurd H (by simp)
  ·rw [if_neg c3] at H
   exact absurd H (by simp)
set_option maxHeartbeats 8000000 in
set_option maxRecDepth 100000 in
theorem impl_readRowC.step (k : Nat) (h0_ : ∀ m_, m_ < k → ∀ (a0 : ByteArray) (r1 : List (S62)) (r2 : ByteArray) (r3 : Bool) (w : World) (h : impl_readPart.f m_ a0 = some (r1, r2, r3)),
  Calls Try.prog 107 #[.string a0] w fun e w' => ∃ v0_ : Value, e = .returned (.tuple #[v0_, .string r2, .bool r3]) ∧ Kd.R k62 62 w' w.heap.size (fun _ => True) v0_ r1 ∧ Below w.heap.size w w') (h1_ : ∀ m_, m_ < k → ∀ (a0 : ByteArray) (a1 : ByteArray) (a2 : Int) (a3 : Int) (r1 : List (S62)) (r2 : ByteArray) (r3 : Bool) (w : World) (h : impl_readRowC.f m_ a0 a1 a2 a3 = some (r1, r2, r3)),
  Calls Try.prog 89 #[.string a0, .string a1, .int .i64 a2, .func (.func 107) #[] #[]] w fun e w' => ∃ v0_ : Value, e = .returned (.tuple #[v0_, .string r2, .bool r3]) ∧ Kd.R k62 62 w' w.heap.size (fun _ => True) v0_ r1 ∧ Below w.heap.size w w') (h2_ : ∀ m_, m_ < k → ∀ (a0 : ByteArray) (r1 : List (S62)) (r2 : ByteArray) (r3 : Bool) (w : World) (h : impl_readAnd.f m_ a0 = some (r1, r2, r3)),
  Calls Try.prog 102 #[.string a0] w fun e w' => ∃ v0_ : Value, e = .returned (.tuple #[v0_, .string r2, .bool r3]) ∧ Kd.R k62 62 w' w.heap.size (fun _ => True) v0_ r1 ∧ Below w.heap.size w w') (h3_ : ∀ m_, m_ < k → ∀ (a0 : ByteArray) (a1 : ByteArray) (a2 : Int) (a3 : Int) (r1 : List (S62)) (r2 : ByteArray) (r3 : Bool) (w : World) (h : impl_readRowB.f m_ a0 a1 a2 a3 = some (r1, r2, r3)),
  Calls Try.prog 89 #[.string a0, .string a1, .int .i64 a2, .func (.func 102) #[] #[]] w fun e w' => ∃ v0_ : Value, e = .returned (.tuple #[v0_, .string r2, .bool r3]) ∧ Kd.R k62 62 w' w.heap.size (fun _ => True) v0_ r1 ∧ Below w.heap.size w w') (h4_ : ∀ m_, m_ < k → ∀ (a0 : ByteArray) (r1 : List (S62)) (r2 : ByteArray) (r3 : Bool) (w : World) (h : impl_readOr.f m_ a0 = some (r1, r2, r3)),
  Calls Try.prog 90 #[.string a0] w fun e w' => ∃ v0_ : Value, e = .returned (.tuple #[v0_, .string r2, .bool r3]) ∧ Kd.R k62 62 w' w.heap.size (fun _ => True) v0_ r1 ∧ Below w.heap.size w w') (h5_ : ∀ m_, m_ < k → ∀ (a0 : ByteArray) (a1 : ByteArray) (a2 : Int) (a3 : Int) (r1 : List (S62)) (r2 : ByteArray) (r3 : Bool) (w : World) (h : impl_readRowA.f m_ a0 a1 a2 a3 = some (r1, r2, r3)),
  Calls Try.prog 89 #[.string a0, .string a1, .int .i64 a2, .func (.func 90) #[] #[]] w fun e w' => ∃ v0_ : Value, e = .returned (.tuple #[v0_, .string r2, .bool r3]) ∧ Kd.R k62 62 w' w.heap.size (fun _ => True) v0_ r1 ∧ Below w.heap.size w w') (h6_ : ∀ m_, m_ < k → ∀ (a0 : ByteArray) (r1 : List (S62)) (r2 : ByteArray) (r3 : Bool) (w : World) (h : impl_readSame.f m_ a0 = some (r1, r2, r3)),
  Calls Try.prog 63 #[.string a0] w fun e w' => ∃ v0_ : Value, e = .returned (.tuple #[v0_, .string r2, .bool r3]) ∧ Kd.R k62 62 w' w.heap.size (fun _ => True) v0_ r1 ∧ Below w.heap.size w w') : ∀ (a0 : ByteArray) (a1 : ByteArray) (a2 : Int) (a3 : Int) (r1 : List (S62)) (r2 : ByteArray) (r3 : Bool) (w : World) (h : impl_readRowC.f k a0 a1 a2 a3 = some (r1, r2, r3)),
  Calls Try.prog 89 #[.string a0, .string a1, .int .i64 a2, .func (.func 107) #[] #[]] w fun e w' => ∃ v0_ : Value, e = .returned (.tuple #[v0_, .string r2, .bool r3]) ∧ Kd.R k62 62 w' w.heap.size (fun _ => True) v0_ r1 ∧ Below w.heap.size w w' := by
 have ih := h1_
 intro a0 a1 a2 a3 r1 r2 r3 w h
 cases k with
 | zero => exact absurd h (by simp [impl_readRowC.f])
 | succ k =>
 simp only [impl_readRowC.f] at h
 have hu62 := Try.underlying62
 have HB := Aside0.mk (Below.refl w.heap.size w)
 have H : ((impl_readPart.f k a0).bind fun bt392 => (impl_readRowC.l0 k bt392.2.1 a1 a2 bt392.1 bt392.2.2)) = some (r1, r2, r3) := h
 clear h
 replace H := Option.bind_eq_some_iff.mp H
 obtain ⟨⟨t392, t393, t394⟩, A50, H⟩ := H
 replace H : (impl_readRowC.l0 k t393 a1 a2 t392 t394) = some (r1, r2, r3) := H
 have A5 := Aside0.mk A50
 clear A50
 have H' := Aside0.mk H
 clear H
 go_enter Try.func89, Try.ntmps89
 go_wp2_with (first | ((with_reducible refine gate_dyn (c := 17) rfl ?_); refine goesD_ (some 19) rfl rfl Try.func107 (by kernel_rfl) rfl #[.string a0] rfl (by first | rfl | (go_simp; done) | (go_simp; rfl)) pwk_ ?_; (with_reducible refine (h0_ k (by omega) a0 t392 t393 t394 _ A5.out).mono ?_); rintro e w6 ⟨v395, rfl, ho0, hb⟩; refine ⟨_, rfl, ?_⟩; have n0_ := Aside0.mk (Kd.R_lower ho0 (below_size pwi_)); have n1_ := Aside0.mk (below_step pwi_ hb); clear HB; have HO396 := n0_; have HB := n1_; clear n0_ n1_; (try clear hb); (try clear hb2); (try clear hk); (try clear hi); (try clear ho0)))
 go_loopg [0, 11, 12] k (fun kq v0 v11 v12 w' => ∃ (x0_1 : ByteArray) (x11_1 : List (S62)) (x12_1 : Bool), v0 = .string x0_1 ∧ v12 = .bool x12_1 ∧ Aside0 (impl_readRowC.l0 kq x0_1 a1 a2 x11_1 x12_1 = some (r1, r2, r3)) ∧ Aside0 (kq ≤ k) ∧ Aside0 (Kd.R k62 62 w' w.heap.size (fun _ => True) v11 x11_1) ∧ Aside0 (Below w.heap.size w w'))
 case atStart => exact ⟨(t393), (t392), (t394), pwa_, pwa_, H', ⟨Nat.le_refl _⟩, ⟨by (with_reducible repeat apply Kd.R_alloc); exact HO396.out⟩, ⟨pwi_⟩⟩
 case round =>
  clear H'
  try clear c1
  try clear p2
  obtain ⟨x0_1, x11_1, x12_1, rfl, rfl, HA, HK1, HO_11, HB⟩ := hrel
  cases gk with
  | zero => exact absurd HA.out (by simp [impl_readRowC.l0])
  | succ k1 =>
   have H := HA.out
   clear HA
   simp only [impl_readRowC.l0] at H
   by_cases c7 : x12_1 = true
   ·subst c7
    have H1 : ((strings_CutPrefix.f x0_1 a1).bind fun bt397 => (if bt397.2 = true then ((impl_readPart.f k1 bt397.1).bind fun bt399 => (if x11_1.length + bt399.1.length < 8796093022208 then ((some (x11_1 ++ bt399.1 : List (S62))).bind fun y404 => (if y404.length < 8796093022208 then (impl_readRowC.l0 k1 bt399.2.1 a1 a2 (y404 ++ [(⟨a2, 0⟩ : S62)]) bt399.2.2) else (none))) else (none))) else (some (x11_1, x0_1, true)))) = some (r1, r2, r3) := by rw [if_pos rfl] at H; exact H
    clear H
    have H := H1
    clear H1
    replace H := Option.bind_eq_some_iff.mp H
    obtain ⟨⟨t397, t398⟩, A80, H⟩ := H
    replace H : (if t398 = true then ((impl_readPart.f k1 t397).bind fun bt399 => (if x11_1.length + bt399.1.length < 8796093022208 then ((some (x11_1 ++ bt399.1 : List (S62))).bind fun y404 => (if y404.length < 8796093022208 then (impl_readRowC.l0 k1 bt399.2.1 a1 a2 (y404 ++ [(⟨a2, 0⟩ : S62)]) bt399.2.2) else (none))) else (none))) else (some (x11_1, x0_1, true))) = some (r1, r2, r3) := H
    have A8 := Aside0.mk A80
    clear A80
    by_cases c9 : t398 = true
    ·subst c9
     have H1 : ((impl_readPart.f k1 t397).bind fun bt399 => (if x11_1.length + bt399.1.length < 8796093022208 then ((some (x11_1 ++ bt399.1 : List (S62))).bind fun y404 => (if y404.length < 8796093022208 then (impl_readRowC.l0 k1 bt399.2.1 a1 a2 (y404 ++ [(⟨a2, 0⟩ : S62)]) bt399.2.2) else (none))) else (none))) = some (r1, r2, r3) := by rw [if_pos rfl] at H; exact H
     clear H
     have H := H1
     clear H1
     replace H := Option.bind_eq_some_iff.mp H
     obtain ⟨⟨t399, t400, t401⟩, A100, H⟩ := H
     replace H : (if x11_1.length + t399.length < 8796093022208 then ((some (x11_1 ++ t399 : List (S62))).bind fun y404 => (if y404.length < 8796093022208 then (impl_readRowC.l0 k1 t400 a1 a2 (y404 ++ [(⟨a2, 0⟩ : S62)]) t401) else (none))) else (none)) = some (r1, r2, r3) := H
     have A10 := Aside0.mk A100
     clear A100
     by_cases c11 : x11_1.length + t399.length < 8796093022208
     ·rw [if_pos c11] at H
      have LMc11 := Aside0.mk c11
      clear c11
      obtain ⟨y404, hy404⟩ : ∃ y_ : List (S62), y_ = (x11_1 ++ t399) := ⟨_, rfl⟩
      replace H : (if y404.length < 8796093022208 then (impl_readRowC.l0 k1 t400 a1 a2 (y404 ++ [(⟨a2, 0⟩ : S62)]) t401) else (none)) = some (r1, r2, r3) := by first | (rw [hy404]; with_reducible exact H) | (have H2_ := (Option.bind_some _ _).symm.trans H; rw [hy404]; with_reducible exact H2_) | (have H2_ := (Option.bind_some _ _).symm.trans H; with_reducible exact H2_) | with_reducible exact H | (rw [hy404]; exact H) | exact H
      have Ny404 := Aside0.mk hy404
      clear hy404
      by_cases c12 : y404.length < 8796093022208
      ·rw [if_pos c12] at H
       have LMc12 := Aside0.mk c12
       clear c12
       obtain ⟨y407, hy407⟩ : ∃ y_ : List (S62), y_ = (y404 ++ [(⟨a2, 0⟩ : S62)]) := ⟨_, rfl⟩
       replace H : (impl_readRowC.l0 k1 t400 a1 a2 y407 t401) = some (r1, r2, r3) := by first | (rw [hy407]; with_reducible exact H) | (have H2_ := (Option.bind_some _ _).symm.trans H; rw [hy407]; with_reducible exact H2_) | (have H2_ := (Option.bind_some _ _).symm.trans H; with_reducible exact H2_) | with_reducible exact H | (rw [hy407]; exact H) | exact H
       have Ny407 := Aside0.mk hy407
       clear hy407
       have H' := Aside0.mk H
       clear H
       go_wp2_with (first | ((with_reducible refine gate_callee (f := 101) rfl ?_); refine goesL_ (some 27) rfl rfl Try.func101 (by kernel_rfl) rfl #[.string x0_1, .string a1] rfl pwk_ ?_; (with_reducible refine (strings_CutPrefix.calls x0_1 a1 t397 true _ A8.out).mono ?_); rintro e w' ⟨rfl, ⟨nd, rfl⟩⟩; refine ⟨_, rfl, ?_⟩) | ((with_reducible refine gate_dyn (c := 35) rfl ?_); refine goesD_ (some 37) rfl rfl Try.func107 (by kernel_rfl) rfl #[.string t397] rfl (by first | rfl | (go_simp; done) | (go_simp; rfl)) pwk_ ?_; (with_reducible refine (h0_ k1 (by have := HK1.out; omega) t397 t399 t400 t401 _ A10.out).mono ?_); rintro e w13 ⟨v402, rfl, ho0, hb⟩; refine ⟨_, rfl, ?_⟩; have n0_ := Aside0.mk (Kd.R_elder' pwf_ (Kd.R_base ho0) hb); have n1_ := Aside0.mk (Kd.R_lower (Kd.R_new' ho0 (Kd.R_lt pwf_)) (below_size pwi_)); have n2_ := Aside0.mk (below_step pwi_ hb); clear HO_11; clear HB; have HO_11 := n0_; have HO403 := n1_; have HB := n2_; clear n0_ n1_ n2_; (try clear hb); (try clear hb2); (try clear hk); (try clear hi); (try clear ho0); obtain ⟨Ao15, co15, eo15⟩ := Kd.R_slice HO403.out; subst eo15) | ((with_reducible refine gate_builtin (b := .append) (xs := #[.tmp 41, .tmp 42]) rfl ?_); at_builtin; refine Kd.R_append_rows k62 (w0 := w) w.heap.size rfl (.tmp 41) (.tmp 42) 25 62 (.agg #[(.int .i64 0), (.int .i64 0)]) 16 rfl Try.underlying25 info62 rfl (by decide) (by omega) u11 x11_1 t399 _ _ _ (fun k_ => some k_ ≠ (.slice Ao15 t399.length co15 : Value).ownBlock) (fun _ => False) rfl rfl ?aO ?aR (fun _ _ h => h) (fun _ h => h.elim) ?aF ?aB ?aS ?aL ?_; (case aR => repeat (first | exact (Kd.R_reads' HO403.out).2.2 | (with_reducible refine Kd.C_alloc ?_ _) | (with_reducible refine Kd.C_drewN ?_ _) | (with_reducible refine Kd.C_drew ?_))); (case aB => exact pwi_); (case aF => exact (fun k_ hk => Kd.fresh' (Kd.R_lt (by (with_reducible repeat apply Kd.R_alloc); exact HO403.out)) k_ hk)); (case aO => exact (by (with_reducible repeat apply Kd.R_alloc); exact Kd.R_mono HO_11.out (fun _ hk => hk.2))); (case aS => exact (below_size pwi_)); (case aL => have := LMc11.out; omega); intro v405 w14 ho hb hg hat; rw [← Ny404.out] at ho; have n0_ := Aside0.mk (Kd.R_after (ok := (fun _ => True)) (by (with_reducible repeat apply Kd.R_alloc); exact HO403.out) hg hat); have n1_ := Aside0.mk (hb); have n2_ := Aside0.mk (ho); clear HO403; clear HB; clear HO_11; have HO403 := n0_; have HB := n1_; have HO406 := n2_; clear n0_ n1_ n2_; clear ho hb hg hat) | ((with_reducible refine gate_builtin (b := .append) (xs := #[.tmp 43, .tmp 46]) rfl ?_); at_builtin; refine Kd.R_append k62 (w0 := w) w.heap.size rfl (.tmp 43) (.tmp 46) 25 62 (.agg #[(.int .i64 0), (.int .i64 0)]) 16 rfl Try.underlying25 info62 rfl (by decide) (by omega) v405 y404 (⟨a2, 0⟩ : S62) [.int .i64 a2, .int .i64 0] (fun k_ => some k_ ≠ (.slice Ao15 t399.length co15 : Value).ownBlock) (fun _ => False) rfl rfl ?aP (fun _ hk => hk.elim) ?aF ?aO ?aB ?aS ?aL ?_; (case aP => exact k62_mkM _ _ _ (⟨a2, 0⟩ : S62)); (case aB => exact pwi_); (case aF => exact (fun k_ hk => Kd.fresh' (Kd.R_lt (by (with_reducible repeat apply Kd.R_alloc); exact HO403.out)) k_ hk)); (case aO => exact (by (with_reducible repeat apply Kd.R_alloc); exact HO406.out)); (case aS => exact (below_size pwi_)); (case aL => have := LMc12.out; omega); intro v408 w16 ho hb hg hat; rw [← Ny407.out] at ho; have n0_ := Aside0.mk (Kd.R_after (ok := (fun _ => True)) (by (with_reducible repeat apply Kd.R_alloc); exact HO403.out) hg hat); have n1_ := Aside0.mk (hb); have n2_ := Aside0.mk (ho); clear HO403; clear HB; clear HO406; have HO403 := n0_; have HB := n1_; have HO409 := n2_; clear n0_ n1_ n2_; clear ho hb hg hat))
       go_roundg k1
       case measure => have := HK1.out; omega
       case rel => exact ⟨(t400), (y407), (t401), pwa_, pwa_, H', ⟨by have := HK1.out; omega⟩, ⟨by (with_reducible repeat apply Kd.R_alloc); exact Kd.R_mono HO409.out (fun _ hk => trivial)⟩, ⟨pwi_⟩⟩
      ·rw [if_neg c12] at H
       exact absurd H (by simp)
     ·rw [if_neg c11] at H
      exact absurd H (by simp)
    ·replace c9 := Bool.eq_false_iff.mpr c9
     subst c9
     have H1 : (some (x11_1, x0_1, true)) = some (r1, r2, r3) := by rw [if_neg (show ¬ (false = true) by decide)] at H; exact H
     clear H
     have H := H1
     clear H1
     simp only [Option.some.injEq, Prod.mk.injEq] at H
     obtain ⟨rfl, rfl, rfl⟩ := H
     go_wp2_with (first | ((with_reducible refine gate_callee (f := 101) rfl ?_); refine goesL_ (some 27) rfl rfl Try.func101 (by kernel_rfl) rfl #[.string x0_1, .string a1] rfl pwk_ ?_; (with_reducible refine (strings_CutPrefix.calls x0_1 a1 t397 false _ A8.out).mono ?_); rintro e w' ⟨rfl, ⟨nd, rfl⟩⟩; refine ⟨_, rfl, ?_⟩))
     go_ret3
     exact ⟨_, by first | rfl | (simp [errW_none, errW_some] <;> rfl) | (simp [*, errW_none, errW_some] <;> rfl), pwf_, pwi_⟩
   ·replace c7 := Bool.eq_false_iff.mpr c7
    subst c7
    have H1 : (some (([] : List (S62)), x0_1, false)) = some (r1, r2, r3) := by rw [if_neg (show ¬ (false = true) by decide)] at H; exact H
    clear H
    have H := H1
    clear H1
    simp only [Option.some.injEq, Prod.mk.injEq] at H
    obtain ⟨rfl, rfl, rfl⟩ := H
    go_wp2
    go_ret3
    exact ⟨_, by first | rfl | (simp [errW_none, errW_some] <;> rfl) | (simp [*, errW_none, errW_some] <;> rfl), by first | exact Kd.R_nil _ _ _ _ _ | exact Kd.N_nil _ _ _ _ _ | exact Kd.V_nil _ _ _ _ _ | exact Kd.Q_nil _ _ _ _ _ | exact Kd.S_nil _ _ _ _ _, pwi_⟩
set_option maxHeartbeats 8000000 in
set_option maxRecDepth 100000 in
theorem impl_readAnd.step (k : Nat) (h0_ : ∀ m_, m_ < k → ∀ (a0 : ByteArray) (r1 : List (S62)) (r2 : ByteArray) (r3 : Bool) (w : World) (h : impl_readPart.f m_ a0 = some (r1, r2, r3)),
  Calls Try.prog 107 #[.string a0] w fun e w' => ∃ v0_ : Value, e = .returned (.tuple #[v0_, .string r2, .bool r3]) ∧ Kd.R k62 62 w' w.heap.size (fun _ => True) v0_ r1 ∧ Below w.heap.size w w') (h1_ : ∀ m_, m_ < k → ∀ (a0 : ByteArray) (a1 : ByteArray) (a2 : Int) (a3 : Int) (r1 : List (S62)) (r2 : ByteArray) (r3 : Bool) (w : World) (h : impl_readRowC.f m_ a0 a1 a2 a3 = some (r1, r2, r3)),
  Calls Try.prog 89 #[.string a0, .string a1, .int .i64 a2, .func (.func 107) #[] #[]] w fun e w' => ∃ v0_ : Value, e = .returned (.tuple #[v0_, .string r2, .bool r3]) ∧ Kd.R k62 62 w' w.heap.size (fun _ => True) v0_ r1 ∧ Below w.heap.size w w') (h2_ : ∀ m_, m_ < k → ∀ (a0 : ByteArray) (r1 : List (S62)) (r2 : ByteArray) (r3 : Bool) (w : World) (h : impl_readAnd.f m_ a0 = some (r1, r2, r3)),
  Calls Try.prog 102 #[.string a0] w fun e w' => ∃ v0_ : Value, e = .returned (.tuple #[v0_, .string r2, .bool r3]) ∧ Kd.R k62 62 w' w.heap.size (fun _ => True) v0_ r1 ∧ Below w.heap.size w w') (h3_ : ∀ m_, m_ < k → ∀ (a0 : ByteArray) (a1 : ByteArray) (a2 : Int) (a3 : Int) (r1 : List (S62)) (r2 : ByteArray) (r3 : Bool) (w : World) (h : impl_readRowB.f m_ a0 a1 a2 a3 = some (r1, r2, r3)),
  Calls Try.prog 89 #[.string a0, .string a1, .int .i64 a2, .func (.func 102) #[] #[]] w fun e w' => ∃ v0_ : Value, e = .returned (.tuple #[v0_, .string r2, .bool r3]) ∧ Kd.R k62 62 w' w.heap.size (fun _ => True) v0_ r1 ∧ Below w.heap.size w w') (h4_ : ∀ m_, m_ < k → ∀ (a0 : ByteArray) (r1 : List (S62)) (r2 : ByteArray) (r3 : Bool) (w : World) (h : impl_readOr.f m_ a0 = some (r1, r2, r3)),
  Calls Try.prog 90 #[.string a0] w fun e w' => ∃ v0_ : Value, e = .returned (.tuple #[v0_, .string r2, .bool r3]) ∧ Kd.R k62 62 w' w.heap.size (fun _ => True) v0_ r1 ∧ Below w.heap.size w w') (h5_ : ∀ m_, m_ < k → ∀ (a0 : ByteArray) (a1 : ByteArray) (a2 : Int) (a3 : Int) (r1 : List (S62)) (r2 : ByteArray) (r3 : Bool) (w : World) (h : impl_readRowA.f m_ a0 a1 a2 a3 = some (r1, r2, r3)),
  Calls Try.prog 89 #[.string a0, .string a1, .int .i64 a2, .func (.func 90) #[] #[]] w fun e w' => ∃ v0_ : Value, e = .returned (.tuple #[v0_, .string r2, .bool r3]) ∧ Kd.R k62 62 w' w.heap.size (fun _ => True) v0_ r1 ∧ Below w.heap.size w w') (h6_ : ∀ m_, m_ < k → ∀ (a0 : ByteArray) (r1 : List (S62)) (r2 : ByteArray) (r3 : Bool) (w : World) (h : impl_readSame.f m_ a0 = some (r1, r2, r3)),
  Calls Try.prog 63 #[.string a0] w fun e w' => ∃ v0_ : Value, e = .returned (.tuple #[v0_, .string r2, .bool r3]) ∧ Kd.R k62 62 w' w.heap.size (fun _ => True) v0_ r1 ∧ Below w.heap.size w w') : ∀ (a0 : ByteArray) (r1 : List (S62)) (r2 : ByteArray) (r3 : Bool) (w : World) (h : impl_readAnd.f k a0 = some (r1, r2, r3)),
  Calls Try.prog 102 #[.string a0] w fun e w' => ∃ v0_ : Value, e = .returned (.tuple #[v0_, .string r2, .bool r3]) ∧ Kd.R k62 62 w' w.heap.size (fun _ => True) v0_ r1 ∧ Below w.heap.size w w' := by
 have ih := h2_
 intro a0 r1 r2 r3 w h
 cases k with
 | zero => exact absurd h (by simp [impl_readAnd.f])
 | succ k =>
 simp only [impl_readAnd.f] at h
 have HB := Aside0.mk (Below.refl w.heap.size w)
 have H : ((impl_readRowC.f k a0 (⟨#[38]⟩ : ByteArray) 3 777107).bind fun bt410 => (some (bt410.1, bt410.2.1, bt410.2.2))) = some (r1, r2, r3) := h
 clear h
 replace H := Option.bind_eq_some_iff.mp H
 obtain ⟨⟨t410, t411, t412⟩, A20, H⟩ := H
 replace H : (some (t410, t411, t412)) = some (r1, r2, r3) := H
 have A2 := Aside0.mk A20
 clear A20
 simp only [Option.some.injEq, Prod.mk.injEq] at H
 obtain ⟨rfl, rfl, rfl⟩ := H
 go_enter Try.func102, Try.ntmps102
 go_wp2_with (first | ((with_reducible refine gate_callee (f := 89) rfl ?_); refine goesL_ (some 6) rfl rfl Try.func89 (by kernel_rfl) rfl #[.string a0, .string (⟨#[38]⟩ : ByteArray), .int .i64 3, .func (.func 107) #[] #[]] rfl pwk_ ?_; (with_reducible refine (h1_ k (by omega) a0 (⟨#[38]⟩ : ByteArray) 3 777107 t410 t411 t412 _ A2.out).mono ?_); rintro e w3 ⟨v413, rfl, ho0, hb⟩; refine ⟨_, rfl, ?_⟩; have n0_ := Aside0.mk (Kd.R_lower ho0 (below_size pwi_)); have n1_ := Aside0.mk (below_step pwi_ hb); clear HB; have HO414 := n0_; have HB := n1_; clear n0_ n1_; (try clear hb); (try clear hb2); (try clear hk); (try clear hi); (try clear ho0)))
 go_ret3
 exact ⟨_, by first | rfl | (simp [errW_none, errW_some] <;> rfl) | (simp [*, errW_none, errW_some] <;> rfl), by (with_reducible repeat apply Kd.R_alloc); exact HO414.out, pwi_⟩
set_option maxHeartbeats 8000000 in
set_option maxRecDepth 100000 in
theorem impl_readRowB.step (k : Nat) (h0_ : ∀ m_, m_ < k → ∀ (a0 : ByteArray) (r1 : List (S62)) (r2 : ByteArray) (r3 : Bool) (w : World) (h : impl_readPart.f m_ a0 = some (r1, r2, r3)),
  Calls Try.prog 107 #[.string a0] w fun e w' => ∃ v0_ : Value, e = .returned (.tuple #[v0_, .string r2, .bool r3]) ∧ Kd.R k62 62 w' w.heap.size (fun _ => True) v0_ r1 ∧ Below w.heap.size w w') (h1_ : ∀ m_, m_ < k → ∀ (a0 : ByteArray) (a1 : ByteArray) (a2 : Int) (a3 : Int) (r1 : List (S62)) (r2 : ByteArray) (r3 : Bool) (w : World) (h : impl_readRowC.f m_ a0 a1 a2 a3 = some (r1, r2, r3)),
  Calls Try.prog 89 #[.string a0, .string a1, .int .i64 a2, .func (.func 107) #[] #[]] w fun e w' => ∃ v0_ : Value, e = .returned (.tuple #[v0_, .string r2, .bool r3]) ∧ Kd.R k62 62 w' w.heap.size (fun _ => True) v0_ r1 ∧ Below w.heap.size w w') (h2_ : ∀ m_, m_ < k → ∀ (a0 : ByteArray) (r1 : List (S62)) (r2 : ByteArray) (r3 : Bool) (w : World) (h : impl_readAnd.f m_ a0 = some (r1, r2, r3)),
  Calls Try.prog 102 #[.string a0] w fun e w' => ∃ v0_ : Value, e = .returned (.tuple #[v0_, .string r2, .bool r3]) ∧ Kd.R k62 62 w' w.heap.size (fun _ => True) v0_ r1 ∧ Below w.heap.size w w') (h3_ : ∀ m_, m_ < k → ∀ (a0 : ByteArray) (a1 : ByteArray) (a2 : Int) (a3 : Int) (r1 : List (S62)) (r2 : ByteArray) (r3 : Bool) (w : World) (h : impl_readRowB.f m_ a0 a1 a2 a3 = some (r1, r2, r3)),
  Calls Try.prog 89 #[.string a0, .string a1, .int .i64 a2, .func (.func 102) #[] #[]] w fun e w' => ∃ v0_ : Value, e = .returned (.tuple #[v0_, .string r2, .bool r3]) ∧ Kd.R k62 62 w' w.heap.size (fun _ => True) v0_ r1 ∧ Below w.heap.size w w') (h4_ : ∀ m_, m_ < k → ∀ (a0 : ByteArray) (r1 : List (S62)) (r2 : ByteArray) (r3 : Bool) (w : World) (h : impl_readOr.f m_ a0 = some (r1, r2, r3)),
  Calls Try.prog 90 #[.string a0] w fun e w' => ∃ v0_ : Value, e = .returned (.tuple #[v0_, .string r2, .bool r3]) ∧ Kd.R k62 62 w' w.heap.size (fun _ => True) v0_ r1 ∧ Below w.heap.size w w') (h5_ : ∀ m_, m_ < k → ∀ (a0 : ByteArray) (a1 : ByteArray) (a2 : Int) (a3 : Int) (r1 : List (S62)) (r2 : ByteArray) (r3 : Bool) (w : World) (h : impl_readRowA.f m_ a0 a1 a2 a3 = some (r1, r2, r3)),
  Calls Try.prog 89 #[.string a0, .string a1, .int .i64 a2, .func (.func 90) #[] #[]] w fun e w' => ∃ v0_ : Value, e = .returned (.tuple #[v0_, .string r2, .bool r3]) ∧ Kd.R k62 62 w' w.heap.size (fun _ => True) v0_ r1 ∧ Below w.heap.size w w') (h6_ : ∀ m_, m_ < k → ∀ (a0 : ByteArray) (r1 : List (S62)) (r2 : ByteArray) (r3 : Bool) (w : World) (h : impl_readSame.f m_ a0 = some (r1, r2, r3)),
  Calls Try.prog 63 #[.string a0] w fun e w' => ∃ v0_ : Value, e = .returned (.tuple #[v0_, .string r2, .bool r3]) ∧ Kd.R k62 62 w' w.heap.size (fun _ => True) v0_ r1 ∧ Below w.heap.size w w') : ∀ (a0 : ByteArray) (a1 : ByteArray) (a2 : Int) (a3 : Int) (r1 : List (S62)) (r2 : ByteArray) (r3 : Bool) (w : World) (h : impl_readRowB.f k a0 a1 a2 a3 = some (r1, r2, r3)),
  Calls Try.prog 89 #[.string a0, .string a1, .int .i64 a2, .func (.func 102) #[] #[]] w fun e w' => ∃ v0_ : Value, e = .returned (.tuple #[v0_, .string r2, .bool r3]) ∧ Kd.R k62 62 w' w.heap.size (fun _ => True) v0_ r1 ∧ Below w.heap.size w w' := by
 have ih := h3_
 intro a0 a1 a2 a3 r1 r2 r3 w h
 cases k with
 | zero => exact absurd h (by simp [impl_readRowB.f])
 | succ k =>
 simp only [impl_readRowB.f] at h
 have hu62 := Try.underlying62
 have HB := Aside0.mk (Below.refl w.heap.size w)
 have H : ((impl_readAnd.f k a0).bind fun bt415 => (impl_readRowB.l0 k bt415.2.1 a1 a2 bt415.1 bt415.2.2)) = some (r1, r2, r3) := h
 clear h
 replace H := Option.bind_eq_some_iff.mp H
 obtain ⟨⟨t415, t416, t417⟩, A50, H⟩ := H
 replace H : (impl_readRowB.l0 k t416 a1 a2 t415 t417) = some (r1, r2, r3) := H
 have A5 := Aside0.mk A50
 clear A50
 have H' := Aside0.mk H
 clear H
 go_enter Try.func89, Try.ntmps89
 go_wp2_with (first | ((with_reducible refine gate_dyn (c := 17) rfl ?_); refine goesD_ (some 19) rfl rfl Try.func102 (by kernel_rfl) rfl #[.string a0] rfl (by first | rfl | (go_simp; done) | (go_simp; rfl)) pwk_ ?_; (with_reducible refine (h2_ k (by omega) a0 t415 t416 t417 _ A5.out).mono ?_); rintro e w6 ⟨v418, rfl, ho0, hb⟩; refine ⟨_, rfl, ?_⟩; have n0_ := Aside0.mk (Kd.R_lower ho0 (below_size pwi_)); have n1_ := Aside0.mk (below_step pwi_ hb); clear HB; have HO419 := n0_; have HB := n1_; clear n0_ n1_; (try clear hb); (try clear hb2); (try clear hk); (try clear hi); (try clear ho0)))
 go_loopg [0, 11, 12] k (fun kq v0 v11 v12 w' => ∃ (x0_1 : ByteArray) (x11_1 : List (S62)) (x12_1 : Bool), v0 = .string x0_1 ∧ v12 = .bool x12_1 ∧ Aside0 (impl_readRowB.l0 kq x0_1 a1 a2 x11_1 x12_1 = some (r1, r2, r3)) ∧ Aside0 (kq ≤ k) ∧ Aside0 (Kd.R k62 62 w' w.heap.size (fun _ => True) v11 x11_1) ∧ Aside0 (Below w.heap.size w w'))
 case atStart => exact ⟨(t416), (t415), (t417), pwa_, pwa_, H', ⟨Nat.le_refl _⟩, ⟨by (with_reducible repeat apply Kd.R_alloc); exact HO419.out⟩, ⟨pwi_⟩⟩
 case round =>
  clear H'
  try clear c1
  try clear p2
  obtain ⟨x0_1, x11_1, x12_1, rfl, rfl, HA, HK1, HO_11, HB⟩ := hrel
  cases gk with
  | zero => exact absurd HA.out (by simp [impl_readRowB.l0])
  | succ k1 =>
   have H := HA.out
   clear HA
   simp only [impl_readRowB.l0] at H
   by_cases c7 : x12_1 = true
   ·subst c7
    have H1 : ((strings_CutPrefix.f x0_1 a1).bind fun bt420 => (if bt420.2 = true then ((impl_readAnd.f k1 bt420.1).bind fun bt422 => (if x11_1.length + bt422.1.length < 8796093022208 then ((some (x11_1 ++ bt422.1 : List (S62))).bind fun y427 => (if y427.length < 8796093022208 then (impl_readRowB.l0 k1 bt422.2.1 a1 a2 (y427 ++ [(⟨a2, 0⟩ : S62)]) bt422.2.2) else (none))) else (none))) else (some (x11_1, x0_1, true)))) = some (r1, r2, r3) := by rw [if_pos rfl] at H; exact H
    clear H
    have H := H1
    clear H1
    replace H := Option.bind_eq_some_iff.mp H
    obtain ⟨⟨t420, t421⟩, A80, H⟩ := H
    replace H : (if t421 = true then ((impl_readAnd.f k1 t420).bind fun bt422 => (if x11_1.length + bt422.1.length < 8796093022208 then ((some (x11_1 ++ bt422.1 : List (S62))).bind fun y427 => (if y427.length < 8796093022208 then (impl_readRowB.l0 k1 bt422.2.1 a1 a2 (y427 ++ [(⟨a2, 0⟩ : S62)]) bt422.2.2) else (none))) else (none))) else (some (x11_1, x0_1, true))) = some (r1, r2, r3) := H
    have A8 := Aside0.mk A80
    clear A80
    by_cases c9 : t421 = true
    ·subst c9
     have H1 : ((impl_readAnd.f k1 t420).bind fun bt422 => (if x11_1.length + bt422.1.length < 8796093022208 then ((some (x11_1 ++ bt422.1 : List (S62))).bind fun y427 => (if y427.length < 8796093022208 then (impl_readRowB.l0 k1 bt422.2.1 a1 a2 (y427 ++ [(⟨a2, 0⟩ : S62)]) bt422.2.2) else (none))) else (none))) = some (r1, r2, r3) := by rw [if_pos rfl] at H; exact H
     clear H
     have H := H1
     clear H1
     replace H := Option.bind_eq_some_iff.mp H
     obtain ⟨⟨t422, t423, t424⟩, A100, H⟩ := H
     replace H : (if x11_1.length + t422.length < 8796093022208 then ((some (x11_1 ++ t422 : List (S62))).bind fun y427 => (if y427.length < 8796093022208 then (impl_readRowB.l0 k1 t423 a1 a2 (y427 ++ [(⟨a2, 0⟩ : S62)]) t424) else (none))) else (none)) = some (r1, r2, r3) := H
     have A10 := Aside0.mk A100
     clear A100
     by_cases c11 : x11_1.length + t422.length < 8796093022208
     ·rw [if_pos c11] at H
      have LMc11 := Aside0.mk c11
      clear c11
      obtain ⟨y427, hy427⟩ : ∃ y_ : List (S62), y_ = (x11_1 ++ t422) := ⟨_, rfl⟩
      replace H : (if y427.length < 8796093022208 then (impl_readRowB.l0 k1 t423 a1 a2 (y427 ++ [(⟨a2, 0⟩ : S62)]) t424) else (none)) = some (r1, r2, r3) := by first | (rw [hy427]; with_reducible exact H) | (have H2_ := (Option.bind_some _ _).symm.trans H; rw [hy427]; with_reducible exact H2_) | (have H2_ := (Option.bind_some _ _).symm.trans H; with_reducible exact H2_) | with_reducible exact H | (rw [hy427]; exact H) | exact H
      have Ny427 := Aside0.mk hy427
      clear hy427
      by_cases c12 : y427.length < 8796093022208
      ·rw [if_pos c12] at H
       have LMc12 := Aside0.mk c12
       clear c12
       obtain ⟨y430, hy430⟩ : ∃ y_ : List (S62), y_ = (y427 ++ [(⟨a2, 0⟩ : S62)]) := ⟨_, rfl⟩
       replace H : (impl_readRowB.l0 k1 t423 a1 a2 y430 t424) = some (r1, r2, r3) := by first | (rw [hy430]; with_reducible exact H) | (have H2_ := (Option.bind_some _ _).symm.trans H; rw [hy430]; with_reducible exact H2_) | (have H2_ := (Option.bind_some _ _).symm.trans H; with_reducible exact H2_) | with_reducible exact H | (rw [hy430]; exact H) | exact H
       have Ny430 := Aside0.mk hy430
       clear hy430
       have H' := Aside0.mk H
       clear H
       go_wp2_with (first | ((with_reducible refine gate_callee (f := 101) rfl ?_); refine goesL_ (some 27) rfl rfl Try.func101 (by kernel_rfl) rfl #[.string x0_1, .string a1] rfl pwk_ ?_; (with_reducible refine (strings_CutPrefix.calls x0_1 a1 t420 true _ A8.out).mono ?_); rintro e w' ⟨rfl, ⟨nd, rfl⟩⟩; refine ⟨_, rfl, ?_⟩) | ((with_reducible refine gate_dyn (c := 35) rfl ?_); refine goesD_ (some 37) rfl rfl Try.func102 (by kernel_rfl) rfl #[.string t420] rfl (by first | rfl | (go_simp; done) | (go_simp; rfl)) pwk_ ?_; (with_reducible refine (h2_ k1 (by have := HK1.out; omega) t420 t422 t423 t424 _ A10.out).mono ?_); rintro e w13 ⟨v425, rfl, ho0, hb⟩; refine ⟨_, rfl, ?_⟩; have n0_ := Aside0.mk (Kd.R_elder' pwf_ (Kd.R_base ho0) hb); have n1_ := Aside0.mk (Kd.R_lower (Kd.R_new' ho0 (Kd.R_lt pwf_)) (below_size pwi_)); have n2_ := Aside0.mk (below_step pwi_ hb); clear HO_11; clear HB; have HO_11 := n0_; have HO426 := n1_; have HB := n2_; clear n0_ n1_ n2_; (try clear hb); (try clear hb2); (try clear hk); (try clear hi); (try clear ho0); obtain ⟨Ao15, co15, eo15⟩ := Kd.R_slice HO426.out; subst eo15) | ((with_reducible refine gate_builtin (b := .append) (xs := #[.tmp 41, .tmp 42]) rfl ?_); at_builtin; refine Kd.R_append_rows k62 (w0 := w) w.heap.size rfl (.tmp 41) (.tmp 42) 25 62 (.agg #[(.int .i64 0), (.int .i64 0)]) 16 rfl Try.underlying25 info62 rfl (by decide) (by omega) u11 x11_1 t422 _ _ _ (fun k_ => some k_ ≠ (.slice Ao15 t422.length co15 : Value).ownBlock) (fun _ => False) rfl rfl ?aO ?aR (fun _ _ h => h) (fun _ h => h.elim) ?aF ?aB ?aS ?aL ?_; (case aR => repeat (first | exact (Kd.R_reads' HO426.out).2.2 | (with_reducible refine Kd.C_alloc ?_ _) | (with_reducible refine Kd.C_drewN ?_ _) | (with_reducible refine Kd.C_drew ?_))); (case aB => exact pwi_); (case aF => exact (fun k_ hk => Kd.fresh' (Kd.R_lt (by (with_reducible repeat apply Kd.R_alloc); exact HO426.out)) k_ hk)); (case aO => exact (by (with_reducible repeat apply Kd.R_alloc); exact Kd.R_mono HO_11.out (fun _ hk => hk.2))); (case aS => exact (below_size pwi_)); (case aL => have := LMc11.out; omega); intro v428 w14 ho hb hg hat; rw [← Ny427.out] at ho; have n0_ := Aside0.mk (Kd.R_after (ok := (fun _ => True)) (by (with_reducible repeat apply Kd.R_alloc); exact HO426.out) hg hat); have n1_ := Aside0.mk (hb); have n2_ := Aside0.mk (ho); clear HO426; clear HB; clear HO_11; have HO426 := n0_; have HB := n1_; have HO429 := n2_; clear n0_ n1_ n2_; clear ho hb hg hat) | ((with_reducible refine gate_builtin (b := .append) (xs := #[.tmp 43, .tmp 46]) rfl ?_); at_builtin; refine Kd.R_append k62 (w0 := w) w.heap.size rfl (.tmp 43) (.tmp 46) 25 62 (.agg #[(.int .i64 0), (.int .i64 0)]) 16 rfl Try.underlying25 info62 rfl (by decide) (by omega) v428 y427 (⟨a2, 0⟩ : S62) [.int .i64 a2, .int .i64 0] (fun k_ => some k_ ≠ (.slice Ao15 t422.length co15 : Value).ownBlock) (fun _ => False) rfl rfl ?aP (fun _ hk => hk.elim) ?aF ?aO ?aB ?aS ?aL ?_; (case aP => exact k62_mkM _ _ _ (⟨a2, 0⟩ : S62)); (case aB => exact pwi_); (case aF => exact (fun k_ hk => Kd.fresh' (Kd.R_lt (by (with_reducible repeat apply Kd.R_alloc); exact HO426.out)) k_ hk)); (case aO => exact (by (with_reducible repeat apply Kd.R_alloc); exact HO429.out)); (case aS => exact (below_size pwi_)); (case aL => have := LMc12.out; omega); intro v431 w16 ho hb hg hat; rw [← Ny430.out] at ho; have n0_ := Aside0.mk (Kd.R_after (ok := (fun _ => True)) (by (with_reducible repeat apply Kd.R_alloc); exact HO426.out) hg hat); have n1_ := Aside0.mk (hb); have n2_ := Aside0.mk (ho); clear HO426; clear HB; clear HO429; have HO426 := n0_; have HB := n1_; have HO432 := n2_; clear n0_ n1_ n2_; clear ho hb hg hat))
       go_roundg k1
       case measure => have := HK1.out; omega
       case rel => exact ⟨(t423), (y430), (t424), pwa_, pwa_, H', ⟨by have := HK1.out; omega⟩, ⟨by (with_reducible repeat apply Kd.R_alloc); exact Kd.R_mono HO432.out (fun _ hk => trivial)⟩, ⟨pwi_⟩⟩
      ·rw [if_neg c12] at H
       exact absurd H (by simp)
     ·rw [if_neg c11] at H
      exact absurd H (by simp)
    ·replace c9 := Bool.eq_false_iff.mpr c9
     subst c9
     have H1 : (some (x11_1, x0_1, true)) = some (r1, r2, r3) := by rw [if_neg (show ¬ (false = true) by decide)] at H; exact H
     clear H
     have H := H1
     clear H1
     simp only [Option.some.injEq, Prod.mk.injEq] at H
     obtain ⟨rfl, rfl, rfl⟩ := H
     go_wp2_with (first | ((with_reducible refine gate_callee (f := 101) rfl ?_); refine goesL_ (some 27) rfl rfl Try.func101 (by kernel_rfl) rfl #[.string x0_1, .string a1] rfl pwk_ ?_; (with_reducible refine (strings_CutPrefix.calls x0_1 a1 t420 false _ A8.out).mono ?_); rintro e w' ⟨rfl, ⟨nd, rfl⟩⟩; refine ⟨_, rfl, ?_⟩))
     go_ret3
     exact ⟨_, by first | rfl | (simp [errW_none, errW_some] <;> rfl) | (simp [*, errW_none, errW_some] <;> rfl), pwf_, pwi_⟩
   ·replace c7 := Bool.eq_false_iff.mpr c7
    subst c7
    have H1 : (some (([] : List (S62)), x0_1, false)) = some (r1, r2, r3) := by rw [if_neg (show ¬ (false = true) by decide)] at H; exact H
    clear H
    have H := H1
    clear H1
    simp only [Option.some.injEq, Prod.mk.injEq] at H
    obtain ⟨rfl, rfl, rfl⟩ := H
    go_wp2
    go_ret3
    exact ⟨_, by first | rfl | (simp [errW_none, errW_some] <;> rfl) | (simp [*, errW_none, errW_some] <;> rfl), by first | exact Kd.R_nil _ _ _ _ _ | exact Kd.N_nil _ _ _ _ _ | exact Kd.V_nil _ _ _ _ _ | exact Kd.Q_nil _ _ _ _ _ | exact Kd.S_nil _ _ _ _ _, pwi_⟩
set_option maxHeartbeats 8000000 in
set_option maxRecDepth 100000 in
theorem impl_readOr.step (k : Nat) (h0_ : ∀ m_, m_ < k → ∀ (a0 : ByteArray) (r1 : List (S62)) (r2 : ByteArray) (r3 : Bool) (w : World) (h : impl_readPart.f m_ a0 = some (r1, r2, r3)),
  Calls Try.prog 107 #[.string a0] w fun e w' => ∃ v0_ : Value, e = .returned (.tuple #[v0_, .string r2, .bool r3]) ∧ Kd.R k62 62 w' w.heap.size (fun _ => True) v0_ r1 ∧ Below w.heap.size w w') (h1_ : ∀ m_, m_ < k → ∀ (a0 : ByteArray) (a1 : ByteArray) (a2 : Int) (a3 : Int) (r1 : List (S62)) (r2 : ByteArray) (r3 : Bool) (w : World) (h : impl_readRowC.f m_ a0 a1 a2 a3 = some (r1, r2, r3)),
  Calls Try.prog 89 #[.string a0, .string a1, .int .i64 a2, .func (.func 107) #[] #[]] w fun e w' => ∃ v0_ : Value, e = .returned (.tuple #[v0_, .string r2, .bool r3]) ∧ Kd.R k62 62 w' w.heap.size (fun _ => True) v0_ r1 ∧ Below w.heap.size w w') (h2_ : ∀ m_, m_ < k → ∀ (a0 : ByteArray) (r1 : List (S62)) (r2 : ByteArray) (r3 : Bool) (w : World) (h : impl_readAnd.f m_ a0 = some (r1, r2, r3)),
  Calls Try.prog 102 #[.string a0] w fun e w' => ∃ v0_ : Value, e = .returned (.tuple #[v0_, .string r2, .bool r3]) ∧ Kd.R k62 62 w' w.heap.size (fun _ => True) v0_ r1 ∧ Below w.heap.size w w') (h3_ : ∀ m_, m_ < k → ∀ (a0 : ByteArray) (a1 : ByteArray) (a2 : Int) (a3 : Int) (r1 : List (S62)) (r2 : ByteArray) (r3 : Bool) (w : World) (h : impl_readRowB.f m_ a0 a1 a2 a3 = some (r1, r2, r3)),
  Calls Try.prog 89 #[.string a0, .string a1, .int .i64 a2, .func (.func 102) #[] #[]] w fun e w' => ∃ v0_ : Value, e = .returned (.tuple #[v0_, .string r2, .bool r3]) ∧ Kd.R k62 62 w' w.heap.size (fun _ => True) v0_ r1 ∧ Below w.heap.size w w') (h4_ : ∀ m_, m_ < k → ∀ (a0 : ByteArray) (r1 : List (S62)) (r2 : ByteArray) (r3 : Bool) (w : World) (h : impl_readOr.f m_ a0 = some (r1, r2, r3)),
  Calls Try.prog 90 #[.string a0] w fun e w' => ∃ v0_ : Value, e = .returned (.tuple #[v0_, .string r2, .bool r3]) ∧ Kd.R k62 62 w' w.heap.size (fun _ => True) v0_ r1 ∧ Below w.heap.size w w') (h5_ : ∀ m_, m_ < k → ∀ (a0 : ByteArray) (a1 : ByteArray) (a2 : Int) (a3 : Int) (r1 : List (S62)) (r2 : ByteArray) (r3 : Bool) (w : World) (h : impl_readRowA.f m_ a0 a1 a2 a3 = some (r1, r2, r3)),
  Calls Try.prog 89 #[.string a0, .string a1, .int .i64 a2, .func (.func 90) #[] #[]] w fun e w' => ∃ v0_ : Value, e = .returned (.tuple #[v0_, .string r2, .bool r3]) ∧ Kd.R k62 62 w' w.heap.size (fun _ => True) v0_ r1 ∧ Below w.heap.size w w') (h6_ : ∀ m_, m_ < k → ∀ (a0 : ByteArray) (r1 : List (S62)) (r2 : ByteArray) (r3 : Bool) (w : World) (h : impl_readSame.f m_ a0 = some (r1, r2, r3)),
  Calls Try.prog 63 #[.string a0] w fun e w' => ∃ v0_ : Value, e = .returned (.tuple #[v0_, .string r2, .bool r3]) ∧ Kd.R k62 62 w' w.heap.size (fun _ => True) v0_ r1 ∧ Below w.heap.size w w') : ∀ (a0 : ByteArray) (r1 : List (S62)) (r2 : ByteArray) (r3 : Bool) (w : World) (h : impl_readOr.f k a0 = some (r1, r2, r3)),
  Calls Try.prog 90 #[.string a0] w fun e w' => ∃ v0_ : Value, e = .returned (.tuple #[v0_, .string r2, .bool r3]) ∧ Kd.R k62 62 w' w.heap.size (fun _ => True) v0_ r1 ∧ Below w.heap.size w w' := by
 have ih := h4_
 intro a0 r1 r2 r3 w h
 cases k with
 | zero => exact absurd h (by simp [impl_readOr.f])
 | succ k =>
 simp only [impl_readOr.f] at h
 have HB := Aside0.mk (Below.refl w.heap.size w)
 have H : ((impl_readRowB.f k a0 (⟨#[124]⟩ : ByteArray) 4 777102).bind fun bt433 => (some (bt433.1, bt433.2.1, bt433.2.2))) = some (r1, r2, r3) := h
 clear h
 replace H := Option.bind_eq_some_iff.mp H
 obtain ⟨⟨t433, t434, t435⟩, A20, H⟩ := H
 replace H : (some (t433, t434, t435)) = some (r1, r2, r3) := H
 have A2 := Aside0.mk A20
 clear A20
 simp only [Option.some.injEq, Prod.mk.injEq] at H
 obtain ⟨rfl, rfl, rfl⟩ := H
 go_enter Try.func90, Try.ntmps90
 go_wp2_with (first | ((with_reducible refine gate_callee (f := 89) rfl ?_); refine goesL_ (some 6) rfl rfl Try.func89 (by kernel_rfl) rfl #[.string a0, .string (⟨#[124]⟩ : ByteArray), .int .i64 4, .func (.func 102) #[] #[]] rfl pwk_ ?_; (with_reducible refine (h3_ k (by omega) a0 (⟨#[124]⟩ : ByteArray) 4 777102 t433 t434 t435 _ A2.out).mono ?_); rintro e w3 ⟨v436, rfl, ho0, hb⟩; refine ⟨_, rfl, ?_⟩; have n0_ := Aside0.mk (Kd.R_lower ho0 (below_size pwi_)); have n1_ := Aside0.mk (below_step pwi_ hb); clear HB; have HO437 := n0_; have HB := n1_; clear n0_ n1_; (try clear hb); (try clear hb2); (try clear hk); (try clear hi); (try clear ho0)))
 go_ret3
 exact ⟨_, by first | rfl | (simp [errW_none, errW_some] <;> rfl) | (simp [*, errW_none, errW_some] <;> rfl), by (with_reducible repeat apply Kd.R_alloc); exact HO437.out, pwi_⟩
set_option maxHeartbeats 8000000 in
set_option maxRecDepth 100000 in
theorem impl_readRowA.step (k : Nat) (h0_ : ∀ m_, m_ < k → ∀ (a0 : ByteArray) (r1 : List (S62)) (r2 : ByteArray) (r3 : Bool) (w : World) (h : impl_readPart.f m_ a0 = some (r1, r2, r3)),
  Calls Try.prog 107 #[.string a0] w fun e w' => ∃ v0_ : Value, e = .returned (.tuple #[v0_, .string r2, .bool r3]) ∧ Kd.R k62 62 w' w.heap.size (fun _ => True) v0_ r1 ∧ Below w.heap.size w w') (h1_ : ∀ m_, m_ < k → ∀ (a0 : ByteArray) (a1 : ByteArray) (a2 : Int) (a3 : Int) (r1 : List (S62)) (r2 : ByteArray) (r3 : Bool) (w : World) (h : impl_readRowC.f m_ a0 a1 a2 a3 = some (r1, r2, r3)),
  Calls Try.prog 89 #[.string a0, .string a1, .int .i64 a2, .func (.func 107) #[] #[]] w fun e w' => ∃ v0_ : Value, e = .returned (.tuple #[v0_, .string r2, .bool r3]) ∧ Kd.R k62 62 w' w.heap.size (fun _ => True) v0_ r1 ∧ Below w.heap.size w w') (h2_ : ∀ m_, m_ < k → ∀ (a0 : ByteArray) (r1 : List (S62)) (r2 : ByteArray) (r3 : Bool) (w : World) (h : impl_readAnd.f m_ a0 = some (r1, r2, r3)),
  Calls Try.prog 102 #[.string a0] w fun e w' => ∃ v0_ : Value, e = .returned (.tuple #[v0_, .string r2, .bool r3]) ∧ Kd.R k62 62 w' w.heap.size (fun _ => True) v0_ r1 ∧ Below w.heap.size w w') (h3_ : ∀ m_, m_ < k → ∀ (a0 : ByteArray) (a1 : ByteArray) (a2 : Int) (a3 : Int) (r1 : List (S62)) (r2 : ByteArray) (r3 : Bool) (w : World) (h : impl_readRowB.f m_ a0 a1 a2 a3 = some (r1, r2, r3)),
  Calls Try.prog 89 #[.string a0, .string a1, .int .i64 a2, .func (.func 102) #[] #[]] w fun e w' => ∃ v0_ : Value, e = .returned (.tuple #[v0_, .string r2, .bool r3]) ∧ Kd.R k62 62 w' w.heap.size (fun _ => True) v0_ r1 ∧ Below w.heap.size w w') (h4_ : ∀ m_, m_ < k → ∀ (a0 : ByteArray) (r1 : List (S62)) (r2 : ByteArray) (r3 : Bool) (w : World) (h : impl_readOr.f m_ a0 = some (r1, r2, r3)),
  Calls Try.prog 90 #[.string a0] w fun e w' => ∃ v0_ : Value, e = .returned (.tuple #[v0_, .string r2, .bool r3]) ∧ Kd.R k62 62 w' w.heap.size (fun _ => True) v0_ r1 ∧ Below w.heap.size w w') (h5_ : ∀ m_, m_ < k → ∀ (a0 : ByteArray) (a1 : ByteArray) (a2 : Int) (a3 : Int) (r1 : List (S62)) (r2 : ByteArray) (r3 : Bool) (w : World) (h : impl_readRowA.f m_ a0 a1 a2 a3 = some (r1, r2, r3)),
  Calls Try.prog 89 #[.string a0, .string a1, .int .i64 a2, .func (.func 90) #[] #[]] w fun e w' => ∃ v0_ : Value, e = .returned (.tuple #[v0_, .string r2, .bool r3]) ∧ Kd.R k62 62 w' w.heap.size (fun _ => True) v0_ r1 ∧ Below w.heap.size w w') (h6_ : ∀ m_, m_ < k → ∀ (a0 : ByteArray) (r1 : List (S62)) (r2 : ByteArray) (r3 : Bool) (w : World) (h : impl_readSame.f m_ a0 = some (r1, r2, r3)),
  Calls Try.prog 63 #[.string a0] w fun e w' => ∃ v0_ : Value, e = .returned (.tuple #[v0_, .string r2, .bool r3]) ∧ Kd.R k62 62 w' w.heap.size (fun _ => True) v0_ r1 ∧ Below w.heap.size w w') : ∀ (a0 : ByteArray) (a1 : ByteArray) (a2 : Int) (a3 : Int) (r1 : List (S62)) (r2 : ByteArray) (r3 : Bool) (w : World) (h : impl_readRowA.f k a0 a1 a2 a3 = some (r1, r2, r3)),
  Calls Try.prog 89 #[.string a0, .string a1, .int .i64 a2, .func (.func 90) #[] #[]] w fun e w' => ∃ v0_ : Value, e = .returned (.tuple #[v0_, .string r2, .bool r3]) ∧ Kd.R k62 62 w' w.heap.size (fun _ => True) v0_ r1 ∧ Below w.heap.size w w' := by
 have ih := h5_
 intro a0 a1 a2 a3 r1 r2 r3 w h
 cases k with
 | zero => exact absurd h (by simp [impl_readRowA.f])
 | succ k =>
 simp only [impl_readRowA.f] at h
 have hu62 := Try.underlying62
 have HB := Aside0.mk (Below.refl w.heap.size w)
 have H : ((impl_readOr.f k a0).bind fun bt438 => (impl_readRowA.l0 k bt438.2.1 a1 a2 bt438.1 bt438.2.2)) = some (r1, r2, r3) := h
 clear h
 replace H := Option.bind_eq_some_iff.mp H
 obtain ⟨⟨t438, t439, t440⟩, A50, H⟩ := H
 replace H : (impl_readRowA.l0 k t439 a1 a2 t438 t440) = some (r1, r2, r3) := H
 have A5 := Aside0.mk A50
 clear A50
 have H' := Aside0.mk H
 clear H
 go_enter Try.func89, Try.ntmps89
 go_wp2_with (first | ((with_reducible refine gate_dyn (c := 17) rfl ?_); refine goesD_ (some 19) rfl rfl Try.func90 (by kernel_rfl) rfl #[.string a0] rfl (by first | rfl | (go_simp; done) | (go_simp; rfl)) pwk_ ?_; (with_reducible refine (h4_ k (by omega) a0 t438 t439 t440 _ A5.out).mono ?_); rintro e w6 ⟨v441, rfl, ho0, hb⟩; refine ⟨_, rfl, ?_⟩; have n0_ := Aside0.mk (Kd.R_lower ho0 (below_size pwi_)); have n1_ := Aside0.mk (below_step pwi_ hb); clear HB; have HO442 := n0_; have HB := n1_; clear n0_ n1_; (try clear hb); (try clear hb2); (try clear hk); (try clear hi); (try clear ho0)))
 go_loopg [0, 11, 12] k (fun kq v0 v11 v12 w' => ∃ (x0_1 : ByteArray) (x11_1 : List (S62)) (x12_1 : Bool), v0 = .string x0_1 ∧ v12 = .bool x12_1 ∧ Aside0 (impl_readRowA.l0 kq x0_1 a1 a2 x11_1 x12_1 = some (r1, r2, r3)) ∧ Aside0 (kq ≤ k) ∧ Aside0 (Kd.R k62 62 w' w.heap.size (fun _ => True) v11 x11_1) ∧ Aside0 (Below w.heap.size w w'))
 case atStart => exact ⟨(t439), (t438), (t440), pwa_, pwa_, H', ⟨Nat.le_refl _⟩, ⟨by (with_reducible repeat apply Kd.R_alloc); exact HO442.out⟩, ⟨pwi_⟩⟩
 case round =>
  clear H'
  try clear c1
  try clear p2
  obtain ⟨x0_1, x11_1, x12_1, rfl, rfl, HA, HK1, HO_11, HB⟩ := hrel
  cases gk with
  | zero => exact absurd HA.out (by simp [impl_readRowA.l0])
  | succ k1 =>
   have H := HA.out
   clear HA
   simp only [impl_readRowA.l0] at H
   by_cases c7 : x12_1 = true
   ·subst c7
    have H1 : ((strings_CutPrefix.f x0_1 a1).bind fun bt443 => (if bt443.2 = true then ((impl_readOr.f k1 bt443.1).bind fun bt445 => (if x11_1.length + bt445.1.length < 8796093022208 then ((some (x11_1 ++ bt445.1 : List (S62))).bind fun y450 => (if y450.length < 8796093022208 then (impl_readRowA.l0 k1 bt445.2.1 a1 a2 (y450 ++ [(⟨a2, 0⟩ : S62)]) bt445.2.2) else (none))) else (none))) else (some (x11_1, x0_1, true)))) = some (r1, r2, r3) := by rw [if_pos rfl] at H; exact H
    clear H
    have H := H1
    clear H1
    replace H := Option.bind_eq_some_iff.mp H
    obtain ⟨⟨t443, t444⟩, A80, H⟩ := H
    replace H : (if t444 = true then ((impl_readOr.f k1 t443).bind fun bt445 => (if x11_1.length + bt445.1.length < 8796093022208 then ((some (x11_1 ++ bt445.1 : List (S62))).bind fun y450 => (if y450.length < 8796093022208 then (impl_readRowA.l0 k1 bt445.2.1 a1 a2 (y450 ++ [(⟨a2, 0⟩ : S62)]) bt445.2.2) else (none))) else (none))) else (some (x11_1, x0_1, true))) = some (r1, r2, r3) := H
    have A8 := Aside0.mk A80
    clear A80
    by_cases c9 : t444 = true
    ·subst c9
     have H1 : ((impl_readOr.f k1 t443).bind fun bt445 => (if x11_1.length + bt445.1.length < 8796093022208 then ((some (x11_1 ++ bt445.1 : List (S62))).bind fun y450 => (if y450.length < 8796093022208 then (impl_readRowA.l0 k1 bt445.2.1 a1 a2 (y450 ++ [(⟨a2, 0⟩ : S62)]) bt445.2.2) else (none))) else (none))) = some (r1, r2, r3) := by rw [if_pos rfl] at H; exact H
     clear H
     have H := H1
     clear H1
     replace H := Option.bind_eq_some_iff.mp H
     obtain ⟨⟨t445, t446, t447⟩, A100, H⟩ := H
     replace H : (if x11_1.length + t445.length < 8796093022208 then ((some (x11_1 ++ t445 : List (S62))).bind fun y450 => (if y450.length < 8796093022208 then (impl_readRowA.l0 k1 t446 a1 a2 (y450 ++ [(⟨a2, 0⟩ : S62)]) t447) else (none))) else (none)) = some (r1, r2, r3) := H
     have A10 := Aside0.mk A100
     clear A100
     by_cases c11 : x11_1.length + t445.length < 8796093022208
     ·rw [if_pos c11] at H
      have LMc11 := Aside0.mk c11
      clear c11
      obtain ⟨y450, hy450⟩ : ∃ y_ : List (S62), y_ = (x11_1 ++ t445) := ⟨_, rfl⟩
      replace H : (if y450.length < 8796093022208 then (impl_readRowA.l0 k1 t446 a1 a2 (y450 ++ [(⟨a2, 0⟩ : S62)]) t447) else (none)) = some (r1, r2, r3) := by first | (rw [hy450]; with_reducible exact H) | (have H2_ := (Option.bind_some _ _).symm.trans H; rw [hy450]; with_reducible exact H2_) | (have H2_ := (Option.bind_some _ _).symm.trans H; with_reducible exact H2_) | with_reducible exact H | (rw [hy450]; exact H) | exact H
      have Ny450 := Aside0.mk hy450
      clear hy450
      by_cases c12 : y450.length < 8796093022208
      ·rw [if_pos c12] at H
       have LMc12 := Aside0.mk c12
       clear c12
       obtain ⟨y453, hy453⟩ : ∃ y_ : List (S62), y_ = (y450 ++ [(⟨a2, 0⟩ : S62)]) := ⟨_, rfl⟩
       replace H : (impl_readRowA.l0 k1 t446 a1 a2 y453 t447) = some (r1, r2, r3) := by first | (rw [hy453]; with_reducible exact H) | (have H2_ := (Option.bind_some _ _).symm.trans H; rw [hy453]; with_reducible exact H2_) | (have H2_ := (Option.bind_some _ _).symm.trans H; with_reducible exact H2_) | with_reducible exact H | (rw [hy453]; exact H) | exact H
       have Ny453 := Aside0.mk hy453
       clear hy453
       have H' := Aside0.mk H
       clear H
       go_wp2_with (first | ((with_reducible refine gate_callee (f := 101) rfl ?_); refine goesL_ (some 27) rfl rfl Try.func101 (by kernel_rfl) rfl #[.string x0_1, .string a1] rfl pwk_ ?_; (with_reducible refine (strings_CutPrefix.calls x0_1 a1 t443 true _ A8.out).mono ?_); rintro e w' ⟨rfl, ⟨nd, rfl⟩⟩; refine ⟨_, rfl, ?_⟩) | ((with_reducible refine gate_dyn (c := 35) rfl ?_); refine goesD_ (some 37) rfl rfl Try.func90 (by kernel_rfl) rfl #[.string t443] rfl (by first | rfl | (go_simp; done) | (go_simp; rfl)) pwk_ ?_; (with_reducible refine (h4_ k1 (by have := HK1.out; omega) t443 t445 t446 t447 _ A10.out).mono ?_); rintro e w13 ⟨v448, rfl, ho0, hb⟩; refine ⟨_, rfl, ?_⟩; have n0_ := Aside0.mk (Kd.R_elder' pwf_ (Kd.R_base ho0) hb); have n1_ := Aside0.mk (Kd.R_lower (Kd.R_new' ho0 (Kd.R_lt pwf_)) (below_size pwi_)); have n2_ := Aside0.mk (below_step pwi_ hb); clear HO_11; clear HB; have HO_11 := n0_; have HO449 := n1_; have HB := n2_; clear n0_ n1_ n2_; (try clear hb); (try clear hb2); (try clear hk); (try clear hi); (try clear ho0); obtain ⟨Ao15, co15, eo15⟩ := Kd.R_slice HO449.out; subst eo15) | ((with_reducible refine gate_builtin (b := .append) (xs := #[.tmp 41, .tmp 42]) rfl ?_); at_builtin; refine Kd.R_append_rows k62 (w0 := w) w.heap.size rfl (.tmp 41) (.tmp 42) 25 62 (.agg #[(.int .i64 0), (.int .i64 0)]) 16 rfl Try.underlying25 info62 rfl (by decide) (by omega) u11 x11_1 t445 _ _ _ (fun k_ => some k_ ≠ (.slice Ao15 t445.length co15 : Value).ownBlock) (fun _ => False) rfl rfl ?aO ?aR (fun _ _ h => h) (fun _ h => h.elim) ?aF ?aB ?aS ?aL ?_; (case aR => repeat (first | exact (Kd.R_reads' HO449.out).2.2 | (with_reducible refine Kd.C_alloc ?_ _) | (with_reducible refine Kd.C_drewN ?_ _) | (with_reducible refine Kd.C_drew ?_))); (case aB => exact pwi_); (case aF => exact (fun k_ hk => Kd.fresh' (Kd.R_lt (by (with_reducible repeat apply Kd.R_alloc); exact HO449.out)) k_ hk)); (case aO => exact (by (with_reducible repeat apply Kd.R_alloc); exact Kd.R_mono HO_11.out (fun _ hk => hk.2))); (case aS => exact (below_size pwi_)); (case aL => have := LMc11.out; omega); intro v451 w14 ho hb hg hat; rw [← Ny450.out] at ho; have n0_ := Aside0.mk (Kd.R_after (ok := (fun _ => True)) (by (with_reducible repeat apply Kd.R_alloc); exact HO449.out) hg hat); have n1_ := Aside0.mk (hb); have n2_ := Aside0.mk (ho); clear HO449; clear HB; clear HO_11; have HO449 := n0_; have HB := n1_; have HO452 := n2_; clear n0_ n1_ n2_; clear ho hb hg hat) | ((with_reducible refine gate_builtin (b := .append) (xs := #[.tmp 43, .tmp 46]) rfl ?_); at_builtin; refine Kd.R_append k62 (w0 := w) w.heap.size rfl (.tmp 43) (.tmp 46) 25 62 (.agg #[(.int .i64 0), (.int .i64 0)]) 16 rfl Try.underlying25 info62 rfl (by decide) (by omega) v451 y450 (⟨a2, 0⟩ : S62) [.int .i64 a2, .int .i64 0] (fun k_ => some k_ ≠ (.slice Ao15 t445.length co15 : Value).ownBlock) (fun _ => False) rfl rfl ?aP (fun _ hk => hk.elim) ?aF ?aO ?aB ?aS ?aL ?_; (case aP => exact k62_mkM _ _ _ (⟨a2, 0⟩ : S62)); (case aB => exact pwi_); (case aF => exact (fun k_ hk => Kd.fresh' (Kd.R_lt (by (with_reducible repeat apply Kd.R_alloc); exact HO449.out)) k_ hk)); (case aO => exact (by (with_reducible repeat apply Kd.R_alloc); exact HO452.out)); (case aS => exact (below_size pwi_)); (case aL => have := LMc12.out; omega); intro v454 w16 ho hb hg hat; rw [← Ny453.out] at ho; have n0_ := Aside0.mk (Kd.R_after (ok := (fun _ => True)) (by (with_reducible repeat apply Kd.R_alloc); exact HO449.out) hg hat); have n1_ := Aside0.mk (hb); have n2_ := Aside0.mk (ho); clear HO449; clear HB; clear HO452; have HO449 := n0_; have HB := n1_; have HO455 := n2_; clear n0_ n1_ n2_; clear ho hb hg hat))
       go_roundg k1
       case measure => have := HK1.out; omega
       case rel => exact ⟨(t446), (y453), (t447), pwa_, pwa_, H', ⟨by have := HK1.out; omega⟩, ⟨by (with_reducible repeat apply Kd.R_alloc); exact Kd.R_mono HO455.out (fun _ hk => trivial)⟩, ⟨pwi_⟩⟩
      ·rw [if_neg c12] at H
       exact absurd H (by simp)
     ·rw [if_neg c11] at H
      exact absurd H (by simp)
    ·replace c9 := Bool.eq_false_iff.mpr c9
     subst c9
     have H1 : (some (x11_1, x0_1, true)) = some (r1, r2, r3) := by rw [if_neg (show ¬ (false = true) by decide)] at H; exact H
     clear H
     have H := H1
     clear H1
     simp only [Option.some.injEq, Prod.mk.injEq] at H
     obtain ⟨rfl, rfl, rfl⟩ := H
     go_wp2_with (first | ((with_reducible refine gate_callee (f := 101) rfl ?_); refine goesL_ (some 27) rfl rfl Try.func101 (by kernel_rfl) rfl #[.string x0_1, .string a1] rfl pwk_ ?_; (with_reducible refine (strings_CutPrefix.calls x0_1 a1 t443 false _ A8.out).mono ?_); rintro e w' ⟨rfl, ⟨nd, rfl⟩⟩; refine ⟨_, rfl, ?_⟩))
     go_ret3
     exact ⟨_, by first | rfl | (simp [errW_none, errW_some] <;> rfl) | (simp [*, errW_none, errW_some] <;> rfl), pwf_, pwi_⟩
   ·replace c7 := Bool.eq_false_iff.mpr c7
    subst c7
    have H1 : (some (([] : List (S62)), x0_1, false)) = some (r1, r2, r3) := by rw [if_neg (show ¬ (false = true) by decide)] at H; exact H
    clear H
    have H := H1
    clear H1
    simp only [Option.some.injEq, Prod.mk.injEq] at H
    obtain ⟨rfl, rfl, rfl⟩ := H
    go_wp2
    go_ret3
    exact ⟨_, by first | rfl | (simp [errW_none, errW_some] <;> rfl) | (simp [*, errW_none, errW_some] <;> rfl), by first | exact Kd.R_nil _ _ _ _ _ | exact Kd.N_nil _ _ _ _ _ | exact Kd.V_nil _ _ _ _ _ | exact Kd.Q_nil _ _ _ _ _ | exact Kd.S_nil _ _ _ _ _, pwi_⟩
set_option maxHeartbeats 8000000 in
set_option maxRecDepth 100000 in
theorem impl_readSame.step (k : Nat) (h0_ : ∀ m_, m_ < k → ∀ (a0 : ByteArray) (r1 : List (S62)) (r2 : ByteArray) (r3 : Bool) (w : World) (h : impl_readPart.f m_ a0 = some (r1, r2, r3)),
  Calls Try.prog 107 #[.string a0] w fun e w' => ∃ v0_ : Value, e = .returned (.tuple #[v0_, .string r2, .bool r3]) ∧ Kd.R k62 62 w' w.heap.size (fun _ => True) v0_ r1 ∧ Below w.heap.size w w') (h1_ : ∀ m_, m_ < k → ∀ (a0 : ByteArray) (a1 : ByteArray) (a2 : Int) (a3 : Int) (r1 : List (S62)) (r2 : ByteArray) (r3 : Bool) (w : World) (h : impl_readRowC.f m_ a0 a1 a2 a3 = some (r1, r2, r3)),
  Calls Try.prog 89 #[.string a0, .string a1, .int .i64 a2, .func (.func 107) #[] #[]] w fun e w' => ∃ v0_ : Value, e = .returned (.tuple #[v0_, .string r2, .bool r3]) ∧ Kd.R k62 62 w' w.heap.size (fun _ => True) v0_ r1 ∧ Below w.heap.size w w') (h2_ : ∀ m_, m_ < k → ∀ (a0 : ByteArray) (r1 : List (S62)) (r2 : ByteArray) (r3 : Bool) (w : World) (h : impl_readAnd.f m_ a0 = some (r1, r2, r3)),
  Calls Try.prog 102 #[.string a0] w fun e w' => ∃ v0_ : Value, e = .returned (.tuple #[v0_, .string r2, .bool r3]) ∧ Kd.R k62 62 w' w.heap.size (fun _ => True) v0_ r1 ∧ Below w.heap.size w w') (h3_ : ∀ m_, m_ < k → ∀ (a0 : ByteArray) (a1 : ByteArray) (a2 : Int) (a3 : Int) (r1 : List (S62)) (r2 : ByteArray) (r3 : Bool) (w : World) (h : impl_readRowB.f m_ a0 a1 a2 a3 = some (r1, r2, r3)),
  Calls Try.prog 89 #[.string a0, .string a1, .int .i64 a2, .func (.func 102) #[] #[]] w fun e w' => ∃ v0_ : Value, e = .returned (.tuple #[v0_, .string r2, .bool r3]) ∧ Kd.R k62 62 w' w.heap.size (fun _ => True) v0_ r1 ∧ Below w.heap.size w w') (h4_ : ∀ m_, m_ < k → ∀ (a0 : ByteArray) (r1 : List (S62)) (r2 : ByteArray) (r3 : Bool) (w : World) (h : impl_readOr.f m_ a0 = some (r1, r2, r3)),
  Calls Try.prog 90 #[.string a0] w fun e w' => ∃ v0_ : Value, e = .returned (.tuple #[v0_, .string r2, .bool r3]) ∧ Kd.R k62 62 w' w.heap.size (fun _ => True) v0_ r1 ∧ Below w.heap.size w w') (h5_ : ∀ m_, m_ < k → ∀ (a0 : ByteArray) (a1 : ByteArray) (a2 : Int) (a3 : Int) (r1 : List (S62)) (r2 : ByteArray) (r3 : Bool) (w : World) (h : impl_readRowA.f m_ a0 a1 a2 a3 = some (r1, r2, r3)),
  Calls Try.prog 89 #[.string a0, .string a1, .int .i64 a2, .func (.func 90) #[] #[]] w fun e w' => ∃ v0_ : Value, e = .returned (.tuple #[v0_, .string r2, .bool r3]) ∧ Kd.R k62 62 w' w.heap.size (fun _ => True) v0_ r1 ∧ Below w.heap.size w w') (h6_ : ∀ m_, m_ < k → ∀ (a0 : ByteArray) (r1 : List (S62)) (r2 : ByteArray) (r3 : Bool) (w : World) (h : impl_readSame.f m_ a0 = some (r1, r2, r3)),
  Calls Try.prog 63 #[.string a0] w fun e w' => ∃ v0_ : Value, e = .returned (.tuple #[v0_, .string r2, .bool r3]) ∧ Kd.R k62 62 w' w.heap.size (fun _ => True) v0_ r1 ∧ Below w.heap.size w w') : ∀ (a0 : ByteArray) (r1 : List (S62)) (r2 : ByteArray) (r3 : Bool) (w : World) (h : impl_readSame.f k a0 = some (r1, r2, r3)),
  Calls Try.prog 63 #[.string a0] w fun e w' => ∃ v0_ : Value, e = .returned (.tuple #[v0_, .string r2, .bool r3]) ∧ Kd.R k62 62 w' w.heap.size (fun _ => True) v0_ r1 ∧ Below w.heap.size w w' := by
 have ih := h6_
 intro a0 r1 r2 r3 w h
 cases k with
 | zero => exact absurd h (by simp [impl_readSame.f])
 | succ k =>
 simp only [impl_readSame.f] at h
 have HB := Aside0.mk (Below.refl w.heap.size w)
 have H : ((impl_readRowA.f k a0 (⟨#[61]⟩ : ByteArray) 5 777090).bind fun bt456 => (some (bt456.1, bt456.2.1, bt456.2.2))) = some (r1, r2, r3) := h
 clear h
 replace H := Option.bind_eq_some_iff.mp H
 obtain ⟨⟨t456, t457, t458⟩, A20, H⟩ := H
 replace H : (some (t456, t457, t458)) = some (r1, r2, r3) := H
 have A2 := Aside0.mk A20
 clear A20
 simp only [Option.some.injEq, Prod.mk.injEq] at H
 obtain ⟨rfl, rfl, rfl⟩ := H
 go_enter Try.func63, Try.ntmps63
 go_wp2_with (first | ((with_reducible refine gate_callee (f := 89) rfl ?_); refine goesL_ (some 6) rfl rfl Try.func89 (by kernel_rfl) rfl #[.string a0, .string (⟨#[61]⟩ : ByteArray), .int .i64 5, .func (.func 090) #[] #[]] rfl pwk_ ?_; (with_reducible refine (h5_ k (by omega) a0 (⟨#[61]⟩ : ByteArray) 5 777090 t456 t457 t458 _ A2.out).mono ?_); rintro e w3 ⟨v459, rfl, ho0, hb⟩; refine ⟨_, rfl, ?_⟩; have n0_ := Aside0.mk (Kd.R_lower ho0 (below_size pwi_)); have n1_ := Aside0.mk (below_step pwi_ hb); clear HB; have HO460 := n0_; have HB := n1_; clear n0_ n1_; (try clear hb); (try clear hb2); (try clear hk); (try clear hi); (try clear ho0)))
 go_ret3
 exact ⟨_, by first | rfl | (simp [errW_none, errW_some] <;> rfl) | (simp [*, errW_none, errW_some] <;> rfl), by (with_reducible repeat apply Kd.R_alloc); exact HO460.out, pwi_⟩
theorem readSame_readPart_c.both (k : Nat) : (∀ (a0 : ByteArray) (r1 : List (S62)) (r2 : ByteArray) (r3 : Bool) (w : World) (h : impl_readPart.f k a0 = some (r1, r2, r3)),
  Calls Try.prog 107 #[.string a0] w fun e w' => ∃ v0_ : Value, e = .returned (.tuple #[v0_, .string r2, .bool r3]) ∧ Kd.R k62 62 w' w.heap.size (fun _ => True) v0_ r1 ∧ Below w.heap.size w w') ∧ (∀ (a0 : ByteArray) (a1 : ByteArray) (a2 : Int) (a3 : Int) (r1 : List (S62)) (r2 : ByteArray) (r3 : Bool) (w : World) (h : impl_readRowC.f k a0 a1 a2 a3 = some (r1, r2, r3)),
  Calls Try.prog 89 #[.string a0, .string a1, .int .i64 a2, .func (.func 107) #[] #[]] w fun e w' => ∃ v0_ : Value, e = .returned (.tuple #[v0_, .string r2, .bool r3]) ∧ Kd.R k62 62 w' w.heap.size (fun _ => True) v0_ r1 ∧ Below w.heap.size w w') ∧ (∀ (a0 : ByteArray) (r1 : List (S62)) (r2 : ByteArray) (r3 : Bool) (w : World) (h : impl_readAnd.f k a0 = some (r1, r2, r3)),
  Calls Try.prog 102 #[.string a0] w fun e w' => ∃ v0_ : Value, e = .returned (.tuple #[v0_, .string r2, .bool r3]) ∧ Kd.R k62 62 w' w.heap.size (fun _ => True) v0_ r1 ∧ Below w.heap.size w w') ∧ (∀ (a0 : ByteArray) (a1 : ByteArray) (a2 : Int) (a3 : Int) (r1 : List (S62)) (r2 : ByteArray) (r3 : Bool) (w : World) (h : impl_readRowB.f k a0 a1 a2 a3 = some (r1, r2, r3)),
  Calls Try.prog 89 #[.string a0, .string a1, .int .i64 a2, .func (.func 102) #[] #[]] w fun e w' => ∃ v0_ : Value, e = .returned (.tuple #[v0_, .string r2, .bool r3]) ∧ Kd.R k62 62 w' w.heap.size (fun _ => True) v0_ r1 ∧ Below w.heap.size w w') ∧ (∀ (a0 : ByteArray) (r1 : List (S62)) (r2 : ByteArray) (r3 : Bool) (w : World) (h : impl_readOr.f k a0 = some (r1, r2, r3)),
  Calls Try.prog 90 #[.string a0] w fun e w' => ∃ v0_ : Value, e = .returned (.tuple #[v0_, .string r2, .bool r3]) ∧ Kd.R k62 62 w' w.heap.size (fun _ => True) v0_ r1 ∧ Below w.heap.size w w') ∧ (∀ (a0 : ByteArray) (a1 : ByteArray) (a2 : Int) (a3 : Int) (r1 : List (S62)) (r2 : ByteArray) (r3 : Bool) (w : World) (h : impl_readRowA.f k a0 a1 a2 a3 = some (r1, r2, r3)),
  Calls Try.prog 89 #[.string a0, .string a1, .int .i64 a2, .func (.func 90) #[] #[]] w fun e w' => ∃ v0_ : Value, e = .returned (.tuple #[v0_, .string r2, .bool r3]) ∧ Kd.R k62 62 w' w.heap.size (fun _ => True) v0_ r1 ∧ Below w.heap.size w w') ∧ (∀ (a0 : ByteArray) (r1 : List (S62)) (r2 : ByteArray) (r3 : Bool) (w : World) (h : impl_readSame.f k a0 = some (r1, r2, r3)),
  Calls Try.prog 63 #[.string a0] w fun e w' => ∃ v0_ : Value, e = .returned (.tuple #[v0_, .string r2, .bool r3]) ∧ Kd.R k62 62 w' w.heap.size (fun _ => True) v0_ r1 ∧ Below w.heap.size w w') := by
 induction k using Nat.strongRecOn with
 | _ k ih =>
  exact ⟨impl_readPart.step k (fun m h => (ih m h).1) (fun m h => (ih m h).2.1) (fun m h => (ih m h).2.2.1) (fun m h => (ih m h).2.2.2.1) (fun m h => (ih m h).2.2.2.2.1) (fun m h => (ih m h).2.2.2.2.2.1) (fun m h => (ih m h).2.2.2.2.2.2), impl_readRowC.step k (fun m h => (ih m h).1) (fun m h => (ih m h).2.1) (fun m h => (ih m h).2.2.1) (fun m h => (ih m h).2.2.2.1) (fun m h => (ih m h).2.2.2.2.1) (fun m h => (ih m h).2.2.2.2.2.1) (fun m h => (ih m h).2.2.2.2.2.2), impl_readAnd.step k (fun m h => (ih m h).1) (fun m h => (ih m h).2.1) (fun m h => (ih m h).2.2.1) (fun m h => (ih m h).2.2.2.1) (fun m h => (ih m h).2.2.2.2.1) (fun m h => (ih m h).2.2.2.2.2.1) (fun m h => (ih m h).2.2.2.2.2.2), impl_readRowB.step k (fun m h => (ih m h).1) (fun m h => (ih m h).2.1) (fun m h => (ih m h).2.2.1) (fun m h => (ih m h).2.2.2.1) (fun m h => (ih m h).2.2.2.2.1) (fun m h => (ih m h).2.2.2.2.2.1) (fun m h => (ih m h).2.2.2.2.2.2), impl_readOr.step k (fun m h => (ih m h).1) (fun m h => (ih m h).2.1) (fun m h => (ih m h).2.2.1) (fun m h => (ih m h).2.2.2.1) (fun m h => (ih m h).2.2.2.2.1) (fun m h => (ih m h).2.2.2.2.2.1) (fun m h => (ih m h).2.2.2.2.2.2), impl_readRowA.step k (fun m h => (ih m h).1) (fun m h => (ih m h).2.1) (fun m h => (ih m h).2.2.1) (fun m h => (ih m h).2.2.2.1) (fun m h => (ih m h).2.2.2.2.1) (fun m h => (ih m h).2.2.2.2.2.1) (fun m h => (ih m h).2.2.2.2.2.2), impl_readSame.step k (fun m h => (ih m h).1) (fun m h => (ih m h).2.1) (fun m h => (ih m h).2.2.1) (fun m h => (ih m h).2.2.2.1) (fun m h => (ih m h).2.2.2.2.1) (fun m h => (ih m h).2.2.2.2.2.1) (fun m h => (ih m h).2.2.2.2.2.2)⟩
theorem impl_readPart.calls (k : Nat) : ∀ (a0 : ByteArray) (r1 : List (S62)) (r2 : ByteArray) (r3 : Bool) (w : World) (h : impl_readPart.f k a0 = some (r1, r2, r3)),
  Calls Try.prog 107 #[.string a0] w fun e w' => ∃ v0_ : Value, e = .returned (.tuple #[v0_, .string r2, .bool r3]) ∧ Kd.R k62 62 w' w.heap.size (fun _ => True) v0_ r1 ∧ Below w.heap.size w w' := (readSame_readPart_c.both k).1
theorem impl_readRowC.calls (k : Nat) : ∀ (a0 : ByteArray) (a1 : ByteArray) (a2 : Int) (a3 : Int) (r1 : List (S62)) (r2 : ByteArray) (r3 : Bool) (w : World) (h : impl_readRowC.f k a0 a1 a2 a3 = some (r1, r2, r3)),
  Calls Try.prog 89 #[.string a0, .string a1, .int .i64 a2, .func (.func 107) #[] #[]] w fun e w' => ∃ v0_ : Value, e = .returned (.tuple #[v0_, .string r2, .bool r3]) ∧ Kd.R k62 62 w' w.heap.size (fun _ => True) v0_ r1 ∧ Below w.heap.size w w' := (readSame_readPart_c.both k).2.1
theorem impl_readAnd.calls (k : Nat) : ∀ (a0 : ByteArray) (r1 : List (S62)) (r2 : ByteArray) (r3 : Bool) (w : World) (h : impl_readAnd.f k a0 = some (r1, r2, r3)),
  Calls Try.prog 102 #[.string a0] w fun e w' => ∃ v0_ : Value, e = .returned (.tuple #[v0_, .string r2, .bool r3]) ∧ Kd.R k62 62 w' w.heap.size (fun _ => True) v0_ r1 ∧ Below w.heap.size w w' := (readSame_readPart_c.both k).2.2.1
theorem impl_readRowB.calls (k : Nat) : ∀ (a0 : ByteArray) (a1 : ByteArray) (a2 : Int) (a3 : Int) (r1 : List (S62)) (r2 : ByteArray) (r3 : Bool) (w : World) (h : impl_readRowB.f k a0 a1 a2 a3 = some (r1, r2, r3)),
  Calls Try.prog 89 #[.string a0, .string a1, .int .i64 a2, .func (.func 102) #[] #[]] w fun e w' => ∃ v0_ : Value, e = .returned (.tuple #[v0_, .string r2, .bool r3]) ∧ Kd.R k62 62 w' w.heap.size (fun _ => True) v0_ r1 ∧ Below w.heap.size w w' := (readSame_readPart_c.both k).2.2.2.1
theorem impl_readOr.calls (k : Nat) : ∀ (a0 : ByteArray) (r1 : List (S62)) (r2 : ByteArray) (r3 : Bool) (w : World) (h : impl_readOr.f k a0 = some (r1, r2, r3)),
  Calls Try.prog 90 #[.string a0] w fun e w' => ∃ v0_ : Value, e = .returned (.tuple #[v0_, .string r2, .bool r3]) ∧ Kd.R k62 62 w' w.heap.size (fun _ => True) v0_ r1 ∧ Below w.heap.size w w' := (readSame_readPart_c.both k).2.2.2.2.1
theorem impl_readRowA.calls (k : Nat) : ∀ (a0 : ByteArray) (a1 : ByteArray) (a2 : Int) (a3 : Int) (r1 : List (S62)) (r2 : ByteArray) (r3 : Bool) (w : World) (h : impl_readRowA.f k a0 a1 a2 a3 = some (r1, r2, r3)),
  Calls Try.prog 89 #[.string a0, .string a1, .int .i64 a2, .func (.func 90) #[] #[]] w fun e w' => ∃ v0_ : Value, e = .returned (.tuple #[v0_, .string r2, .bool r3]) ∧ Kd.R k62 62 w' w.heap.size (fun _ => True) v0_ r1 ∧ Below w.heap.size w w' := (readSame_readPart_c.both k).2.2.2.2.2.1
theorem impl_readSame.calls (k : Nat) : ∀ (a0 : ByteArray) (r1 : List (S62)) (r2 : ByteArray) (r3 : Bool) (w : World) (h : impl_readSame.f k a0 = some (r1, r2, r3)),
  Calls Try.prog 63 #[.string a0] w fun e w' => ∃ v0_ : Value, e = .returned (.tuple #[v0_, .string r2, .bool r3]) ∧ Kd.R k62 62 w' w.heap.size (fun _ => True) v0_ r1 ∧ Below w.heap.size w w' := (readSame_readPart_c.both k).2.2.2.2.2.2

/-! ### impl_ReadTerm: function 16 -/
def impl_ReadTerm.j0 : Nat → Int → ByteArray → Bool → Option ((List (S62)) × Bool)
 | 0, _, _, _ => none
 | k + 1, x0, x1, x16 => if x16 = true then (some (([] : List (S62)), false)) else ((impl_readSame.f k x1).bind fun bt462 => (if bt462.2.2 = true then (if bt462.2.1.toList = ([] : List UInt8) then ((impl_TermText.f k x0 bt462.1).bind fun t467 => (if t467.toList = x1.toList then (some (bt462.1, true)) else (some (([] : List (S62)), false)))) else (some (([] : List (S62)), false))) else (some (([] : List (S62)), false))))
def impl_ReadTerm.f (k : Nat) (a0 : Int) (a1 : ByteArray) : Option ((List (S62)) × Bool) := (impl_peopleOk.f a0).bind fun t461 => (if t461 = true then (impl_ReadTerm.j0 k a0 a1 (decide ((a1.size : Int) > 60))) else (impl_ReadTerm.j0 k a0 a1 true))
theorem impl_ReadTerm.mono_l : ∀ k, (∀ y0 y1 y2, LeO (impl_ReadTerm.j0 k y0 y1 y2) (impl_ReadTerm.j0 (k + 1) y0 y1 y2))
 | 0 => fun _ _ _ r h => by simp [impl_ReadTerm.j0] at h
 | k + 1 => by
  have ih0 := impl_ReadTerm.mono_l k
  ·intro y0 y1 y2
   unfold impl_ReadTerm.j0
   repeat' first
   | (with_reducible exact ih0 _ _ _)
   | (with_reducible exact impl_TermText.mono _ _ _)
   | (with_reducible exact impl_readSame.mono _ _)
   | (with_reducible exact LeO.refl _)
   | (with_reducible exact LeO.none _)
   | (with_reducible refine LeO.ite ?_ ?_)
   | (with_reducible refine LeO.bind ?_ (fun _ => ?_))
   | exact ih0 _ _ _
   | exact impl_TermText.mono _ _ _
   | exact impl_readSame.mono _ _
   | exact LeO.none _
   | refine LeO.ite ?_ ?_
   | refine LeO.bind ?_ (fun _ => ?_)
theorem impl_ReadTerm.mono : ∀ a0 a1 k, LeO (impl_ReadTerm.f k a0 a1) (impl_ReadTerm.f (k + 1) a0 a1) := by
 intro a0 a1 k
 have ih0 := impl_ReadTerm.mono_l k
 unfold impl_ReadTerm.f
 repeat' first
   | (with_reducible exact ih0 _ _ _)
   | (with_reducible exact impl_TermText.mono _ _ _)
   | (with_reducible exact impl_readSame.mono _ _)
   | (with_reducible exact LeO.refl _)
   | (with_reducible exact LeO.none _)
   | (with_reducible refine LeO.ite ?_ ?_)
   | (with_reducible refine LeO.bind ?_ (fun _ => ?_))
   | exact ih0 _ _ _
   | exact impl_TermText.mono _ _ _
   | exact impl_readSame.mono _ _
   | exact LeO.none _
   | refine LeO.ite ?_ ?_
   | refine LeO.bind ?_ (fun _ => ?_)
set_option maxHeartbeats 8000000 in
set_option maxRecDepth 100000 in
theorem impl_ReadTerm.calls (k : Nat) (a0 : Int) (a1 : ByteArray) (r1 : List (S62)) (r2 : Bool) (w : World) (h : impl_ReadTerm.f k a0 a1 = some (r1, r2)) :
  Calls Try.prog 16 #[.int .i64 a0, .string a1] w fun e w' => ∃ v0_ : Value, e = .returned (.tuple #[v0_, .bool r2]) ∧ Kd.R k62 62 w' w.heap.size (fun _ => True) v0_ r1 ∧ Below w.heap.size w w' := by
 have HB := Aside0.mk (Below.refl w.heap.size w)
 have H : ((impl_peopleOk.f a0).bind fun t461 => (if t461 = true then (impl_ReadTerm.j0 k a0 a1 (decide ((a1.size : Int) > 60))) else (impl_ReadTerm.j0 k a0 a1 true))) = some (r1, r2) := h
 clear h
 have HC3 := Aside0.mk H
 clear H
 go_enter Try.func16, Try.ntmps16
 go_upto_region 1 with (fail)
 go_cut [16] (fun v16 wc => ∃ (kq : Nat) (x16_2 : Bool), v16 = .bool x16_2 ∧ Aside0 (impl_ReadTerm.j0 kq a0 a1 x16_2 = some (r1, r2)) ∧ Aside0 (kq ≤ k) ∧ Aside0 (Below w.heap.size w wc))
 case first =>
  have H := HC3.out
  clear HC3
  replace H := Option.bind_eq_some_iff.mp H
  obtain ⟨t461, A40, H⟩ := H
  replace H : (if t461 = true then (impl_ReadTerm.j0 k a0 a1 (decide ((a1.size : Int) > 60))) else (impl_ReadTerm.j0 k a0 a1 true)) = some (r1, r2) := H
  have A4 := Aside0.mk A40
  clear A40
  by_cases c5 : t461 = true
  ·subst c5
   have H1 : (impl_ReadTerm.j0 k a0 a1 (decide ((a1.size : Int) > 60))) = some (r1, r2) := by rw [if_pos rfl] at H; exact H
   clear H
   have H := H1
   clear H1
   have H' := Aside0.mk H
   clear H
   go_wp2_with (first | ((with_reducible refine gate_callee (f := 62) rfl ?_); refine goesL_ (some 10) rfl rfl Try.func62 (by kernel_rfl) rfl #[.int .i64 a0] rfl pwk_ ?_; (with_reducible refine (impl_peopleOk.calls a0 true _ A4.out).mono ?_); rintro e w' ⟨rfl, ⟨nd, rfl⟩⟩; refine ⟨_, rfl, ?_⟩))
   go_meet
   case rel => exact ⟨_, (decide ((a1.size : Int) > 60)), pwa_, H', ⟨by first | omega | exact Nat.le_refl _⟩, ⟨pwi_⟩⟩
  ·replace c5 := Bool.eq_false_iff.mpr c5
   subst c5
   have H1 : (impl_ReadTerm.j0 k a0 a1 true) = some (r1, r2) := by rw [if_neg (show ¬ (false = true) by decide)] at H; exact H
   clear H
   have H := H1
   clear H1
   have H' := Aside0.mk H
   clear H
   go_wp2_with (first | ((with_reducible refine gate_callee (f := 62) rfl ?_); refine goesL_ (some 10) rfl rfl Try.func62 (by kernel_rfl) rfl #[.int .i64 a0] rfl pwk_ ?_; (with_reducible refine (impl_peopleOk.calls a0 false _ A4.out).mono ?_); rintro e w' ⟨rfl, ⟨nd, rfl⟩⟩; refine ⟨_, rfl, ?_⟩))
   go_meet
   case rel => exact ⟨_, (true), pwa_, H', ⟨by first | omega | exact Nat.le_refl _⟩, ⟨pwi_⟩⟩
 case rest =>
  clear HC3
  try clear c1
  try clear p2
  try clear c5
  obtain ⟨kq, x16_2, rfl, HA, HJ2, HB⟩ := hcut
  cases kq with
  | zero => exact absurd HA.out (by simp [impl_ReadTerm.j0])
  | succ kj2 =>
   have H := HA.out
   clear HA
   simp only [impl_ReadTerm.j0] at H
   by_cases c6 : x16_2 = true
   ·subst c6
    have H1 : (some (([] : List (S62)), false)) = some (r1, r2) := by rw [if_pos rfl] at H; exact H
    clear H
    have H := H1
    clear H1
    simp only [Option.some.injEq, Prod.mk.injEq] at H
    obtain ⟨rfl, rfl⟩ := H
    go_wp2
    go_ret2
    exact ⟨_, by first | rfl | (simp [errW_none, errW_some] <;> rfl) | (simp [*, errW_none, errW_some] <;> rfl), by first | exact Kd.R_nil _ _ _ _ _ | exact Kd.N_nil _ _ _ _ _ | exact Kd.V_nil _ _ _ _ _ | exact Kd.Q_nil _ _ _ _ _ | exact Kd.S_nil _ _ _ _ _, pwi_⟩
   ·replace c6 := Bool.eq_false_iff.mpr c6
    subst c6
    have H1 : ((impl_readSame.f kj2 a1).bind fun bt462 => (if bt462.2.2 = true then (if bt462.2.1.toList = ([] : List UInt8) then ((impl_TermText.f kj2 a0 bt462.1).bind fun t467 => (if t467.toList = a1.toList then (some (bt462.1, true)) else (some (([] : List (S62)), false)))) else (some (([] : List (S62)), false))) else (some (([] : List (S62)), false)))) = some (r1, r2) := by rw [if_neg (show ¬ (false = true) by decide)] at H; exact H
    clear H
    have H := H1
    clear H1
    replace H := Option.bind_eq_some_iff.mp H
    obtain ⟨⟨t462, t463, t464⟩, A70, H⟩ := H
    replace H : (if t464 = true then (if t463.toList = ([] : List UInt8) then ((impl_TermText.f kj2 a0 t462).bind fun t467 => (if t467.toList = a1.toList then (some (t462, true)) else (some (([] : List (S62)), false)))) else (some (([] : List (S62)), false))) else (some (([] : List (S62)), false))) = some (r1, r2) := H
    have A7 := Aside0.mk A70
    clear A70
    by_cases c8 : t464 = true
    ·subst c8
     have H1 : (if t463.toList = ([] : List UInt8) then ((impl_TermText.f kj2 a0 t462).bind fun t467 => (if t467.toList = a1.toList then (some (t462, true)) else (some (([] : List (S62)), false)))) else (some (([] : List (S62)), false))) = some (r1, r2) := by rw [if_pos rfl] at H; exact H
     clear H
     have H := H1
     clear H1
     by_cases c9 : t463.toList = ([] : List UInt8)
     ·rw [if_pos c9] at H
      have c9b0 : (t463.toList == ([] : List UInt8)) = true := beq_iff_eq.mpr c9
      have c9b1 : (t463.toList != ([] : List UInt8)) = false := bne_eq_false_iff_eq.mpr c9
      clear c9
      replace H := Option.bind_eq_some_iff.mp H
      obtain ⟨t467, A100, H⟩ := H
      replace H : (if t467.toList = a1.toList then (some (t462, true)) else (some (([] : List (S62)), false))) = some (r1, r2) := H
      have A10 := Aside0.mk A100
      clear A100
      by_cases c11 : t467.toList = a1.toList
      ·rw [if_pos c11] at H
       have c11b0 : (t467.toList == a1.toList) = true := beq_iff_eq.mpr c11
       have c11b1 : (t467.toList != a1.toList) = false := bne_eq_false_iff_eq.mpr c11
       clear c11
       simp only [Option.some.injEq, Prod.mk.injEq] at H
       obtain ⟨rfl, rfl⟩ := H
       go_wp2_with (first | ((with_reducible refine gate_callee (f := 63) rfl ?_); refine goesL_ (some 19) rfl rfl Try.func63 (by kernel_rfl) rfl #[.string a1] rfl pwk_ ?_; (with_reducible refine (impl_readSame.calls kj2 a1 t462 t463 true _ A7.out).mono ?_); rintro e w12 ⟨v465, rfl, ho0, hb⟩; refine ⟨_, rfl, ?_⟩; have n0_ := Aside0.mk (Kd.R_lower ho0 (below_size pwi_)); have n1_ := Aside0.mk (below_step pwi_ hb); clear HB; have HO466 := n0_; have HB := n1_; clear n0_ n1_; (try clear hb); (try clear hb2); (try clear hk); (try clear hi); (try clear ho0); obtain ⟨Ao13, co13, eo13⟩ := Kd.R_slice HO466.out; subst eo13) | (go_at_call 20; (with_reducible refine (impl_TermText.calls kj2 a0 _ _ t462 t467 _ ?side1 ?side2 A10.out).mono ?_); (case side1 => repeat (first | exact (Kd.R_reads' HO466.out).2.2 | (with_reducible refine Kd.C_alloc ?_ _) | (with_reducible refine Kd.C_drewN ?_ _) | (with_reducible refine Kd.C_drew ?_))); (case side2 => exact (Kd.R_reads' HO466.out).2.1); rintro e w14 ⟨rfl, hb⟩; have n0_ := Aside0.mk (Kd.R_below (by (with_reducible repeat apply Kd.R_alloc); exact HO466.out) hb); have n1_ := Aside0.mk (below_step pwi_ hb); clear HO466; clear HB; have HO466 := n0_; have HB := n1_; clear n0_ n1_; (try clear hb); (try clear hb2); (try clear hk); (try clear hi)))
       go_ret2
       exact ⟨_, by first | rfl | (simp [errW_none, errW_some] <;> rfl) | (simp [*, errW_none, errW_some] <;> rfl), by (with_reducible repeat apply Kd.R_alloc); exact HO466.out, pwi_⟩
      ·rw [if_neg c11] at H
       have c11b0 : (t467.toList == a1.toList) = false := beq_eq_false_iff_ne.mpr c11
       have c11b1 : (t467.toList != a1.toList) = true := bne_iff_ne.mpr c11
       simp only [Option.some.injEq, Prod.mk.injEq] at H
       obtain ⟨rfl, rfl⟩ := H
       go_wp2_with (first | ((with_reducible refine gate_callee (f := 63) rfl ?_); refine goesL_ (some 19) rfl rfl Try.func63 (by kernel_rfl) rfl #[.string a1] rfl pwk_ ?_; (with_reducible refine (impl_readSame.calls kj2 a1 t462 t463 true _ A7.out).mono ?_); rintro e w15 ⟨v465, rfl, ho0, hb⟩; refine ⟨_, rfl, ?_⟩; have n0_ := Aside0.mk (Kd.R_lower ho0 (below_size pwi_)); have n1_ := Aside0.mk (below_step pwi_ hb); clear HB; have HO466 := n0_; have HB := n1_; clear n0_ n1_; (try clear hb); (try clear hb2); (try clear hk); (try clear hi); (try clear ho0); obtain ⟨Ao16, co16, eo16⟩ := Kd.R_slice HO466.out; subst eo16) | (go_at_call 20; (with_reducible refine (impl_TermText.calls kj2 a0 _ _ t462 t467 _ ?side1 ?side2 A10.out).mono ?_); (case side1 => repeat (first | exact (Kd.R_reads' HO466.out).2.2 | (with_reducible refine Kd.C_alloc ?_ _) | (with_reducible refine Kd.C_drewN ?_ _) | (with_reducible refine Kd.C_drew ?_))); (case side2 => exact (Kd.R_reads' HO466.out).2.1); rintro e w17 ⟨rfl, hb⟩; have n0_ := Aside0.mk (Kd.R_below (by (with_reducible repeat apply Kd.R_alloc); exact HO466.out) hb); have n1_ := Aside0.mk (below_step pwi_ hb); clear HO466; clear HB; have HO466 := n0_; have HB := n1_; clear n0_ n1_; (try clear hb); (try clear hb2); (try clear hk); (try clear hi)))
       go_ret2
       exact ⟨_, by first | rfl | (simp [errW_none, errW_some] <;> rfl) | (simp [*, errW_none, errW_some] <;> rfl), by first | exact Kd.R_nil _ _ _ _ _ | exact Kd.N_nil _ _ _ _ _ | exact Kd.V_nil _ _ _ _ _ | exact Kd.Q_nil _ _ _ _ _ | exact Kd.S_nil _ _ _ _ _, pwi_⟩
     ·rw [if_neg c9] at H
      have c9b0 : (t463.toList == ([] : List UInt8)) = false := beq_eq_false_iff_ne.mpr c9
      have c9b1 : (t463.toList != ([] : List UInt8)) = true := bne_iff_ne.mpr c9
      simp only [Option.some.injEq, Prod.mk.injEq] at H
      obtain ⟨rfl, rfl⟩ := H
      go_wp2_with (first | ((with_reducible refine gate_callee (f := 63) rfl ?_); refine goesL_ (some 19) rfl rfl Try.func63 (by kernel_rfl) rfl #[.string a1] rfl pwk_ ?_; (with_reducible refine (impl_readSame.calls kj2 a1 t462 t463 true _ A7.out).mono ?_); rintro e w18 ⟨v465, rfl, ho0, hb⟩; refine ⟨_, rfl, ?_⟩; have n0_ := Aside0.mk (Kd.R_lower ho0 (below_size pwi_)); have n1_ := Aside0.mk (below_step pwi_ hb); clear HB; have HO466 := n0_; have HB := n1_; clear n0_ n1_; (try clear hb); (try clear hb2); (try clear hk); (try clear hi); (try clear ho0)))
      go_ret2
      exact ⟨_, by first | rfl | (simp [errW_none, errW_some] <;> rfl) | (simp [*, errW_none, errW_some] <;> rfl), by first | exact Kd.R_nil _ _ _ _ _ | exact Kd.N_nil _ _ _ _ _ | exact Kd.V_nil _ _ _ _ _ | exact Kd.Q_nil _ _ _ _ _ | exact Kd.S_nil _ _ _ _ _, pwi_⟩
    ·replace c8 := Bool.eq_false_iff.mpr c8
     subst c8
     have H1 : (some (([] : List (S62)), false)) = some (r1, r2) := by rw [if_neg (show ¬ (false = true) by decide)] at H; exact H
     clear H
     have H := H1
     clear H1
     simp only [Option.some.injEq, Prod.mk.injEq] at H
     obtain ⟨rfl, rfl⟩ := H
     go_wp2_with (first | ((with_reducible refine gate_callee (f := 63) rfl ?_); refine goesL_ (some 19) rfl rfl Try.func63 (by kernel_rfl) rfl #[.string a1] rfl pwk_ ?_; (with_reducible refine (impl_readSame.calls kj2 a1 t462 t463 false _ A7.out).mono ?_); rintro e w19 ⟨v465, rfl, ho0, hb⟩; refine ⟨_, rfl, ?_⟩; have n0_ := Aside0.mk (Kd.R_lower ho0 (below_size pwi_)); have n1_ := Aside0.mk (below_step pwi_ hb); clear HB; have HO466 := n0_; have HB := n1_; clear n0_ n1_; (try clear hb); (try clear hb2); (try clear hk); (try clear hi); (try clear ho0)))
     go_ret2
     exact ⟨_, by first | rfl | (simp [errW_none, errW_some] <;> rfl) | (simp [*, errW_none, errW_some] <;> rfl), by first | exact Kd.R_nil _ _ _ _ _ | exact Kd.N_nil _ _ _ _ _ | exact Kd.V_nil _ _ _ _ _ | exact Kd.Q_nil _ _ _ _ _ | exact Kd.S_nil _ _ _ _ _, pwi_⟩

end Go.Proofs.Ytfhmafmfaoknlaa.PFnReadTerm
