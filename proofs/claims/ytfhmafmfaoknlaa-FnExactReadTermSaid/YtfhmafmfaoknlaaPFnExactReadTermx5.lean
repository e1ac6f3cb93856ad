-- Made by a program of this session (wip/tools/patchprint.py), not by the kit itself.
import Derived.Test.YtfhmafmfaoknlaaPFnExactReadTermx0
import Derived.Test.YtfhmafmfaoknlaaPFnExactReadTermx2
import Derived.Test.YtfhmafmfaoknlaaPFnExactReadTermx3
import Derived.Test.YtfhmafmfaoknlaaPFnExactReadTermx4
namespace Go.Proofs.Ytfhmafmfaoknlaa.PFnExactReadTerm
open Go.RowKit Go.Proofs.YtfhmafmfaoknlaaW.PrintWords Go.Proofs.YtfhmafmfaoknlaaW.PrintLast Go.Proofs.YtfhmafmfaoknlaaW.PrintMore
attribute [local go_sem] max2_int min2_int max_two min_two max_three min_three max_four min_four   -- for this text's walks alone
set_option linter.unusedVariables false
set_option linter.unusedSimpArgs false

attribute [local go_sem] setCell_isSome


/-! ### impl_readPart, impl_readRowC, impl_readAnd, impl_readRowB, impl_readOr, impl_readRowA, impl_readSame, which call each other -/
mutual
def impl_readPart.j0 : Nat → ByteArray → Int → ByteArray → Bool → Option ((List (S62)) × ByteArray × Bool)
 | 0, _, _, _, _ => none
 | k + 1, x0, x5, x6, x21 => if x21 = true then (some ((([(⟨0, (x5 - 97) % 256⟩ : S62)] : List (S62))), x6, true)) else (if x5 ≥ 48 then (impl_readPart.j1 k x0 x5 x6 (decide (x5 ≤ 57))) else (impl_readPart.j1 k x0 x5 x6 false))
def impl_readPart.j1 : Nat → ByteArray → Int → ByteArray → Bool → Option ((List (S62)) × ByteArray × Bool)
 | 0, _, _, _, _ => none
 | k + 1, x0, x5, x6, x34 => if x34 = true then (some ((([(⟨1, (x5 - 48) % 256⟩ : S62)] : List (S62))), x6, true)) else (if x5 = 33 then ((impl_readPart.f k x6).bind fun bt169 => (if bt169.1.length < 8796093022208 then (some ((bt169.1 ++ [(⟨2, 0⟩ : S62)]), bt169.2.1, bt169.2.2)) else (none))) else (if x5 = 40 then ((impl_readSame.f k x6).bind fun bt177 => ((strings_CutPrefix.f bt177.2.1 (⟨#[41]⟩ : ByteArray)).bind fun bt182 => (if bt177.2.2 = true then (some (bt177.1, bt182.1, bt182.2)) else (some (bt177.1, bt182.1, false))))) else (some (([] : List (S62)), x0, false))))
def impl_readPart.f : Nat → ByteArray → Option ((List (S62)) × ByteArray × Bool)
 | 0, _ => none
 | k + 1, a0 => if a0.toList = ([] : List UInt8) then (some (([] : List (S62)), a0, false)) else (if 0 < (a0.size : Int) then (if 1 ≤ (a0.size : Int) then (if (bt a0 0) ≥ 97 then (impl_readPart.j0 k a0 (bt a0 0) (a0.extract 1 a0.size) (decide ((bt a0 0) ≤ 122))) else (impl_readPart.j0 k a0 (bt a0 0) (a0.extract 1 a0.size) false)) else (none)) else (none))
def impl_readRowC.l0 : Nat → ByteArray → ByteArray → Int → List (S62) → Bool → Option ((List (S62)) × ByteArray × Bool)
 | 0, _, _, _, _, _ => none
 | k + 1, x0, x1, x2, x11, x12 => if x12 = true then ((strings_CutPrefix.f x0 x1).bind fun bt189 => (if bt189.2 = true then ((impl_readPart.f k bt189.1).bind fun bt191 => (if x11.length + bt191.1.length < 8796093022208 then ((some (x11 ++ bt191.1 : List (S62))).bind fun y196 => (if y196.length < 8796093022208 then (impl_readRowC.l0 k bt191.2.1 x1 x2 (y196 ++ [(⟨x2, 0⟩ : S62)]) bt191.2.2) else (none))) else (none))) else (some (x11, x0, true)))) else (some (([] : List (S62)), x0, false))
def impl_readRowC.f : Nat → ByteArray → ByteArray → Int → Int → Option ((List (S62)) × ByteArray × Bool)
 | 0, _, _, _, _ => none
 | k + 1, a0, a1, a2, a3 => (impl_readPart.f k a0).bind fun bt184 => (impl_readRowC.l0 k bt184.2.1 a1 a2 bt184.1 bt184.2.2)
def impl_readAnd.f : Nat → ByteArray → Option ((List (S62)) × ByteArray × Bool)
 | 0, _ => none
 | k + 1, a0 => (impl_readRowC.f k a0 (⟨#[38]⟩ : ByteArray) 3 777107).bind fun bt202 => (some (bt202.1, bt202.2.1, bt202.2.2))
def impl_readRowB.l0 : Nat → ByteArray → ByteArray → Int → List (S62) → Bool → Option ((List (S62)) × ByteArray × Bool)
 | 0, _, _, _, _, _ => none
 | k + 1, x0, x1, x2, x11, x12 => if x12 = true then ((strings_CutPrefix.f x0 x1).bind fun bt212 => (if bt212.2 = true then ((impl_readAnd.f k bt212.1).bind fun bt214 => (if x11.length + bt214.1.length < 8796093022208 then ((some (x11 ++ bt214.1 : List (S62))).bind fun y219 => (if y219.length < 8796093022208 then (impl_readRowB.l0 k bt214.2.1 x1 x2 (y219 ++ [(⟨x2, 0⟩ : S62)]) bt214.2.2) else (none))) else (none))) else (some (x11, x0, true)))) else (some (([] : List (S62)), x0, false))
def impl_readRowB.f : Nat → ByteArray → ByteArray → Int → Int → Option ((List (S62)) × ByteArray × Bool)
 | 0, _, _, _, _ => none
 | k + 1, a0, a1, a2, a3 => (impl_readAnd.f k a0).bind fun bt207 => (impl_readRowB.l0 k bt207.2.1 a1 a2 bt207.1 bt207.2.2)
def impl_readOr.f : Nat → ByteArray → Option ((List (S62)) × ByteArray × Bool)
 | 0, _ => none
 | k + 1, a0 => (impl_readRowB.f k a0 (⟨#[124]⟩ : ByteArray) 4 777102).bind fun bt225 => (some (bt225.1, bt225.2.1, bt225.2.2))
def impl_readRowA.l0 : Nat → ByteArray → ByteArray → Int → List (S62) → Bool → Option ((List (S62)) × ByteArray × Bool)
 | 0, _, _, _, _, _ => none
 | k + 1, x0, x1, x2, x11, x12 => if x12 = true then ((strings_CutPrefix.f x0 x1).bind fun bt235 => (if bt235.2 = true then ((impl_readOr.f k bt235.1).bind fun bt237 => (if x11.length + bt237.1.length < 8796093022208 then ((some (x11 ++ bt237.1 : List (S62))).bind fun y242 => (if y242.length < 8796093022208 then (impl_readRowA.l0 k bt237.2.1 x1 x2 (y242 ++ [(⟨x2, 0⟩ : S62)]) bt237.2.2) else (none))) else (none))) else (some (x11, x0, true)))) else (some (([] : List (S62)), x0, false))
def impl_readRowA.f : Nat → ByteArray → ByteArray → Int → Int → Option ((List (S62)) × ByteArray × Bool)
 | 0, _, _, _, _ => none
 | k + 1, a0, a1, a2, a3 => (impl_readOr.f k a0).bind fun bt230 => (impl_readRowA.l0 k bt230.2.1 a1 a2 bt230.1 bt230.2.2)
def impl_readSame.f : Nat → ByteArray → Option ((List (S62)) × ByteArray × Bool)
 | 0, _ => none
 | k + 1, a0 => (impl_readRowA.f k a0 (⟨#[61]⟩ : ByteArray) 5 777090).bind fun bt248 => (some (bt248.1, bt248.2.1, bt248.2.2))
end
theorem readSame_readPart_c.mono_l : ∀ k, ((∀ y0, LeO (impl_readPart.f k y0) (impl_readPart.f (k + 1) y0)) ∧ (∀ y0 y1 y2 y3, LeO (impl_readPart.j0 k y0 y1 y2 y3) (impl_readPart.j0 (k + 1) y0 y1 y2 y3)) ∧ (∀ y0 y1 y2 y3, LeO (impl_readPart.j1 k y0 y1 y2 y3) (impl_readPart.j1 (k + 1) y0 y1 y2 y3))) ∧ ((∀ y0 y1 y2 y3, LeO (impl_readRowC.f k y0 y1 y2 y3) (impl_readRowC.f (k + 1) y0 y1 y2 y3)) ∧ (∀ y0 y1 y2 y3 y4, LeO (impl_readRowC.l0 k y0 y1 y2 y3 y4) (impl_readRowC.l0 (k + 1) y0 y1 y2 y3 y4))) ∧ ((∀ y0, LeO (impl_readAnd.f k y0) (impl_readAnd.f (k + 1) y0))) ∧ ((∀ y0 y1 y2 y3, LeO (impl_readRowB.f k y0 y1 y2 y3) (impl_readRowB.f (k + 1) y0 y1 y2 y3)) ∧ (∀ y0 y1 y2 y3 y4, LeO (impl_readRowB.l0 k y0 y1 y2 y3 y4) (impl_readRowB.l0 (k + 1) y0 y1 y2 y3 y4))) ∧ ((∀ y0, LeO (impl_readOr.f k y0) (impl_readOr.f (k + 1) y0))) ∧ ((∀ y0 y1 y2 y3, LeO (impl_readRowA.f k y0 y1 y2 y3) (impl_readRowA.f (k + 1) y0 y1 y2 y3)) ∧ (∀ y0 y1 y2 y3 y4, LeO (impl_readRowA.l0 k y0 y1 y2 y3 y4) (impl_readRowA.l0 (k + 1) y0 y1 y2 y3 y4))) ∧ ((∀ y0, LeO (impl_readSame.f k y0) (impl_readSame.f (k + 1) y0)))
 | 0 => ⟨⟨fun _ r h => by simp [impl_readPart.f] at h, fun _ _ _ _ r h => by simp [impl_readPart.j0] at h, fun _ _ _ _ r h => by simp [impl_readPart.j1] at h⟩, ⟨fun _ _ _ _ r h => by simp [impl_readRowC.f] at h, fun _ _ _ _ _ r h => by simp [impl_readRowC.l0] at h⟩, fun _ r h => by simp [impl_readAnd.f] at h, ⟨fun _ _ _ _ r h => by simp [impl_readRowB.f] at h, fun _ _ _ _ _ r h => by simp [impl_readRowB.l0] at h⟩, fun _ r h => by simp [impl_readOr.f] at h, ⟨fun _ _ _ _ r h => by simp [impl_readRowA.f] at h, fun _ _ _ _ _ r h => by simp [impl_readRowA.l0] at h⟩, fun _ r h => by simp [impl_readSame.f] at h⟩
 | k + 1 => by
  obtain ⟨g0_, g1_, g2_, g3_, g4_, g5_, g6_⟩ := readSame_readPart_c.mono_l k
  refine ⟨?_, ?_, ?_, ?_, ?_, ?_, ?_⟩
  case refine_1 =>
   obtain ⟨ih0, ih1, ih2⟩ := g0_
   refine ⟨?_, ?_, ?_⟩
   ·intro y0
    unfold impl_readPart.f
    repeat' first
    | (with_reducible exact ih0 _)
    | (with_reducible exact ih1 _ _ _ _)
    | (with_reducible exact ih2 _ _ _ _)
    | (with_reducible exact g6_ _)
    | (with_reducible exact LeO.refl _)
    | (with_reducible exact LeO.none _)
    | (with_reducible refine LeO.ite ?_ ?_)
    | (with_reducible refine LeO.bind ?_ (fun _ => ?_))
    | exact ih0 _
    | exact ih1 _ _ _ _
    | exact ih2 _ _ _ _
    | exact g6_ _
    | exact LeO.none _
    | refine LeO.ite ?_ ?_
    | refine LeO.bind ?_ (fun _ => ?_)
   ·intro y0 y1 y2 y3
    unfold impl_readPart.j0
    repeat' first
    | (with_reducible exact ih0 _)
    | (with_reducible exact ih1 _ _ _ _)
    | (with_reducible exact ih2 _ _ _ _)
    | (with_reducible exact g6_ _)
    | (with_reducible exact LeO.refl _)
    | (with_reducible exact LeO.none _)
    | (with_reducible refine LeO.ite ?_ ?_)
    | (with_reducible refine LeO.bind ?_ (fun _ => ?_))
    | exact ih0 _
    | exact ih1 _ _ _ _
    | exact ih2 _ _ _ _
    | exact g6_ _
    | exact LeO.none _
    | refine LeO.ite ?_ ?_
    | refine LeO.bind ?_ (fun _ => ?_)
   ·intro y0 y1 y2 y3
    unfold impl_readPart.j1
    repeat' first
    | (with_reducible exact ih0 _)
    | (with_reducible exact ih1 _ _ _ _)
    | (with_reducible exact ih2 _ _ _ _)
    | (with_reducible exact g6_ _)
    | (with_reducible exact LeO.refl _)
    | (with_reducible exact LeO.none _)
    | (with_reducible refine LeO.ite ?_ ?_)
    | (with_reducible refine LeO.bind ?_ (fun _ => ?_))
    | exact ih0 _
    | exact ih1 _ _ _ _
    | exact ih2 _ _ _ _
    | exact g6_ _
    | exact LeO.none _
    | refine LeO.ite ?_ ?_
    | refine LeO.bind ?_ (fun _ => ?_)
  case refine_2 =>
   obtain ⟨ih0, ih1⟩ := g1_
   refine ⟨?_, ?_⟩
   ·intro y0 y1 y2 y3
    unfold impl_readRowC.f
    repeat' first
    | (with_reducible exact ih0 _ _ _ _)
    | (with_reducible exact ih1 _ _ _ _ _)
    | (with_reducible exact g0_.1 _)
    | (with_reducible exact LeO.refl _)
    | (with_reducible exact LeO.none _)
    | (with_reducible refine LeO.ite ?_ ?_)
    | (with_reducible refine LeO.bind ?_ (fun _ => ?_))
    | exact ih0 _ _ _ _
    | exact ih1 _ _ _ _ _
    | exact g0_.1 _
    | exact LeO.none _
    | refine LeO.ite ?_ ?_
    | refine LeO.bind ?_ (fun _ => ?_)
   ·intro y0 y1 y2 y3 y4
    unfold impl_readRowC.l0
    repeat' first
    | (with_reducible exact ih0 _ _ _ _)
    | (with_reducible exact ih1 _ _ _ _ _)
    | (with_reducible exact g0_.1 _)
    | (with_reducible exact LeO.refl _)
    | (with_reducible exact LeO.none _)
    | (with_reducible refine LeO.ite ?_ ?_)
    | (with_reducible refine LeO.bind ?_ (fun _ => ?_))
    | exact ih0 _ _ _ _
    | exact ih1 _ _ _ _ _
    | exact g0_.1 _
    | exact LeO.none _
    | refine LeO.ite ?_ ?_
    | refine LeO.bind ?_ (fun _ => ?_)
  case refine_3 =>
   have ih0 := g2_
   ·intro y0
    unfold impl_readAnd.f
    repeat' first
    | (with_reducible exact ih0 _)
    | (with_reducible exact g1_.1 _ _ _ _)
    | (with_reducible exact LeO.refl _)
    | (with_reducible exact LeO.none _)
    | (with_reducible refine LeO.ite ?_ ?_)
    | (with_reducible refine LeO.bind ?_ (fun _ => ?_))
    | exact ih0 _
    | exact g1_.1 _ _ _ _
    | exact LeO.none _
    | refine LeO.ite ?_ ?_
    | refine LeO.bind ?_ (fun _ => ?_)
  case refine_4 =>
   obtain ⟨ih0, ih1⟩ := g3_
   refine ⟨?_, ?_⟩
   ·intro y0 y1 y2 y3
    unfold impl_readRowB.f
    repeat' first
    | (with_reducible exact ih0 _ _ _ _)
    | (with_reducible exact ih1 _ _ _ _ _)
    | (with_reducible exact g2_ _)
    | (with_reducible exact LeO.refl _)
    | (with_reducible exact LeO.none _)
    | (with_reducible refine LeO.ite ?_ ?_)
    | (with_reducible refine LeO.bind ?_ (fun _ => ?_))
    | exact ih0 _ _ _ _
    | exact ih1 _ _ _ _ _
    | exact g2_ _
    | exact LeO.none _
    | refine LeO.ite ?_ ?_
    | refine LeO.bind ?_ (fun _ => ?_)
   ·intro y0 y1 y2 y3 y4
    unfold impl_readRowB.l0
    repeat' first
    | (with_reducible exact ih0 _ _ _ _)
    | (with_reducible exact ih1 _ _ _ _ _)
    | (with_reducible exact g2_ _)
    | (with_reducible exact LeO.refl _)
    | (with_reducible exact LeO.none _)
    | (with_reducible refine LeO.ite ?_ ?_)
    | (with_reducible refine LeO.bind ?_ (fun _ => ?_))
    | exact ih0 _ _ _ _
    | exact ih1 _ _ _ _ _
    | exact g2_ _
    | exact LeO.none _
    | refine LeO.ite ?_ ?_
    | refine LeO.bind ?_ (fun _ => ?_)
  case refine_5 =>
   have ih0 := g4_
   ·intro y0
    unfold impl_readOr.f
    repeat' first
    | (with_reducible exact ih0 _)
    | (with_reducible exact g3_.1 _ _ _ _)
    | (with_reducible exact LeO.refl _)
    | (with_reducible exact LeO.none _)
    | (with_reducible refine LeO.ite ?_ ?_)
    | (with_reducible refine LeO.bind ?_ (fun _ => ?_))
    | exact ih0 _
    | exact g3_.1 _ _ _ _
    | exact LeO.none _
    | refine LeO.ite ?_ ?_
    | refine LeO.bind ?_ (fun _ => ?_)
  case refine_6 =>
   obtain ⟨ih0, ih1⟩ := g5_
   refine ⟨?_, ?_⟩
   ·intro y0 y1 y2 y3
    unfold impl_readRowA.f
    repeat' first
    | (with_reducible exact ih0 _ _ _ _)
    | (with_reducible exact ih1 _ _ _ _ _)
    | (with_reducible exact g4_ _)
    | (with_reducible exact LeO.refl _)
    | (with_reducible exact LeO.none _)
    | (with_reducible refine LeO.ite ?_ ?_)
    | (with_reducible refine LeO.bind ?_ (fun _ => ?_))
    | exact ih0 _ _ _ _
    | exact ih1 _ _ _ _ _
    | exact g4_ _
    | exact LeO.none _
    | refine LeO.ite ?_ ?_
    | refine LeO.bind ?_ (fun _ => ?_)
   ·intro y0 y1 y2 y3 y4
    unfold impl_readRowA.l0
    repeat' first
    | (with_reducible exact ih0 _ _ _ _)
    | (with_reducible exact ih1 _ _ _ _ _)
    | (with_reducible exact g4_ _)
    | (with_reducible exact LeO.refl _)
    | (with_reducible exact LeO.none _)
    | (with_reducible refine LeO.ite ?_ ?_)
    | (with_reducible refine LeO.bind ?_ (fun _ => ?_))
    | exact ih0 _ _ _ _
    | exact ih1 _ _ _ _ _
    | exact g4_ _
    | exact LeO.none _
    | refine LeO.ite ?_ ?_
    | refine LeO.bind ?_ (fun _ => ?_)
  case refine_7 =>
   have ih0 := g6_
   ·intro y0
    unfold impl_readSame.f
    repeat' first
    | (with_reducible exact ih0 _)
    | (with_reducible exact g5_.1 _ _ _ _)
    | (with_reducible exact LeO.refl _)
    | (with_reducible exact LeO.none _)
    | (with_reducible refine LeO.ite ?_ ?_)
    | (with_reducible refine LeO.bind ?_ (fun _ => ?_))
    | exact ih0 _
    | exact g5_.1 _ _ _ _
    | exact LeO.none _
    | refine LeO.ite ?_ ?_
    | refine LeO.bind ?_ (fun _ => ?_)
theorem impl_readPart.mono : ∀ a0 k, LeO (impl_readPart.f k a0) (impl_readPart.f (k + 1) a0) := by
 intro a0 k
 obtain ⟨ih0, ih1, ih2⟩ := (readSame_readPart_c.mono_l k).1
 exact ih0 a0
theorem impl_readRowC.mono : ∀ a0 a1 a2 a3 k, LeO (impl_readRowC.f k a0 a1 a2 a3) (impl_readRowC.f (k + 1) a0 a1 a2 a3) := by
 intro a0 a1 a2 a3 k
 obtain ⟨ih0, ih1⟩ := (readSame_readPart_c.mono_l k).2.1
 exact ih0 a0 a1 a2 a3
theorem impl_readAnd.mono : ∀ a0 k, LeO (impl_readAnd.f k a0) (impl_readAnd.f (k + 1) a0) := by
 intro a0 k
 have ih0 := (readSame_readPart_c.mono_l k).2.2.1
 exact ih0 a0
theorem impl_readRowB.mono : ∀ a0 a1 a2 a3 k, LeO (impl_readRowB.f k a0 a1 a2 a3) (impl_readRowB.f (k + 1) a0 a1 a2 a3) := by
 intro a0 a1 a2 a3 k
 obtain ⟨ih0, ih1⟩ := (readSame_readPart_c.mono_l k).2.2.2.1
 exact ih0 a0 a1 a2 a3
theorem impl_readOr.mono : ∀ a0 k, LeO (impl_readOr.f k a0) (impl_readOr.f (k + 1) a0) := by
 intro a0 k
 have ih0 := (readSame_readPart_c.mono_l k).2.2.2.2.1
 exact ih0 a0
theorem impl_readRowA.mono : ∀ a0 a1 a2 a3 k, LeO (impl_readRowA.f k a0 a1 a2 a3) (impl_readRowA.f (k + 1) a0 a1 a2 a3) := by
 intro a0 a1 a2 a3 k
 obtain ⟨ih0, ih1⟩ := (readSame_readPart_c.mono_l k).2.2.2.2.2.1
 exact ih0 a0 a1 a2 a3
theorem impl_readSame.mono : ∀ a0 k, LeO (impl_readSame.f k a0) (impl_readSame.f (k + 1) a0) := by
 intro a0 k
 have ih0 := (readSame_readPart_c.mono_l k).2.2.2.2.2.2
 exact ih0 a0
set_option maxHeartbeats 8000000 in
set_option maxRecDepth 100000 in
theorem impl_readPart.step (k : Nat) (h0_ : ∀ m_, m_ < k → ∀ (a0 : ByteArray) (r1 : List (S62)) (r2 : ByteArray) (r3 : Bool) (w : World) (h : impl_readPart.f m_ a0 = some (r1, r2, r3)),
  Calls Try.prog 107 #[.string a0] w fun e w' => ∃ v0_ : Value, e = .returned (.tuple #[v0_, .string r2, .bool r3]) ∧ Kd.R k62 62 w' w.heap.size (fun _ => True) v0_ r1 ∧ Below w.heap.size w w') (h1_ : ∀ m_, m_ < k → ∀ (a0 : ByteArray) (a1 : ByteArray) (a2 : Int) (a3 : Int) (r1 : List (S62)) (r2 : ByteArray) (r3 : Bool) (w : World) (h : impl_readRowC.f m_ a0 a1 a2 a3 = some (r1, r2, r3)),
  Calls Try.prog 89 #[.string a0, .string a1, .int .i64 a2, .func (.func 107) #[] #[]] w fun e w' => ∃ v0_ : Value, e = .returned (.tuple #[v0_, .string r2, .bool r3]) ∧ Kd.R k62 62 w' w.heap.size (fun _ => True) v0_ r1 ∧ Below w.heap.size w w') (h2_ : ∀ m_, m_ < k → ∀ (a0 : ByteArray) (r1 : List (S62)) (r2 : ByteArray) (r3 : Bool) (w : World) (h : impl_readAnd.f m_ a0 = some (r1, r2, r3)),
  Calls Try.prog 102 #[.string a0] w fun e w' => ∃ v0_ : Value, e = .returned (.tuple #[v0_, .string r2, .bool r3]) ∧ Kd.R k62 62 w' w.heap.size (fun _ => True) v0_ r1 ∧ Below w.heap.size w w') (h3_ : ∀ m_, m_ < k → ∀ (a0 : ByteArray) (a1 : ByteArray) (a2 : Int) (a3 : Int) (r1 : List (S62)) (r2 : ByteArray) (r3 : Bool) (w : World) (h : impl_readRowB.f m_ a0 a1 a2 a3 = some (r1, r2, r3)),
  Calls Try.prog 89 #[.string a0, .string a1, .int .i64 a2, .func (.func 102) #[] #[]] w fun e w' => ∃ v0_ : Value, e = .returned (.tuple #[v0_, .string r2, .bool r3]) ∧ Kd.R k62 62 w' w.heap.size (fun _ => True) v0_ r1 ∧ Below w.heap.size w w') (h4_ : ∀ m_, m_ < k → ∀ (a0 : ByteArray) (r1 : List (S62)) (r2 : ByteArray) (r3 : Bool) (w : World) (h : impl_readOr.f m_ a0 = some (r1, r2, r3)),
  Calls Try.prog 90 #[.string a0] w fun e w' => ∃ v0_ : Value, e = .returned (.tuple #[v0_, .string r2, .bool r3]) ∧ Kd.R k62 62 w' w.heap.size (fun _ => True) v0_ r1 ∧ Below w.heap.size w w') (h5_ : ∀ m_, m_ < k → ∀ (a0 : ByteArray) (a1 : ByteArray) (a2 : Int) (a3 : Int) (r1 : List (S62)) (r2 : ByteArray) (r3 : Bool) (w : World) (h : impl_readRowA.f m_ a0 a1 a2 a3 = some (r1, r2, r3)),
  Calls Try.prog 89 #[.string a0, .string a1, .int .i64 a2, .func (.func 90) #[] #[]] w fun e w' => ∃ v0_ : Value, e = .returned (.tuple #[v0_, .string r2, .bool r3]) ∧ Kd.R k62 62 w' w.heap.size (fun _ => True) v0_ r1 ∧ Below w.heap.size w w') (h6_ : ∀ m_, m_ < k → ∀ (a0 : ByteArray) (r1 : List (S62)) (r2 : ByteArray) (r3 : Bool) (w : World) (h : impl_readSame.f m_ a0 = some (r1, r2, r3)),
  Calls Try.prog 63 #[.string a0] w fun e w' => ∃ v0_ : Value, e = .returned (.tuple #[v0_, .string r2, .bool r3]) ∧ Kd.R k62 62 w' w.heap.size (fun _ => True) v0_ r1 ∧ Below w.heap.size w w') : ∀ (a0 : ByteArray) (r1 : List (S62)) (r2 : ByteArray) (r3 : Bool) (w : World) (h : impl_readPart.f k a0 = some (r1, r2, r3)),
  Calls Try.prog 107 #[.string a0] w fun e w' => ∃ v0_ : Value, e = .returned (.tuple #[v0_, .string r2, .bool r3]) ∧ Kd.R k62 62 w' w.heap.size (fun _ => True) v0_ r1 ∧ Below w.heap.size w w' := by
 have ih := h0_
 intro a0 r1 r2 r3 w h
 cases k with
 | zero => exact absurd h (by simp [impl_readPart.f])
 | succ k =>
 simp only [impl_readPart.f] at h
 have hu62 := Try.underlying62
 have HB := Aside0.mk (Below.refl w.heap.size w)
 have H : (if a0.toList = ([] : List UInt8) then (some (([] : List (S62)), a0, false)) else (if 0 < (a0.size : Int) then (if 1 ≤ (a0.size : Int) then (if (bt a0 0) ≥ 97 then (impl_readPart.j0 k a0 (bt a0 0) (a0.extract 1 a0.size) (decide ((bt a0 0) ≤ 122))) else (impl_readPart.j0 k a0 (bt a0 0) (a0.extract 1 a0.size) false)) else (none)) else (none))) = some (r1, r2, r3) := h
 clear h
 by_cases c2 : a0.toList = ([] : List UInt8)
 ·rw [if_pos c2] at H
  have c2b0 : (a0.toList == ([] : List UInt8)) = true := beq_iff_eq.mpr c2
  have c2b1 : (a0.toList != ([] : List UInt8)) = false := bne_eq_false_iff_eq.mpr c2
  clear c2
  simp only [Option.some.injEq, Prod.mk.injEq] at H
  obtain ⟨rfl, rfl, rfl⟩ := H
  go_enter Try.func107, Try.ntmps107
  go_wp2
  repeat (go_quiet (fail); try go_wp2)
  go_ret3
  exact ⟨_, by first | rfl | (simp [errW_none, errW_some] <;> rfl) | (simp [*, errW_none, errW_some] <;> rfl), by first | exact Kd.R_nil _ _ _ _ _ | exact Kd.N_nil _ _ _ _ _ | exact Kd.V_nil _ _ _ _ _ | exact Kd.Q_nil _ _ _ _ _ | exact Kd.S_nil _ _ _ _ _, pwg_⟩
 ·rw [if_neg c2] at H
  have c2b0 : (a0.toList == ([] : List UInt8)) = false := beq_eq_false_iff_ne.mpr c2
  have c2b1 : (a0.toList != ([] : List UInt8)) = true := bne_iff_ne.mpr c2
  by_cases c3 : 0 < (a0.size : Int)
  ·rw [if_pos c3] at H
   have c3b0 : decide (0 < (a0.size : Int)) = true := decide_eq_true c3
   have c3b1 : decide (0 < a0.size) = true := decide_eq_true (by omega)
   clear c3
   by_cases c5 : 1 ≤ (a0.size : Int)
   ·rw [if_pos c5] at H
    have c5b0 := eq_true c5
    have c5b1 : decide (1 ≤ (a0.size : Int)) = true := decide_eq_true c5
    clear c5
    have HC6 := Aside0.mk H
    clear H
    have p4 : 0 ≤ (0 : Int) := (by omega)
    have q4 : 0 < a0.size := (by have : (0 : Int) < (a0.size : Int) := of_decide_eq_true pwb_; omega)
    have hx4 : ∀ h : 0 < a0.size, ((a0[0]'h).toNat : Int) = bt a0 0 := bt_at a0 0
    clear p4
    have qi4 : (0 < (a0.size : Int)) = True := eq_true (of_decide_eq_true pwb_)
    replace q4 := eq_true q4
    go_enter Try.func107, Try.ntmps107
    go_upto_region 4 with (fail)
    repeat (go_quiet (fail); go_upto_region 4 with (fail))
    go_cut [21] (fun v21 wc => ∃ (kq : Nat) (x21_5 : Bool), v21 = .bool x21_5 ∧ Aside0 (impl_readPart.j0 kq a0 (bt a0 0) (a0.extract 1 a0.size) x21_5 = some (r1, r2, r3)) ∧ Aside0 (kq ≤ k) ∧ Aside0 (Below w.heap.size w wc))
    case first =>
     have H := HC6.out
     clear HC6
     by_cases c7 : (bt a0 0) ≥ 97
     ·rw [if_pos c7] at H
      have c7b0 : decide (97 ≤ (bt a0 0)) = true := decide_eq_true c7
      clear c7
      (first | rw [c7b0] | (simp only [i64_w, i32_w]; rw [c7b0]) | skip)
      have H' := Aside0.mk H
      clear H
      go_wp2
      repeat (go_quiet (fail); try go_wp2)
      go_meet
      case rel => exact ⟨_, (decide ((bt a0 0) ≤ 122)), pwa_, H', ⟨by first | omega | exact Nat.le_refl _⟩, ⟨pwg_⟩⟩
     ·rw [if_neg c7] at H
      have c7b0 : decide (97 ≤ (bt a0 0)) = false := decide_eq_false c7
      clear c7
      (first | rw [c7b0] | (simp only [i64_w, i32_w]; rw [c7b0]) | skip)
      have H' := Aside0.mk H
      clear H
      go_wp2
      repeat (go_quiet (fail); try go_wp2)
      go_meet
      case rel => exact ⟨_, (false), pwa_, H', ⟨by first | omega | exact Nat.le_refl _⟩, ⟨pwg_⟩⟩
    case rest =>
     clear HC6
     try clear c1
     try clear c2
     try clear c2b0
     try clear c2b1
     try clear p2
     try clear c3
     try clear c3b0
     try clear c3b1
     try clear p4
     try clear q4
     try clear hx4
     try clear qi4
     try clear c5
     try clear c5b0
     try clear c5b1
     try clear c7
     try clear c7b0
     try clear p4
     try clear q4
     obtain ⟨kq, x21_5, rfl, HA, HJ5, HB⟩ := hcut
     cases kq with
     | zero => exact absurd HA.out (by simp [impl_readPart.j0])
     | succ kj5 =>
      have H := HA.out
      clear HA
      simp only [impl_readPart.j0] at H
      by_cases c8 : x21_5 = true
      ·subst c8
       have H1 : (some ((([(⟨0, ((bt a0 0) - 97) % 256⟩ : S62)] : List (S62))), (a0.extract 1 a0.size), true)) = some (r1, r2, r3) := by rw [if_pos rfl] at H; exact H
       clear H
       have H := H1
       clear H1
       obtain ⟨y163, hy163⟩ : ∃ y_ : List (S62), y_ = (([(⟨0, ((bt a0 0) - 97) % 256⟩ : S62)] : List (S62))) := ⟨_, rfl⟩
       replace H : (some (y163, (a0.extract 1 a0.size), true)) = some (r1, r2, r3) := by first | (rw [hy163]; with_reducible exact H) | (have H2_ := (Option.bind_some _ _).symm.trans H; rw [hy163]; with_reducible exact H2_) | (have H2_ := (Option.bind_some _ _).symm.trans H; with_reducible exact H2_) | with_reducible exact H | (rw [hy163]; exact H) | exact H
       have Ny163 := Aside0.mk hy163
       clear hy163
       simp only [Option.some.injEq, Prod.mk.injEq] at H
       obtain ⟨rfl, rfl, rfl⟩ := H
       go_wp2_with (first | ((with_reducible refine gate_dst (N := 32) rfl ?_); refine Kd.R_lit k62 _ 62 ?hg (N := 32) ?hd (xs := ([(⟨0, ((bt a0 0) - 97) % 256⟩ : S62)] : List (S62))) (inner := [.int .i64 0, .int .i64 (((bt a0 0) - 97) % 256)]) (ok := fun _ => True) (okp := fun _ => True) ?hr ?hp (fun _ hk => hk) trivial (Below.refl _ _) (Nat.le_refl _) (by simp) ?_; (case hd => rfl); (case hg => rfl); (case hr => first | (go_simp; done) | (go_simp; rfl)); (case hp => exact (Reps.c2 (show Kd.M k62 _ _ _ (⟨0, ((bt a0 0) - 97) % 256⟩ : S62) [.int .i64 0, .int .i64 (((bt a0 0) - 97) % 256)] from (k62_mkM _ _ _ (⟨0, ((bt a0 0) - 97) % 256⟩ : S62) )) (Reps.none _ _))); intro v164 w9 ho10 hb hg_ hnew_; clear hg_ hnew_; (first | rw [← Ny163.out] at ho10 | (simp only [Int.reduceToNat] at ho10; rw [← Ny163.out] at ho10)); have n0_ := Aside0.mk (Kd.R_lower ho10 (below_size pwg_)); have n1_ := Aside0.mk (below_step pwg_ hb); clear HB; have HO165 := n0_; have HB := n1_; clear n0_ n1_; clear hb ho10))
       repeat (go_quiet (first | ((with_reducible refine gate_dst (N := 32) rfl ?_); refine Kd.R_lit k62 _ 62 ?hg (N := 32) ?hd (xs := ([(⟨0, ((bt a0 0) - 97) % 256⟩ : S62)] : List (S62))) (inner := [.int .i64 0, .int .i64 (((bt a0 0) - 97) % 256)]) (ok := fun _ => True) (okp := fun _ => True) ?hr ?hp (fun _ hk => hk) trivial (Below.refl _ _) (Nat.le_refl _) (by simp) ?_; (case hd => rfl); (case hg => rfl); (case hr => first | (go_simp; done) | (go_simp; rfl)); (case hp => exact (Reps.c2 (show Kd.M k62 _ _ _ (⟨0, ((bt a0 0) - 97) % 256⟩ : S62) [.int .i64 0, .int .i64 (((bt a0 0) - 97) % 256)] from (k62_mkM _ _ _ (⟨0, ((bt a0 0) - 97) % 256⟩ : S62) )) (Reps.none _ _))); intro v164 w9 ho10 hb hg_ hnew_; clear hg_ hnew_; (first | rw [← Ny163.out] at ho10 | (simp only [Int.reduceToNat] at ho10; rw [← Ny163.out] at ho10)); have n0_ := Aside0.mk (Kd.R_lower ho10 (below_size pwg_)); have n1_ := Aside0.mk (below_step pwg_ hb); clear HB; have HO165 := n0_; have HB := n1_; clear n0_ n1_; clear hb ho10)); try go_wp2_with (first | ((with_reducible refine gate_dst (N := 32) rfl ?_); refine Kd.R_lit k62 _ 62 ?hg (N := 32) ?hd (xs := ([(⟨0, ((bt a0 0) - 97) % 256⟩ : S62)] : List (S62))) (inner := [.int .i64 0, .int .i64 (((bt a0 0) - 97) % 256)]) (ok := fun _ => True) (okp := fun _ => True) ?hr ?hp (fun _ hk => hk) trivial (Below.refl _ _) (Nat.le_refl _) (by simp) ?_; (case hd => rfl); (case hg => rfl); (case hr => first | (go_simp; done) | (go_simp; rfl)); (case hp => exact (Reps.c2 (show Kd.M k62 _ _ _ (⟨0, ((bt a0 0) - 97) % 256⟩ : S62) [.int .i64 0, .int .i64 (((bt a0 0) - 97) % 256)] from (k62_mkM _ _ _ (⟨0, ((bt a0 0) - 97) % 256⟩ : S62) )) (Reps.none _ _))); intro v164 w9 ho10 hb hg_ hnew_; clear hg_ hnew_; (first | rw [← Ny163.out] at ho10 | (simp only [Int.reduceToNat] at ho10; rw [← Ny163.out] at ho10)); have n0_ := Aside0.mk (Kd.R_lower ho10 (below_size pwg_)); have n1_ := Aside0.mk (below_step pwg_ hb); clear HB; have HO165 := n0_; have HB := n1_; clear n0_ n1_; clear hb ho10)))
       go_ret3
       exact ⟨_, by first | rfl | (simp [errW_none, errW_some] <;> rfl) | (simp [*, errW_none, errW_some] <;> rfl), by (with_reducible repeat apply Kd.R_alloc); exact HO165.out, pwg_⟩
      ·replace c8 := Bool.eq_false_iff.mpr c8
       subst c8
       have H1 : (if (bt a0 0) ≥ 48 then (impl_readPart.j1 kj5 a0 (bt a0 0) (a0.extract 1 a0.size) (decide ((bt a0 0) ≤ 57))) else (impl_readPart.j1 kj5 a0 (bt a0 0) (a0.extract 1 a0.size) false)) = some (r1, r2, r3) := by rw [if_neg (show ¬ (false = true) by decide)] at H; exact H
       clear H
       have H := H1
       clear H1
       have HC11 := Aside0.mk H
       clear H
       go_upto_region 6 with (fail)
       repeat (go_quiet (fail); go_upto_region 6 with (fail))
       go_cut [34] (fun v34 wc => ∃ (kq : Nat) (x34_10 : Bool), v34 = .bool x34_10 ∧ Aside0 (impl_readPart.j1 kq a0 (bt a0 0) (a0.extract 1 a0.size) x34_10 = some (r1, r2, r3)) ∧ Aside0 (kq ≤ kj5) ∧ Aside0 (Below w.heap.size w wc))
       case first =>
        have H := HC11.out
        clear HC11
        by_cases c12 : (bt a0 0) ≥ 48
        ·rw [if_pos c12] at H
         have c12b0 : decide (48 ≤ (bt a0 0)) = true := decide_eq_true c12
         clear c12
         (first | rw [c12b0] | (simp only [i64_w, i32_w]; rw [c12b0]) | skip)
         have H' := Aside0.mk H
         clear H
         go_wp2
         repeat (go_quiet (fail); try go_wp2)
         go_meet
         case rel => exact ⟨_, (decide ((bt a0 0) ≤ 57)), pwa_, H', ⟨by have := HJ5.out; first | omega | exact Nat.le_refl _⟩, ⟨pwg_⟩⟩
        ·rw [if_neg c12] at H
         have c12b0 : decide (48 ≤ (bt a0 0)) = false := decide_eq_false c12
         clear c12
         (first | rw [c12b0] | (simp only [i64_w, i32_w]; rw [c12b0]) | skip)
         have H' := Aside0.mk H
         clear H
         go_wp2
         repeat (go_quiet (fail); try go_wp2)
         go_meet
         case rel => exact ⟨_, (false), pwa_, H', ⟨by have := HJ5.out; first | omega | exact Nat.le_refl _⟩, ⟨pwg_⟩⟩
       case rest =>
        clear HC11
        try clear c1
        try clear c2
        try clear c2b0
        try clear c2b1
        try clear p2
        try clear c3
        try clear c3b0
        try clear c3b1
        try clear p4
        try clear q4
        try clear hx4
        try clear qi4
        try clear c5
        try clear c5b0
        try clear c5b1
        try clear c7
        try clear c7b0
        try clear c8
        try clear c10
        try clear c12
        try clear c12b0
        try clear p2
        try clear p4
        try clear q4
        obtain ⟨kq, x34_10, rfl, HA, HJ10, HB⟩ := hcut
        cases kq with
        | zero => exact absurd HA.out (by simp [impl_readPart.j1])
        | succ kj10 =>
         have H := HA.out
         clear HA
         simp only [impl_readPart.j1] at H
         by_cases c13 : x34_10 = true
         ·subst c13
          have H1 : (some ((([(⟨1, ((bt a0 0) - 48) % 256⟩ : S62)] : List (S62))), (a0.extract 1 a0.size), true)) = some (r1, r2, r3) := by rw [if_pos rfl] at H; exact H
          clear H
          have H := H1
          clear H1
          obtain ⟨y166, hy166⟩ : ∃ y_ : List (S62), y_ = (([(⟨1, ((bt a0 0) - 48) % 256⟩ : S62)] : List (S62))) := ⟨_, rfl⟩
          replace H : (some (y166, (a0.extract 1 a0.size), true)) = some (r1, r2, r3) := by first | (rw [hy166]; with_reducible exact H) | (have H2_ := (Option.bind_some _ _).symm.trans H; rw [hy166]; with_reducible exact H2_) | (have H2_ := (Option.bind_some _ _).symm.trans H; with_reducible exact H2_) | with_reducible exact H | (rw [hy166]; exact H) | exact H
          have Ny166 := Aside0.mk hy166
          clear hy166
          simp only [Option.some.injEq, Prod.mk.injEq] at H
          obtain ⟨rfl, rfl, rfl⟩ := H
          go_wp2_with (first | ((with_reducible refine gate_dst (N := 45) rfl ?_); refine Kd.R_lit k62 _ 62 ?hg (N := 45) ?hd (xs := ([(⟨1, ((bt a0 0) - 48) % 256⟩ : S62)] : List (S62))) (inner := [.int .i64 1, .int .i64 (((bt a0 0) - 48) % 256)]) (ok := fun _ => True) (okp := fun _ => True) ?hr ?hp (fun _ hk => hk) trivial (Below.refl _ _) (Nat.le_refl _) (by simp) ?_; (case hd => rfl); (case hg => rfl); (case hr => first | (go_simp; done) | (go_simp; rfl)); (case hp => exact (Reps.c2 (show Kd.M k62 _ _ _ (⟨1, ((bt a0 0) - 48) % 256⟩ : S62) [.int .i64 1, .int .i64 (((bt a0 0) - 48) % 256)] from (k62_mkM _ _ _ (⟨1, ((bt a0 0) - 48) % 256⟩ : S62) )) (Reps.none _ _))); intro v167 w14 ho15 hb hg_ hnew_; clear hg_ hnew_; (first | rw [← Ny166.out] at ho15 | (simp only [Int.reduceToNat] at ho15; rw [← Ny166.out] at ho15)); have n0_ := Aside0.mk (Kd.R_lower ho15 (below_size pwg_)); have n1_ := Aside0.mk (below_step pwg_ hb); clear HB; have HO168 := n0_; have HB := n1_; clear n0_ n1_; clear hb ho15))
          repeat (go_quiet (first | ((with_reducible refine gate_dst (N := 45) rfl ?_); refine Kd.R_lit k62 _ 62 ?hg (N := 45) ?hd (xs := ([(⟨1, ((bt a0 0) - 48) % 256⟩ : S62)] : List (S62))) (inner := [.int .i64 1, .int .i64 (((bt a0 0) - 48) % 256)]) (ok := fun _ => True) (okp := fun _ => True) ?hr ?hp (fun _ hk => hk) trivial (Below.refl _ _) (Nat.le_refl _) (by simp) ?_; (case hd => rfl); (case hg => rfl); (case hr => first | (go_simp; done) | (go_simp; rfl)); (case hp => exact (Reps.c2 (show Kd.M k62 _ _ _ (⟨1, ((bt a0 0) - 48) % 256⟩ : S62) [.int .i64 1, .int .i64 (((bt a0 0) - 48) % 256)] from (k62_mkM _ _ _ (⟨1, ((bt a0 0) - 48) % 256⟩ : S62) )) (Reps.none _ _))); intro v167 w14 ho15 hb hg_ hnew_; clear hg_ hnew_; (first | rw [← Ny166.out] at ho15 | (simp only [Int.reduceToNat] at ho15; rw [← Ny166.out] at ho15)); have n0_ := Aside0.mk (Kd.R_lower ho15 (below_size pwg_)); have n1_ := Aside0.mk (below_step pwg_ hb); clear HB; have HO168 := n0_; have HB := n1_; clear n0_ n1_; clear hb ho15)); try go_wp2_with (first | ((with_reducible refine gate_dst (N := 45) rfl ?_); refine Kd.R_lit k62 _ 62 ?hg (N := 45) ?hd (xs := ([(⟨1, ((bt a0 0) - 48) % 256⟩ : S62)] : List (S62))) (inner := [.int .i64 1, .int .i64 (((bt a0 0) - 48) % 256)]) (ok := fun _ => True) (okp := fun _ => True) ?hr ?hp (fun _ hk => hk) trivial (Below.refl _ _) (Nat.le_refl _) (by simp) ?_; (case hd => rfl); (case hg => rfl); (case hr => first | (go_simp; done) | (go_simp; rfl)); (case hp => exact (Reps.c2 (show Kd.M k62 _ _ _ (⟨1, ((bt a0 0) - 48) % 256⟩ : S62) [.int .i64 1, .int .i64 (((bt a0 0) - 48) % 256)] from (k62_mkM _ _ _ (⟨1, ((bt a0 0) - 48) % 256⟩ : S62) )) (Reps.none _ _))); intro v167 w14 ho15 hb hg_ hnew_; clear hg_ hnew_; (first | rw [← Ny166.out] at ho15 | (simp only [Int.reduceToNat] at ho15; rw [← Ny166.out] at ho15)); have n0_ := Aside0.mk (Kd.R_lower ho15 (below_size pwg_)); have n1_ := Aside0.mk (below_step pwg_ hb); clear HB; have HO168 := n0_; have HB := n1_; clear n0_ n1_; clear hb ho15)))
          go_ret3
          exact ⟨_, by first | rfl | (simp [errW_none, errW_some] <;> rfl) | (simp [*, errW_none, errW_some] <;> rfl), by (with_reducible repeat apply Kd.R_alloc); exact HO168.out, pwg_⟩
         ·replace c13 := Bool.eq_false_iff.mpr c13
          subst c13
          have H1 : (if (bt a0 0) = 33 then ((impl_readPart.f kj10 (a0.extract 1 a0.size)).bind fun bt169 => (if bt169.1.length < 8796093022208 then (some ((bt169.1 ++ [(⟨2, 0⟩ : S62)]), bt169.2.1, bt169.2.2)) else (none))) else (if (bt a0 0) = 40 then ((impl_readSame.f kj10 (a0.extract 1 a0.size)).bind fun bt177 => ((strings_CutPrefix.f bt177.2.1 (⟨#[41]⟩ : ByteArray)).bind fun bt182 => (if bt177.2.2 = true then (some (bt177.1, bt182.1, bt182.2)) else (some (bt177.1, bt182.1, false))))) else (some (([] : List (S62)), a0, false)))) = some (r1, r2, r3) := by rw [if_neg (show ¬ (false = true) by decide)] at H; exact H
          clear H
          have H := H1
          clear H1
          by_cases c16 : (bt a0 0) = 33
          ·rw [if_pos c16] at H
           have c16b0 : ((bt a0 0) == 33) = true := beq_iff_eq.mpr c16
           have c16b1 : ((bt a0 0) != 33) = false := bne_eq_false_iff_eq.mpr c16
           clear c16
           replace H := Option.bind_eq_some_iff.mp H
           obtain ⟨⟨t169, t170, t171⟩, A170, H⟩ := H
           replace H : (if t169.length < 8796093022208 then (some ((t169 ++ [(⟨2, 0⟩ : S62)]), t170, t171)) else (none)) = some (r1, r2, r3) := H
           have A17 := Aside0.mk A170
           clear A170
           by_cases c18 : t169.length < 8796093022208
           ·rw [if_pos c18] at H
            have LMc18 := Aside0.mk c18
            clear c18
            obtain ⟨y174, hy174⟩ : ∃ y_ : List (S62), y_ = (t169 ++ [(⟨2, 0⟩ : S62)]) := ⟨_, rfl⟩
            replace H : (some (y174, t170, t171)) = some (r1, r2, r3) := by first | (rw [hy174]; with_reducible exact H) | (have H2_ := (Option.bind_some _ _).symm.trans H; rw [hy174]; with_reducible exact H2_) | (have H2_ := (Option.bind_some _ _).symm.trans H; with_reducible exact H2_) | with_reducible exact H | (rw [hy174]; exact H) | exact H
            have Ny174 := Aside0.mk hy174
            clear hy174
            simp only [Option.some.injEq, Prod.mk.injEq] at H
            obtain ⟨rfl, rfl, rfl⟩ := H
            go_wp2_with (first | (go_at_call 107; (with_reducible refine (ih kj10 (by have := HJ5.out; have := HJ10.out; omega) (a0.extract 1 a0.size) t169 t170 t171 _ A17.out).mono ?_); rintro e w19 ⟨v172, rfl, ho0, hb⟩; have n0_ := Aside0.mk (Kd.R_lower ho0 (below_size pwg_)); have n1_ := Aside0.mk (below_step pwg_ hb); clear HB; have HO173 := n0_; have HB := n1_; clear n0_ n1_; (try clear hb); (try clear hb2); (try clear hk); (try clear hi); (try clear ho0)) | ((with_reducible refine gate_builtin (b := .append) (xs := #[.tmp 56, .tmp 58]) rfl ?_); at_builtin; refine Kd.R_append k62 (w0 := w) w.heap.size rfl (.tmp 56) (.tmp 58) 25 62 (.agg #[(.int .i64 0), (.int .i64 0)]) 16 rfl Try.underlying25 info62 rfl (by decide) (by omega) v172 t169 (⟨2, 0⟩ : S62) [.int .i64 2, .int .i64 0] (fun _ => True) (fun _ => False) rfl rfl ?aP (fun _ hk => hk.elim) ?aF ?aO ?aB ?aS ?aL ?_; (case aP => exact k62_mkM _ _ _ (⟨2, 0⟩ : S62)); (case aB => exact pwg_); (case aF => exact (fun _ _ => trivial)); (case aO => exact (by (with_reducible repeat apply Kd.R_alloc); exact HO173.out)); (case aS => exact (below_size pwg_)); (case aL => have := LMc18.out; omega); intro v175 w20 ho hb hg hat; rw [← Ny174.out] at ho; have n0_ := Aside0.mk (hb); have n1_ := Aside0.mk (ho); clear HB; clear HO173; have HB := n0_; have HO176 := n1_; clear n0_ n1_; clear ho hb hg hat))
            repeat (go_quiet (first | (go_at_call 107; (with_reducible refine (ih kj10 (by have := HJ5.out; have := HJ10.out; omega) (a0.extract 1 a0.size) t169 t170 t171 _ A17.out).mono ?_); rintro e w19 ⟨v172, rfl, ho0, hb⟩; have n0_ := Aside0.mk (Kd.R_lower ho0 (below_size pwg_)); have n1_ := Aside0.mk (below_step pwg_ hb); clear HB; have HO173 := n0_; have HB := n1_; clear n0_ n1_; (try clear hb); (try clear hb2); (try clear hk); (try clear hi); (try clear ho0)) | ((with_reducible refine gate_builtin (b := .append) (xs := #[.tmp 56, .tmp 58]) rfl ?_); at_builtin; refine Kd.R_append k62 (w0 := w) w.heap.size rfl (.tmp 56) (.tmp 58) 25 62 (.agg #[(.int .i64 0), (.int .i64 0)]) 16 rfl Try.underlying25 info62 rfl (by decide) (by omega) v172 t169 (⟨2, 0⟩ : S62) [.int .i64 2, .int .i64 0] (fun _ => True) (fun _ => False) rfl rfl ?aP (fun _ hk => hk.elim) ?aF ?aO ?aB ?aS ?aL ?_; (case aP => exact k62_mkM _ _ _ (⟨2, 0⟩ : S62)); (case aB => exact pwg_); (case aF => exact (fun _ _ => trivial)); (case aO => exact (by (with_reducible repeat apply Kd.R_alloc); exact HO173.out)); (case aS => exact (below_size pwg_)); (case aL => have := LMc18.out; omega); intro v175 w20 ho hb hg hat; rw [← Ny174.out] at ho; have n0_ := Aside0.mk (hb); have n1_ := Aside0.mk (ho); clear HB; clear HO173; have HB := n0_; have HO176 := n1_; clear n0_ n1_; clear ho hb hg hat)); try go_wp2_with (first | (go_at_call 107; (with_reducible refine (ih kj10 (by have := HJ5.out; have := HJ10.out; omega) (a0.extract 1 a0.size) t169 t170 t171 _ A17.out).mono ?_); rintro e w19 ⟨v172, rfl, ho0, hb⟩; have n0_ := Aside0.mk (Kd.R_lower ho0 (below_size pwg_)); have n1_ := Aside0.mk (below_step pwg_ hb); clear HB; have HO173 := n0_; have HB := n1_; clear n0_ n1_; (try clear hb); (try clear hb2); (try clear hk); (try clear hi); (try clear ho0)) | ((with_reducible refine gate_builtin (b := .append) (xs := #[.tmp 56, .tmp 58]) rfl ?_); at_builtin; refine Kd.R_append k62 (w0 := w) w.heap.size rfl (.tmp 56) (.tmp 58) 25 62 (.agg #[(.int .i64 0), (.int .i64 0)]) 16 rfl Try.underlying25 info62 rfl (by decide) (by omega) v172 t169 (⟨2, 0⟩ : S62) [.int .i64 2, .int .i64 0] (fun _ => True) (fun _ => False) rfl rfl ?aP (fun _ hk => hk.elim) ?aF ?aO ?aB ?aS ?aL ?_; (case aP => exact k62_mkM _ _ _ (⟨2, 0⟩ : S62)); (case aB => exact pwg_); (case aF => exact (fun _ _ => trivial)); (case aO => exact (by (with_reducible repeat apply Kd.R_alloc); exact HO173.out)); (case aS => exact (below_size pwg_)); (case aL => have := LMc18.out; omega); intro v175 w20 ho hb hg hat; rw [← Ny174.out] at ho; have n0_ := Aside0.mk (hb); have n1_ := Aside0.mk (ho); clear HB; clear HO173; have HB := n0_; have HO176 := n1_; clear n0_ n1_; clear ho hb hg hat)))
            go_ret3
            exact ⟨_, by first | rfl | (simp [errW_none, errW_some] <;> rfl) | (simp [*, errW_none, errW_some] <;> rfl), by (with_reducible repeat apply Kd.R_alloc); exact HO176.out, pwg_⟩
           ·rw [if_neg c18] at H
            exact absurd H (by simp)
          ·rw [if_neg c16] at H
           have c16b0 : ((bt a0 0) == 33) = false := beq_eq_false_iff_ne.mpr c16
           have c16b1 : ((bt a0 0) != 33) = true := bne_iff_ne.mpr c16
           by_cases c21 : (bt a0 0) = 40
           ·rw [if_pos c21] at H
            have c21b0 : ((bt a0 0) == 40) = true := beq_iff_eq.mpr c21
            have c21b1 : ((bt a0 0) != 40) = false := bne_eq_false_iff_eq.mpr c21
            clear c21
            replace H := Option.bind_eq_some_iff.mp H
            obtain ⟨⟨t177, t178, t179⟩, A220, H⟩ := H
            replace H : ((strings_CutPrefix.f t178 (⟨#[41]⟩ : ByteArray)).bind fun bt182 => (if t179 = true then (some (t177, bt182.1, bt182.2)) else (some (t177, bt182.1, false)))) = some (r1, r2, r3) := H
            have A22 := Aside0.mk A220
            clear A220
            replace H := Option.bind_eq_some_iff.mp H
            obtain ⟨⟨t182, t183⟩, A230, H⟩ := H
            replace H : (if t179 = true then (some (t177, t182, t183)) else (some (t177, t182, false))) = some (r1, r2, r3) := H
            have A23 := Aside0.mk A230
            clear A230
            by_cases c24 : t179 = true
            ·subst c24
             have H1 : (some (t177, t182, t183)) = some (r1, r2, r3) := by rw [if_pos rfl] at H; exact H
             clear H
             have H := H1
             clear H1
             simp only [Option.some.injEq, Prod.mk.injEq] at H
             obtain ⟨rfl, rfl, rfl⟩ := H
             go_wp2_with (first | (go_at_call 63; (with_reducible refine (h6_ kj10 (by have := HJ5.out; have := HJ10.out; omega) (a0.extract 1 a0.size) t177 t178 true _ A22.out).mono ?_); rintro e w25 ⟨v180, rfl, ho0, hb⟩; have n0_ := Aside0.mk (Kd.R_lower ho0 (below_size pwg_)); have n1_ := Aside0.mk (below_step pwg_ hb); clear HB; have HO181 := n0_; have HB := n1_; clear n0_ n1_; (try clear hb); (try clear hb2); (try clear hk); (try clear hi); (try clear ho0)) | (go_at_call 101; (with_reducible refine (strings_CutPrefix.calls t178 (⟨#[41]⟩ : ByteArray) t182 t183 _ A23.out).mono ?_); rintro e w' ⟨rfl, ⟨nd, rfl⟩⟩; (try first | exact ⟨rfl, _, World.drewN_drewN _ _ _⟩ | exact ⟨rfl, _, Eq.trans (World.drewN_drewN _ _ _) (congrArg (World.drewN _) (Nat.add_assoc _ _ _))⟩)))
             repeat (go_quiet (first | (go_at_call 63; (with_reducible refine (h6_ kj10 (by have := HJ5.out; have := HJ10.out; omega) (a0.extract 1 a0.size) t177 t178 true _ A22.out).mono ?_); rintro e w25 ⟨v180, rfl, ho0, hb⟩; have n0_ := Aside0.mk (Kd.R_lower ho0 (below_size pwg_)); have n1_ := Aside0.mk (below_step pwg_ hb); clear HB; have HO181 := n0_; have HB := n1_; clear n0_ n1_; (try clear hb); (try clear hb2); (try clear hk); (try clear hi); (try clear ho0)) | (go_at_call 101; (with_reducible refine (strings_CutPrefix.calls t178 (⟨#[41]⟩ : ByteArray) t182 t183 _ A23.out).mono ?_); rintro e w' ⟨rfl, ⟨nd, rfl⟩⟩; (try first | exact ⟨rfl, _, World.drewN_drewN _ _ _⟩ | exact ⟨rfl, _, Eq.trans (World.drewN_drewN _ _ _) (congrArg (World.drewN _) (Nat.add_assoc _ _ _))⟩))); try go_wp2_with (first | (go_at_call 63; (with_reducible refine (h6_ kj10 (by have := HJ5.out; have := HJ10.out; omega) (a0.extract 1 a0.size) t177 t178 true _ A22.out).mono ?_); rintro e w25 ⟨v180, rfl, ho0, hb⟩; have n0_ := Aside0.mk (Kd.R_lower ho0 (below_size pwg_)); have n1_ := Aside0.mk (below_step pwg_ hb); clear HB; have HO181 := n0_; have HB := n1_; clear n0_ n1_; (try clear hb); (try clear hb2); (try clear hk); (try clear hi); (try clear ho0)) | (go_at_call 101; (with_reducible refine (strings_CutPrefix.calls t178 (⟨#[41]⟩ : ByteArray) t182 t183 _ A23.out).mono ?_); rintro e w' ⟨rfl, ⟨nd, rfl⟩⟩; (try first | exact ⟨rfl, _, World.drewN_drewN _ _ _⟩ | exact ⟨rfl, _, Eq.trans (World.drewN_drewN _ _ _) (congrArg (World.drewN _) (Nat.add_assoc _ _ _))⟩))))
             go_ret3
             exact ⟨_, by first | rfl | (simp [errW_none, errW_some] <;> rfl) | (simp [*, errW_none, errW_some] <;> rfl), by (with_reducible repeat apply Kd.R_alloc); exact HO181.out, pwg_⟩
            ·replace c24 := Bool.eq_false_iff.mpr c24
             subst c24
             have H1 : (some (t177, t182, false)) = some (r1, r2, r3) := by rw [if_neg (show ¬ (false = true) by decide)] at H; exact H
             clear H
             have H := H1
             clear H1
             simp only [Option.some.injEq, Prod.mk.injEq] at H
             obtain ⟨rfl, rfl, rfl⟩ := H
             go_wp2_with (first | (go_at_call 63; (with_reducible refine (h6_ kj10 (by have := HJ5.out; have := HJ10.out; omega) (a0.extract 1 a0.size) t177 t178 false _ A22.out).mono ?_); rintro e w26 ⟨v180, rfl, ho0, hb⟩; have n0_ := Aside0.mk (Kd.R_lower ho0 (below_size pwg_)); have n1_ := Aside0.mk (below_step pwg_ hb); clear HB; have HO181 := n0_; have HB := n1_; clear n0_ n1_; (try clear hb); (try clear hb2); (try clear hk); (try clear hi); (try clear ho0)) | (go_at_call 101; (with_reducible refine (strings_CutPrefix.calls t178 (⟨#[41]⟩ : ByteArray) t182 t183 _ A23.out).mono ?_); rintro e w' ⟨rfl, ⟨nd, rfl⟩⟩; (try first | exact ⟨rfl, _, World.drewN_drewN _ _ _⟩ | exact ⟨rfl, _, Eq.trans (World.drewN_drewN _ _ _) (congrArg (World.drewN _) (Nat.add_assoc _ _ _))⟩)))
             repeat (go_quiet (first | (go_at_call 63; (with_reducible refine (h6_ kj10 (by have := HJ5.out; have := HJ10.out; omega) (a0.extract 1 a0.size) t177 t178 false _ A22.out).mono ?_); rintro e w26 ⟨v180, rfl, ho0, hb⟩; have n0_ := Aside0.mk (Kd.R_lower ho0 (below_size pwg_)); have n1_ := Aside0.mk (below_step pwg_ hb); clear HB; have HO181 := n0_; have HB := n1_; clear n0_ n1_; (try clear hb); (try clear hb2); (try clear hk); (try clear hi); (try clear ho0)) | (go_at_call 101; (with_reducible refine (strings_CutPrefix.calls t178 (⟨#[41]⟩ : ByteArray) t182 t183 _ A23.out).mono ?_); rintro e w' ⟨rfl, ⟨nd, rfl⟩⟩; (try first | exact ⟨rfl, _, World.drewN_drewN _ _ _⟩ | exact ⟨rfl, _, Eq.trans (World.drewN_drewN _ _ _) (congrArg (World.drewN _) (Nat.add_assoc _ _ _))⟩))); try go_wp2_with (first | (go_at_call 63; (with_reducible refine (h6_ kj10 (by have := HJ5.out; have := HJ10.out; omega) (a0.extract 1 a0.size) t177 t178 false _ A22.out).mono ?_); rintro e w26 ⟨v180, rfl, ho0, hb⟩; have n0_ := Aside0.mk (Kd.R_lower ho0 (below_size pwg_)); have n1_ := Aside0.mk (below_step pwg_ hb); clear HB; have HO181 := n0_; have HB := n1_; clear n0_ n1_; (try clear hb); (try clear hb2); (try clear hk); (try clear hi); (try clear ho0)) | (go_at_call 101; (with_reducible refine (strings_CutPrefix.calls t178 (⟨#[41]⟩ : ByteArray) t182 t183 _ A23.out).mono ?_); rintro e w' ⟨rfl, ⟨nd, rfl⟩⟩; (try first | exact ⟨rfl, _, World.drewN_drewN _ _ _⟩ | exact ⟨rfl, _, Eq.trans (World.drewN_drewN _ _ _) (congrArg (World.drewN _) (Nat.add_assoc _ _ _))⟩))))
             go_ret3
             exact ⟨_, by first | rfl | (simp [errW_none, errW_some] <;> rfl) | (simp [*, errW_none, errW_some] <;> rfl), by (with_reducible repeat apply Kd.R_alloc); exact HO181.out, pwg_⟩
           ·rw [if_neg c21] at H
            have c21b0 : ((bt a0 0) == 40) = false := beq_eq_false_iff_ne.mpr c21
            have c21b1 : ((bt a0 0) != 40) = true := bne_iff_ne.mpr c21
            simp only [Option.some.injEq, Prod.mk.injEq] at H
            obtain ⟨rfl, rfl, rfl⟩ := H
            go_wp2
            repeat (go_quiet (fail); try go_wp2)
            go_ret3
            exact ⟨_, by first | rfl | (simp [errW_none, errW_some] <;> rfl) | (simp [*, errW_none, errW_some] <;> rfl), by first | exact Kd.R_nil _ _ _ _ _ | exact Kd.N_nil _ _ _ _ _ | exact Kd.V_nil _ _ _ _ _ | exact Kd.Q_nil _ _ _ _ _ | exact Kd.S_nil _ _ _ _ _, pwg_⟩
   ·rw [if_neg c5] at H
    exact absurd H (by simp)
  ·rw [if_neg c3] at H
   exact absurd H (by simp)
set_option maxHeartbeats 8000000 in
set_option maxRecDepth 100000 in
theorem impl_readRowC.step (k : Nat) (h0_ : ∀ m_, m_ < k → ∀ (a0 : ByteArray) (r1 : List (S62)) (r2 : ByteArray) (r3 : Bool) (w : World) (h : impl_readPart.f m_ a0 = some (r1, r2, r3)),
  Calls Try.prog 107 #[.string a0] w fun e w' => ∃ v0_ : Value, e = .returned (.tuple #[v0_, .string r2, .bool r3]) ∧ Kd.R k62 62 w' w.heap.size (fun _ => True) v0_ r1 ∧ Below w.heap.size w w') (h1_ : ∀ m_, m_ < k → ∀ (a0 : ByteArray) (a1 : ByteArray) (a2 : Int) (a3 : Int) (r1 : List (S62)) (r2 : ByteArray) (r3 : Bool) (w : World) (h : impl_readRowC.f m_ a0 a1 a2 a3 = some (r1, r2, r3)),
  Calls Try.prog 89 #[.string a0, .string a1, .int .i64 a2, .func (.func 107) #[] #[]] w fun e w' => ∃ v0_ : Value, e = .returned (.tuple #[v0_, .string r2, .bool r3]) ∧ Kd.R k62 62 w' w.heap.size (fun _ => True) v0_ r1 ∧ Below w.heap.size w w') (h2_ : ∀ m_, m_ < k → ∀ (a0 : ByteArray) (r1 : List (S62)) (r2 : ByteArray) (r3 : Bool) (w : World) (h : impl_readAnd.f m_ a0 = some (r1, r2, r3)),
  Calls Try.prog 102 #[.string a0] w fun e w' => ∃ v0_ : Value, e = .returned (.tuple #[v0_, .string r2, .bool r3]) ∧ Kd.R k62 62 w' w.heap.size (fun _ => True) v0_ r1 ∧ Below w.heap.size w w') (h3_ : ∀ m_, m_ < k → ∀ (a0 : ByteArray) (a1 : ByteArray) (a2 : Int) (a3 : Int) (r1 : List (S62)) (r2 : ByteArray) (r3 : Bool) (w : World) (h : impl_readRowB.f m_ a0 a1 a2 a3 = some (r1, r2, r3)),
  Calls Try.prog 89 #[.string a0, .string a1, .int .i64 a2, .func (.func 102) #[] #[]] w fun e w' => ∃ v0_ : Value, e = .returned (.tuple #[v0_, .string r2, .bool r3]) ∧ Kd.R k62 62 w' w.heap.size (fun _ => True) v0_ r1 ∧ Below w.heap.size w w') (h4_ : ∀ m_, m_ < k → ∀ (a0 : ByteArray) (r1 : List (S62)) (r2 : ByteArray) (r3 : Bool) (w : World) (h : impl_readOr.f m_ a0 = some (r1, r2, r3)),
  Calls Try.prog 90 #[.string a0] w fun e w' => ∃ v0_ : Value, e = .returned (.tuple #[v0_, .string r2, .bool r3]) ∧ Kd.R k62 62 w' w.heap.size (fun _ => True) v0_ r1 ∧ Below w.heap.size w w') (h5_ : ∀ m_, m_ < k → ∀ (a0 : ByteArray) (a1 : ByteArray) (a2 : Int) (a3 : Int) (r1 : List (S62)) (r2 : ByteArray) (r3 : Bool) (w : World) (h : impl_readRowA.f m_ a0 a1 a2 a3 = some (r1, r2, r3)),
  Calls Try.prog 89 #[.string a0, .string a1, .int .i64 a2, .func (.func 90) #[] #[]] w fun e w' => ∃ v0_ : Value, e = .returned (.tuple #[v0_, .string r2, .bool r3]) ∧ Kd.R k62 62 w' w.heap.size (fun _ => True) v0_ r1 ∧ Below w.heap.size w w') (h6_ : ∀ m_, m_ < k → ∀ (a0 : ByteArray) (r1 : List (S62)) (r2 : ByteArray) (r3 : Bool) (w : World) (h : impl_readSame.f m_ a0 = some (r1, r2, r3)),
  Calls Try.prog 63 #[.string a0] w fun e w' => ∃ v0_ : Value, e = .returned (.tuple #[v0_, .string r2, .bool r3]) ∧ Kd.R k62 62 w' w.heap.size (fun _ => True) v0_ r1 ∧ Below w.heap.size w w') : ∀ (a0 : ByteArray) (a1 : ByteArray) (a2 : Int) (a3 : Int) (r1 : List (S62)) (r2 : ByteArray) (r3 : Bool) (w : World) (h : impl_readRowC.f k a0 a1 a2 a3 = some (r1, r2, r3)),
  Calls Try.prog 89 #[.string a0, .string a1, .int .i64 a2, .func (.func 107) #[] #[]] w fun e w' => ∃ v0_ : Value, e = .returned (.tuple #[v0_, .string r2, .bool r3]) ∧ Kd.R k62 62 w' w.heap.size (fun _ => True) v0_ r1 ∧ Below w.heap.size w w' := by
 have ih := h1_
 intro a0 a1 a2 a3 r1 r2 r3 w h
 cases k with
 | zero => exact absurd h (by simp [impl_readRowC.f])
 | succ k =>
 simp only [impl_readRowC.f] at h
 have hu62 := Try.underlying62
 have HB := Aside0.mk (Below.refl w.heap.size w)
 have H : ((impl_readPart.f k a0).bind fun bt184 => (impl_readRowC.l0 k bt184.2.1 a1 a2 bt184.1 bt184.2.2)) = some (r1, r2, r3) := h
 clear h
 replace H := Option.bind_eq_some_iff.mp H
 obtain ⟨⟨t184, t185, t186⟩, A50, H⟩ := H
 replace H : (impl_readRowC.l0 k t185 a1 a2 t184 t186) = some (r1, r2, r3) := H
 have A5 := Aside0.mk A50
 clear A50
 have H' := Aside0.mk H
 clear H
 go_enter Try.func89, Try.ntmps89
 go_wp2_with (first | ((with_reducible refine gate_dyn (c := 17) rfl ?_); refine goesD_ (some 19) rfl rfl Try.func107 (by kernel_rfl) rfl #[.string a0] rfl (by first | rfl | (go_simp; done) | (go_simp; rfl)) pwh_ ?_; (with_reducible refine (h0_ k (by omega) a0 t184 t185 t186 _ A5.out).mono ?_); rintro e w6 ⟨v187, rfl, ho0, hb⟩; refine ⟨_, rfl, ?_⟩; have n0_ := Aside0.mk (Kd.R_lower ho0 (below_size pwg_)); have n1_ := Aside0.mk (below_step pwg_ hb); clear HB; have HO188 := n0_; have HB := n1_; clear n0_ n1_; (try clear hb); (try clear hb2); (try clear hk); (try clear hi); (try clear ho0)))
 go_loopg [0, 11, 12] k (fun kq v0 v11 v12 w' => ∃ (x0_1 : ByteArray) (x11_1 : List (S62)) (x12_1 : Bool), v0 = .string x0_1 ∧ v12 = .bool x12_1 ∧ Aside0 (impl_readRowC.l0 kq x0_1 a1 a2 x11_1 x12_1 = some (r1, r2, r3)) ∧ Aside0 (kq ≤ k) ∧ Aside0 (Kd.R k62 62 w' w.heap.size (fun _ => True) v11 x11_1) ∧ Aside0 (Below w.heap.size w w'))
 case atStart => exact ⟨(t185), (t184), (t186), pwa_, pwa_, H', ⟨Nat.le_refl _⟩, ⟨by (with_reducible repeat apply Kd.R_alloc); exact HO188.out⟩, ⟨pwg_⟩⟩
 case round =>
  clear H'
  try clear c1
  try clear p2
  obtain ⟨x0_1, x11_1, x12_1, rfl, rfl, HA, HK1, HO_11, HB⟩ := hrel
  cases gk with
  | zero => exact absurd HA.out (by simp [impl_readRowC.l0])
  | succ k1 =>
   have H := HA.out
   clear HA
   simp only [impl_readRowC.l0] at H
   by_cases c7 : x12_1 = true
   ·subst c7
    have H1 : ((strings_CutPrefix.f x0_1 a1).bind fun bt189 => (if bt189.2 = true then ((impl_readPart.f k1 bt189.1).bind fun bt191 => (if x11_1.length + bt191.1.length < 8796093022208 then ((some (x11_1 ++ bt191.1 : List (S62))).bind fun y196 => (if y196.length < 8796093022208 then (impl_readRowC.l0 k1 bt191.2.1 a1 a2 (y196 ++ [(⟨a2, 0⟩ : S62)]) bt191.2.2) else (none))) else (none))) else (some (x11_1, x0_1, true)))) = some (r1, r2, r3) := by rw [if_pos rfl] at H; exact H
    clear H
    have H := H1
    clear H1
    replace H := Option.bind_eq_some_iff.mp H
    obtain ⟨⟨t189, t190⟩, A80, H⟩ := H
    replace H : (if t190 = true then ((impl_readPart.f k1 t189).bind fun bt191 => (if x11_1.length + bt191.1.length < 8796093022208 then ((some (x11_1 ++ bt191.1 : List (S62))).bind fun y196 => (if y196.length < 8796093022208 then (impl_readRowC.l0 k1 bt191.2.1 a1 a2 (y196 ++ [(⟨a2, 0⟩ : S62)]) bt191.2.2) else (none))) else (none))) else (some (x11_1, x0_1, true))) = some (r1, r2, r3) := H
    have A8 := Aside0.mk A80
    clear A80
    by_cases c9 : t190 = true
    ·subst c9
     have H1 : ((impl_readPart.f k1 t189).bind fun bt191 => (if x11_1.length + bt191.1.length < 8796093022208 then ((some (x11_1 ++ bt191.1 : List (S62))).bind fun y196 => (if y196.length < 8796093022208 then (impl_readRowC.l0 k1 bt191.2.1 a1 a2 (y196 ++ [(⟨a2, 0⟩ : S62)]) bt191.2.2) else (none))) else (none))) = some (r1, r2, r3) := by rw [if_pos rfl] at H; exact H
     clear H
     have H := H1
     clear H1
     replace H := Option.bind_eq_some_iff.mp H
     obtain ⟨⟨t191, t192, t193⟩, A100, H⟩ := H
     replace H : (if x11_1.length + t191.length < 8796093022208 then ((some (x11_1 ++ t191 : List (S62))).bind fun y196 => (if y196.length < 8796093022208 then (impl_readRowC.l0 k1 t192 a1 a2 (y196 ++ [(⟨a2, 0⟩ : S62)]) t193) else (none))) else (none)) = some (r1, r2, r3) := H
     have A10 := Aside0.mk A100
     clear A100
     by_cases c11 : x11_1.length + t191.length < 8796093022208
     ·rw [if_pos c11] at H
      have LMc11 := Aside0.mk c11
      clear c11
      obtain ⟨y196, hy196⟩ : ∃ y_ : List (S62), y_ = (x11_1 ++ t191) := ⟨_, rfl⟩
      replace H : (if y196.length < 8796093022208 then (impl_readRowC.l0 k1 t192 a1 a2 (y196 ++ [(⟨a2, 0⟩ : S62)]) t193) else (none)) = some (r1, r2, r3) := by first | (rw [hy196]; with_reducible exact H) | (have H2_ := (Option.bind_some _ _).symm.trans H; rw [hy196]; with_reducible exact H2_) | (have H2_ := (Option.bind_some _ _).symm.trans H; with_reducible exact H2_) | with_reducible exact H | (rw [hy196]; exact H) | exact H
      have Ny196 := Aside0.mk hy196
      clear hy196
      by_cases c12 : y196.length < 8796093022208
      ·rw [if_pos c12] at H
       have LMc12 := Aside0.mk c12
       clear c12
       obtain ⟨y199, hy199⟩ : ∃ y_ : List (S62), y_ = (y196 ++ [(⟨a2, 0⟩ : S62)]) := ⟨_, rfl⟩
       replace H : (impl_readRowC.l0 k1 t192 a1 a2 y199 t193) = some (r1, r2, r3) := by first | (rw [hy199]; with_reducible exact H) | (have H2_ := (Option.bind_some _ _).symm.trans H; rw [hy199]; with_reducible exact H2_) | (have H2_ := (Option.bind_some _ _).symm.trans H; with_reducible exact H2_) | with_reducible exact H | (rw [hy199]; exact H) | exact H
       have Ny199 := Aside0.mk hy199
       clear hy199
       have H' := Aside0.mk H
       clear H
       go_wp2_with (first | ((with_reducible refine gate_callee (f := 101) rfl ?_); refine goesL_ (some 27) rfl rfl Try.func101 (by kernel_rfl) rfl #[.string x0_1, .string a1] rfl pwh_ ?_; (with_reducible refine (strings_CutPrefix.calls x0_1 a1 t189 true _ A8.out).mono ?_); rintro e w' ⟨rfl, ⟨nd, rfl⟩⟩; refine ⟨_, rfl, ?_⟩) | ((with_reducible refine gate_dyn (c := 35) rfl ?_); refine goesD_ (some 37) rfl rfl Try.func107 (by kernel_rfl) rfl #[.string t189] rfl (by first | rfl | (go_simp; done) | (go_simp; rfl)) pwh_ ?_; (with_reducible refine (h0_ k1 (by have := HK1.out; omega) t189 t191 t192 t193 _ A10.out).mono ?_); rintro e w13 ⟨v194, rfl, ho0, hb⟩; refine ⟨_, rfl, ?_⟩; have n0_ := Aside0.mk (Kd.R_elder' pwd_ (Kd.R_base ho0) hb); have n1_ := Aside0.mk (Kd.R_lower (Kd.R_new' ho0 (Kd.R_lt pwd_)) (below_size pwg_)); have n2_ := Aside0.mk (below_step pwg_ hb); clear HO_11; clear HB; have HO_11 := n0_; have HO195 := n1_; have HB := n2_; clear n0_ n1_ n2_; (try clear hb); (try clear hb2); (try clear hk); (try clear hi); (try clear ho0); obtain ⟨Ao15, co15, eo15⟩ := Kd.R_slice HO195.out; subst eo15) | ((with_reducible refine gate_builtin (b := .append) (xs := #[.tmp 41, .tmp 42]) rfl ?_); at_builtin; refine Kd.R_append_rows k62 (w0 := w) w.heap.size rfl (.tmp 41) (.tmp 42) 25 62 (.agg #[(.int .i64 0), (.int .i64 0)]) 16 rfl Try.underlying25 info62 rfl (by decide) (by omega) u11 x11_1 t191 _ _ _ (fun k_ => some k_ ≠ (.slice Ao15 t191.length co15 : Value).ownBlock) (fun _ => False) rfl rfl ?aO ?aR (fun _ _ h => h) (fun _ h => h.elim) ?aF ?aB ?aS ?aL ?_; (case aR => repeat (first | exact (Kd.R_reads' HO195.out).2.2 | (with_reducible refine Kd.C_alloc ?_ _) | (with_reducible refine Kd.C_drewN ?_ _) | (with_reducible refine Kd.C_drew ?_))); (case aB => exact pwg_); (case aF => exact (fun k_ hk => Kd.fresh' (Kd.R_lt (by (with_reducible repeat apply Kd.R_alloc); exact HO195.out)) k_ hk)); (case aO => exact (by (with_reducible repeat apply Kd.R_alloc); exact Kd.R_mono HO_11.out (fun _ hk => hk.2))); (case aS => exact (below_size pwg_)); (case aL => have := LMc11.out; omega); intro v197 w14 ho hb hg hat; rw [← Ny196.out] at ho; have n0_ := Aside0.mk (Kd.R_after (ok := (fun _ => True)) (by (with_reducible repeat apply Kd.R_alloc); exact HO195.out) hg hat); have n1_ := Aside0.mk (hb); have n2_ := Aside0.mk (ho); clear HO195; clear HB; clear HO_11; have HO195 := n0_; have HB := n1_; have HO198 := n2_; clear n0_ n1_ n2_; clear ho hb hg hat) | ((with_reducible refine gate_builtin (b := .append) (xs := #[.tmp 43, .tmp 46]) rfl ?_); at_builtin; refine Kd.R_append k62 (w0 := w) w.heap.size rfl (.tmp 43) (.tmp 46) 25 62 (.agg #[(.int .i64 0), (.int .i64 0)]) 16 rfl Try.underlying25 info62 rfl (by decide) (by omega) v197 y196 (⟨a2, 0⟩ : S62) [.int .i64 a2, .int .i64 0] (fun k_ => some k_ ≠ (.slice Ao15 t191.length co15 : Value).ownBlock) (fun _ => False) rfl rfl ?aP (fun _ hk => hk.elim) ?aF ?aO ?aB ?aS ?aL ?_; (case aP => exact k62_mkM _ _ _ (⟨a2, 0⟩ : S62)); (case aB => exact pwg_); (case aF => exact (fun k_ hk => Kd.fresh' (Kd.R_lt (by (with_reducible repeat apply Kd.R_alloc); exact HO195.out)) k_ hk)); (case aO => exact (by (with_reducible repeat apply Kd.R_alloc); exact HO198.out)); (case aS => exact (below_size pwg_)); (case aL => have := LMc12.out; omega); intro v200 w16 ho hb hg hat; rw [← Ny199.out] at ho; have n0_ := Aside0.mk (Kd.R_after (ok := (fun _ => True)) (by (with_reducible repeat apply Kd.R_alloc); exact HO195.out) hg hat); have n1_ := Aside0.mk (hb); have n2_ := Aside0.mk (ho); clear HO195; clear HB; clear HO198; have HO195 := n0_; have HB := n1_; have HO201 := n2_; clear n0_ n1_ n2_; clear ho hb hg hat))
       go_roundg k1
       case measure => have := HK1.out; omega
       case rel => exact ⟨(t192), (y199), (t193), pwa_, pwa_, H', ⟨by have := HK1.out; omega⟩, ⟨by (with_reducible repeat apply Kd.R_alloc); exact Kd.R_mono HO201.out (fun _ hk => trivial)⟩, ⟨pwg_⟩⟩
      ·rw [if_neg c12] at H
       exact absurd H (by simp)
     ·rw [if_neg c11] at H
      exact absurd H (by simp)
    ·replace c9 := Bool.eq_false_iff.mpr c9
     subst c9
     have H1 : (some (x11_1, x0_1, true)) = some (r1, r2, r3) := by rw [if_neg (show ¬ (false = true) by decide)] at H; exact H
     clear H
     have H := H1
     clear H1
     simp only [Option.some.injEq, Prod.mk.injEq] at H
     obtain ⟨rfl, rfl, rfl⟩ := H
     go_wp2_with (first | ((with_reducible refine gate_callee (f := 101) rfl ?_); refine goesL_ (some 27) rfl rfl Try.func101 (by kernel_rfl) rfl #[.string x0_1, .string a1] rfl pwh_ ?_; (with_reducible refine (strings_CutPrefix.calls x0_1 a1 t189 false _ A8.out).mono ?_); rintro e w' ⟨rfl, ⟨nd, rfl⟩⟩; refine ⟨_, rfl, ?_⟩))
     go_ret3
     exact ⟨_, by first | rfl | (simp [errW_none, errW_some] <;> rfl) | (simp [*, errW_none, errW_some] <;> rfl), pwd_, pwg_⟩
   ·replace c7 := Bool.eq_false_iff.mpr c7
    subst c7
    have H1 : (some (([] : List (S62)), x0_1, false)) = some (r1, r2, r3) := by rw [if_neg (show ¬ (false = true) by decide)] at H; exact H
    clear H
    have H := H1
    clear H1
    simp only [Option.some.injEq, Prod.mk.injEq] at H
    obtain ⟨rfl, rfl, rfl⟩ := H
    go_wp2
    go_ret3
    exact ⟨_, by first | rfl | (simp [errW_none, errW_some] <;> rfl) | (simp [*, errW_none, errW_some] <;> rfl), by first | exact Kd.R_nil _ _ _ _ _ | exact Kd.N_nil _ _ _ _ _ | exact Kd.V_nil _ _ _ _ _ | exact Kd.Q_nil _ _ _ _ _ | exact Kd.S_nil _ _ _ _ _, pwg_⟩
set_option maxHeartbeats 8000000 in
set_option maxRecDepth 100000 in
theorem impl_readAnd.step (k : Nat) (h0_ : ∀ m_, m_ < k → ∀ (a0 : ByteArray) (r1 : List (S62)) (r2 : ByteArray) (r3 : Bool) (w : World) (h : impl_readPart.f m_ a0 = some (r1, r2, r3)),
  Calls Try.prog 107 #[.string a0] w fun e w' => ∃ v0_ : Value, e = .returned (.tuple #[v0_, .string r2, .bool r3]) ∧ Kd.R k62 62 w' w.heap.size (fun _ => True) v0_ r1 ∧ Below w.heap.size w w') (h1_ : ∀ m_, m_ < k → ∀ (a0 : ByteArray) (a1 : ByteArray) (a2 : Int) (a3 : Int) (r1 : List (S62)) (r2 : ByteArray) (r3 : Bool) (w : World) (h : impl_readRowC.f m_ a0 a1 a2 a3 = some (r1, r2, r3)),
  Calls Try.prog 89 #[.string a0, .string a1, .int .i64 a2, .func (.func 107) #[] #[]] w fun e w' => ∃ v0_ : Value, e = .returned (.tuple #[v0_, .string r2, .bool r3]) ∧ Kd.R k62 62 w' w.heap.size (fun _ => True) v0_ r1 ∧ Below w.heap.size w w') (h2_ : ∀ m_, m_ < k → ∀ (a0 : ByteArray) (r1 : List (S62)) (r2 : ByteArray) (r3 : Bool) (w : World) (h : impl_readAnd.f m_ a0 = some (r1, r2, r3)),
  Calls Try.prog 102 #[.string a0] w fun e w' => ∃ v0_ : Value, e = .returned (.tuple #[v0_, .string r2, .bool r3]) ∧ Kd.R k62 62 w' w.heap.size (fun _ => True) v0_ r1 ∧ Below w.heap.size w w') (h3_ : ∀ m_, m_ < k → ∀ (a0 : ByteArray) (a1 : ByteArray) (a2 : Int) (a3 : Int) (r1 : List (S62)) (r2 : ByteArray) (r3 : Bool) (w : World) (h : impl_readRowB.f m_ a0 a1 a2 a3 = some (r1, r2, r3)),
  Calls Try.prog 89 #[.string a0, .string a1, .int .i64 a2, .func (.func 102) #[] #[]] w fun e w' => ∃ v0_ : Value, e = .returned (.tuple #[v0_, .string r2, .bool r3]) ∧ Kd.R k62 62 w' w.heap.size (fun _ => True) v0_ r1 ∧ Below w.heap.size w w') (h4_ : ∀ m_, m_ < k → ∀ (a0 : ByteArray) (r1 : List (S62)) (r2 : ByteArray) (r3 : Bool) (w : World) (h : impl_readOr.f m_ a0 = some (r1, r2, r3)),
  Calls Try.prog 90 #[.string a0] w fun e w' => ∃ v0_ : Value, e = .returned (.tuple #[v0_, .string r2, .bool r3]) ∧ Kd.R k62 62 w' w.heap.size (fun _ => True) v0_ r1 ∧ Below w.heap.size w w') (h5_ : ∀ m_, m_ < k → ∀ (a0 : ByteArray) (a1 : ByteArray) (a2 : Int) (a3 : Int) (r1 : List (S62)) (r2 : ByteArray) (r3 : Bool) (w : World) (h : impl_readRowA.f m_ a0 a1 a2 a3 = some (r1, r2, r3)),
  Calls Try.prog 89 #[.string a0, .string a1, .int .i64 a2, .func (.func 90) #[] #[]] w fun e w' => ∃ v0_ : Value, e = .returned (.tuple #[v0_, .string r2, .bool r3]) ∧ Kd.R k62 62 w' w.heap.size (fun _ => True) v0_ r1 ∧ Below w.heap.size w w') (h6_ : ∀ m_, m_ < k → ∀ (a0 : ByteArray) (r1 : List (S62)) (r2 : ByteArray) (r3 : Bool) (w : World) (h : impl_readSame.f m_ a0 = some (r1, r2, r3)),
  Calls Try.prog 63 #[.string a0] w fun e w' => ∃ v0_ : Value, e = .returned (.tuple #[v0_, .string r2, .bool r3]) ∧ Kd.R k62 62 w' w.heap.size (fun _ => True) v0_ r1 ∧ Below w.heap.size w w') : ∀ (a0 : ByteArray) (r1 : List (S62)) (r2 : ByteArray) (r3 : Bool) (w : World) (h : impl_readAnd.f k a0 = some (r1, r2, r3)),
  Calls Try.prog 102 #[.string a0] w fun e w' => ∃ v0_ : Value, e = .returned (.tuple #[v0_, .string r2, .bool r3]) ∧ Kd.R k62 62 w' w.heap.size (fun _ => True) v0_ r1 ∧ Below w.heap.size w w' := by
 have ih := h2_
 intro a0 r1 r2 r3 w h
 cases k with
 | zero => exact absurd h (by simp [impl_readAnd.f])
 | succ k =>
 simp only [impl_readAnd.f] at h
 have HB := Aside0.mk (Below.refl w.heap.size w)
 have H : ((impl_readRowC.f k a0 (⟨#[38]⟩ : ByteArray) 3 777107).bind fun bt202 => (some (bt202.1, bt202.2.1, bt202.2.2))) = some (r1, r2, r3) := h
 clear h
 replace H := Option.bind_eq_some_iff.mp H
 obtain ⟨⟨t202, t203, t204⟩, A20, H⟩ := H
 replace H : (some (t202, t203, t204)) = some (r1, r2, r3) := H
 have A2 := Aside0.mk A20
 clear A20
 simp only [Option.some.injEq, Prod.mk.injEq] at H
 obtain ⟨rfl, rfl, rfl⟩ := H
 go_enter Try.func102, Try.ntmps102
 go_wp2_with (first | ((with_reducible refine gate_callee (f := 89) rfl ?_); refine goesL_ (some 6) rfl rfl Try.func89 (by kernel_rfl) rfl #[.string a0, .string (⟨#[38]⟩ : ByteArray), .int .i64 3, .func (.func 107) #[] #[]] rfl pwh_ ?_; (with_reducible refine (h1_ k (by omega) a0 (⟨#[38]⟩ : ByteArray) 3 777107 t202 t203 t204 _ A2.out).mono ?_); rintro e w3 ⟨v205, rfl, ho0, hb⟩; refine ⟨_, rfl, ?_⟩; have n0_ := Aside0.mk (Kd.R_lower ho0 (below_size pwg_)); have n1_ := Aside0.mk (below_step pwg_ hb); clear HB; have HO206 := n0_; have HB := n1_; clear n0_ n1_; (try clear hb); (try clear hb2); (try clear hk); (try clear hi); (try clear ho0)))
 go_ret3
 exact ⟨_, by first | rfl | (simp [errW_none, errW_some] <;> rfl) | (simp [*, errW_none, errW_some] <;> rfl), by (with_reducible repeat apply Kd.R_alloc); exact HO206.out, pwg_⟩
set_option maxHeartbeats 8000000 in
set_option maxRecDepth 100000 in
theorem impl_readRowB.step (k : Nat) (h0_ : ∀ m_, m_ < k → ∀ (a0 : ByteArray) (r1 : List (S62)) (r2 : ByteArray) (r3 : Bool) (w : World) (h : impl_readPart.f m_ a0 = some (r1, r2, r3)),
  Calls Try.prog 107 #[.string a0] w fun e w' => ∃ v0_ : Value, e = .returned (.tuple #[v0_, .string r2, .bool r3]) ∧ Kd.R k62 62 w' w.heap.size (fun _ => True) v0_ r1 ∧ Below w.heap.size w w') (h1_ : ∀ m_, m_ < k → ∀ (a0 : ByteArray) (a1 : ByteArray) (a2 : Int) (a3 : Int) (r1 : List (S62)) (r2 : ByteArray) (r3 : Bool) (w : World) (h : impl_readRowC.f m_ a0 a1 a2 a3 = some (r1, r2, r3)),
  Calls Try.prog 89 #[.string a0, .string a1, .int .i64 a2, .func (.func 107) #[] #[]] w fun e w' => ∃ v0_ : Value, e = .returned (.tuple #[v0_, .string r2, .bool r3]) ∧ Kd.R k62 62 w' w.heap.size (fun _ => True) v0_ r1 ∧ Below w.heap.size w w') (h2_ : ∀ m_, m_ < k → ∀ (a0 : ByteArray) (r1 : List (S62)) (r2 : ByteArray) (r3 : Bool) (w : World) (h : impl_readAnd.f m_ a0 = some (r1, r2, r3)),
  Calls Try.prog 102 #[.string a0] w fun e w' => ∃ v0_ : Value, e = .returned (.tuple #[v0_, .string r2, .bool r3]) ∧ Kd.R k62 62 w' w.heap.size (fun _ => True) v0_ r1 ∧ Below w.heap.size w w') (h3_ : ∀ m_, m_ < k → ∀ (a0 : ByteArray) (a1 : ByteArray) (a2 : Int) (a3 : Int) (r1 : List (S62)) (r2 : ByteArray) (r3 : Bool) (w : World) (h : impl_readRowB.f m_ a0 a1 a2 a3 = some (r1, r2, r3)),
  Calls Try.prog 89 #[.string a0, .string a1, .int .i64 a2, .func (.func 102) #[] #[]] w fun e w' => ∃ v0_ : Value, e = .returned (.tuple #[v0_, .string r2, .bool r3]) ∧ Kd.R k62 62 w' w.heap.size (fun _ => True) v0_ r1 ∧ Below w.heap.size w w') (h4_ : ∀ m_, m_ < k → ∀ (a0 : ByteArray) (r1 : List (S62)) (r2 : ByteArray) (r3 : Bool) (w : World) (h : impl_readOr.f m_ a0 = some (r1, r2, r3)),
  Calls Try.prog 90 #[.string a0] w fun e w' => ∃ v0_ : Value, e = .returned (.tuple #[v0_, .string r2, .bool r3]) ∧ Kd.R k62 62 w' w.heap.size (fun _ => True) v0_ r1 ∧ Below w.heap.size w w') (h5_ : ∀ m_, m_ < k → ∀ (a0 : ByteArray) (a1 : ByteArray) (a2 : Int) (a3 : Int) (r1 : List (S62)) (r2 : ByteArray) (r3 : Bool) (w : World) (h : impl_readRowA.f m_ a0 a1 a2 a3 = some (r1, r2, r3)),
  Calls Try.prog 89 #[.string a0, .string a1, .int .i64 a2, .func (.func 90) #[] #[]] w fun e w' => ∃ v0_ : Value, e = .returned (.tuple #[v0_, .string r2, .bool r3]) ∧ Kd.R k62 62 w' w.heap.size (fun _ => True) v0_ r1 ∧ Below w.heap.size w w') (h6_ : ∀ m_, m_ < k → ∀ (a0 : ByteArray) (r1 : List (S62)) (r2 : ByteArray) (r3 : Bool) (w : World) (h : impl_readSame.f m_ a0 = some (r1, r2, r3)),
  Calls Try.prog 63 #[.string a0] w fun e w' => ∃ v0_ : Value, e = .returned (.tuple #[v0_, .string r2, .bool r3]) ∧ Kd.R k62 62 w' w.heap.size (fun _ => True) v0_ r1 ∧ Below w.heap.size w w') : ∀ (a0 : ByteArray) (a1 : ByteArray) (a2 : Int) (a3 : Int) (r1 : List (S62)) (r2 : ByteArray) (r3 : Bool) (w : World) (h : impl_readRowB.f k a0 a1 a2 a3 = some (r1, r2, r3)),
  Calls Try.prog 89 #[.string a0, .string a1, .int .i64 a2, .func (.func 102) #[] #[]] w fun e w' => ∃ v0_ : Value, e = .returned (.tuple #[v0_, .string r2, .bool r3]) ∧ Kd.R k62 62 w' w.heap.size (fun _ => True) v0_ r1 ∧ Below w.heap.size w w' := by
 have ih := h3_
 intro a0 a1 a2 a3 r1 r2 r3 w h
 cases k with
 | zero => exact absurd h (by simp [impl_readRowB.f])
 | succ k =>
 simp only [impl_readRowB.f] at h
 have hu62 := Try.underlying62
 have HB := Aside0.mk (Below.refl w.heap.size w)
 have H : ((impl_readAnd.f k a0).bind fun bt207 => (impl_readRowB.l0 k bt207.2.1 a1 a2 bt207.1 bt207.2.2)) = some (r1, r2, r3) := h
 clear h
 replace H := Option.bind_eq_some_iff.mp H
 obtain ⟨⟨t207, t208, t209⟩, A50, H⟩ := H
 replace H : (impl_readRowB.l0 k t208 a1 a2 t207 t209) = some (r1, r2, r3) := H
 have A5 := Aside0.mk A50
 clear A50
 have H' := Aside0.mk H
 clear H
 go_enter Try.func89, Try.ntmps89
 go_wp2_with (first | ((with_reducible refine gate_dyn (c := 17) rfl ?_); refine goesD_ (some 19) rfl rfl Try.func102 (by kernel_rfl) rfl #[.string a0] rfl (by first | rfl | (go_simp; done) | (go_simp; rfl)) pwh_ ?_; (with_reducible refine (h2_ k (by omega) a0 t207 t208 t209 _ A5.out).mono ?_); rintro e w6 ⟨v210, rfl, ho0, hb⟩; refine ⟨_, rfl, ?_⟩; have n0_ := Aside0.mk (Kd.R_lower ho0 (below_size pwg_)); have n1_ := Aside0.mk (below_step pwg_ hb); clear HB; have HO211 := n0_; have HB := n1_; clear n0_ n1_; (try clear hb); (try clear hb2); (try clear hk); (try clear hi); (try clear ho0)))
 go_loopg [0, 11, 12] k (fun kq v0 v11 v12 w' => ∃ (x0_1 : ByteArray) (x11_1 : List (S62)) (x12_1 : Bool), v0 = .string x0_1 ∧ v12 = .bool x12_1 ∧ Aside0 (impl_readRowB.l0 kq x0_1 a1 a2 x11_1 x12_1 = some (r1, r2, r3)) ∧ Aside0 (kq ≤ k) ∧ Aside0 (Kd.R k62 62 w' w.heap.size (fun _ => True) v11 x11_1) ∧ Aside0 (Below w.heap.size w w'))
 case atStart => exact ⟨(t208), (t207), (t209), pwa_, pwa_, H', ⟨Nat.le_refl _⟩, ⟨by (with_reducible repeat apply Kd.R_alloc); exact HO211.out⟩, ⟨pwg_⟩⟩
 case round =>
  clear H'
  try clear c1
  try clear p2
  obtain ⟨x0_1, x11_1, x12_1, rfl, rfl, HA, HK1, HO_11, HB⟩ := hrel
  cases gk with
  | zero => exact absurd HA.out (by simp [impl_readRowB.l0])
  | succ k1 =>
   have H := HA.out
   clear HA
   simp only [impl_readRowB.l0] at H
   by_cases c7 : x12_1 = true
   ·subst c7
    have H1 : ((strings_CutPrefix.f x0_1 a1).bind fun bt212 => (if bt212.2 = true then ((impl_readAnd.f k1 bt212.1).bind fun bt214 => (if x11_1.length + bt214.1.length < 8796093022208 then ((some (x11_1 ++ bt214.1 : List (S62))).bind fun y219 => (if y219.length < 8796093022208 then (impl_readRowB.l0 k1 bt214.2.1 a1 a2 (y219 ++ [(⟨a2, 0⟩ : S62)]) bt214.2.2) else (none))) else (none))) else (some (x11_1, x0_1, true)))) = some (r1, r2, r3) := by rw [if_pos rfl] at H; exact H
    clear H
    have H := H1
    clear H1
    replace H := Option.bind_eq_some_iff.mp H
    obtain ⟨⟨t212, t213⟩, A80, H⟩ := H
    replace H : (if t213 = true then ((impl_readAnd.f k1 t212).bind fun bt214 => (if x11_1.length + bt214.1.length < 8796093022208 then ((some (x11_1 ++ bt214.1 : List (S62))).bind fun y219 => (if y219.length < 8796093022208 then (impl_readRowB.l0 k1 bt214.2.1 a1 a2 (y219 ++ [(⟨a2, 0⟩ : S62)]) bt214.2.2) else (none))) else (none))) else (some (x11_1, x0_1, true))) = some (r1, r2, r3) := H
    have A8 := Aside0.mk A80
    clear A80
    by_cases c9 : t213 = true
    ·subst c9
     have H1 : ((impl_readAnd.f k1 t212).bind fun bt214 => (if x11_1.length + bt214.1.length < 8796093022208 then ((some (x11_1 ++ bt214.1 : List (S62))).bind fun y219 => (if y219.length < 8796093022208 then (impl_readRowB.l0 k1 bt214.2.1 a1 a2 (y219 ++ [(⟨a2, 0⟩ : S62)]) bt214.2.2) else (none))) else (none))) = some (r1, r2, r3) := by rw [if_pos rfl] at H; exact H
     clear H
     have H := H1
     clear H1
     replace H := Option.bind_eq_some_iff.mp H
     obtain ⟨⟨t214, t215, t216⟩, A100, H⟩ := H
     replace H : (if x11_1.length + t214.length < 8796093022208 then ((some (x11_1 ++ t214 : List (S62))).bind fun y219 => (if y219.length < 8796093022208 then (impl_readRowB.l0 k1 t215 a1 a2 (y219 ++ [(⟨a2, 0⟩ : S62)]) t216) else (none))) else (none)) = some (r1, r2, r3) := H
     have A10 := Aside0.mk A100
     clear A100
     by_cases c11 : x11_1.length + t214.length < 8796093022208
     ·rw [if_pos c11] at H
      have LMc11 := Aside0.mk c11
      clear c11
      obtain ⟨y219, hy219⟩ : ∃ y_ : List (S62), y_ = (x11_1 ++ t214) := ⟨_, rfl⟩
      replace H : (if y219.length < 8796093022208 then (impl_readRowB.l0 k1 t215 a1 a2 (y219 ++ [(⟨a2, 0⟩ : S62)]) t216) else (none)) = some (r1, r2, r3) := by first | (rw [hy219]; with_reducible exact H) | (have H2_ := (Option.bind_some _ _).symm.trans H; rw [hy219]; with_reducible exact H2_) | (have H2_ := (Option.bind_some _ _).symm.trans H; with_reducible exact H2_) | with_reducible exact H | (rw [hy219]; exact H) | exact H
      have Ny219 := Aside0.mk hy219
      clear hy219
      by_cases c12 : y219.length < 8796093022208
      ·rw [if_pos c12] at H
       have LMc12 := Aside0.mk c12
       clear c12
       obtain ⟨y222, hy222⟩ : ∃ y_ : List (S62), y_ = (y219 ++ [(⟨a2, 0⟩ : S62)]) := ⟨_, rfl⟩
       replace H : (impl_readRowB.l0 k1 t215 a1 a2 y222 t216) = some (r1, r2, r3) := by first | (rw [hy222]; with_reducible exact H) | (have H2_ := (Option.bind_some _ _).symm.trans H; rw [hy222]; with_reducible exact H2_) | (have H2_ := (Option.bind_some _ _).symm.trans H; with_reducible exact H2_) | with_reducible exact H | (rw [hy222]; exact H) | exact H
       have Ny222 := Aside0.mk hy222
       clear hy222
       have H' := Aside0.mk H
       clear H
       go_wp2_with (first | ((with_reducible refine gate_callee (f := 101) rfl ?_); refine goesL_ (some 27) rfl rfl Try.func101 (by kernel_rfl) rfl #[.string x0_1, .string a1] rfl pwh_ ?_; (with_reducible refine (strings_CutPrefix.calls x0_1 a1 t212 true _ A8.out).mono ?_); rintro e w' ⟨rfl, ⟨nd, rfl⟩⟩; refine ⟨_, rfl, ?_⟩) | ((with_reducible refine gate_dyn (c := 35) rfl ?_); refine goesD_ (some 37) rfl rfl Try.func102 (by kernel_rfl) rfl #[.string t212] rfl (by first | rfl | (go_simp; done) | (go_simp; rfl)) pwh_ ?_; (with_reducible refine (h2_ k1 (by have := HK1.out; omega) t212 t214 t215 t216 _ A10.out).mono ?_); rintro e w13 ⟨v217, rfl, ho0, hb⟩; refine ⟨_, rfl, ?_⟩; have n0_ := Aside0.mk (Kd.R_elder' pwd_ (Kd.R_base ho0) hb); have n1_ := Aside0.mk (Kd.R_lower (Kd.R_new' ho0 (Kd.R_lt pwd_)) (below_size pwg_)); have n2_ := Aside0.mk (below_step pwg_ hb); clear HO_11; clear HB; have HO_11 := n0_; have HO218 := n1_; have HB := n2_; clear n0_ n1_ n2_; (try clear hb); (try clear hb2); (try clear hk); (try clear hi); (try clear ho0); obtain ⟨Ao15, co15, eo15⟩ := Kd.R_slice HO218.out; subst eo15) | ((with_reducible refine gate_builtin (b := .append) (xs := #[.tmp 41, .tmp 42]) rfl ?_); at_builtin; refine Kd.R_append_rows k62 (w0 := w) w.heap.size rfl (.tmp 41) (.tmp 42) 25 62 (.agg #[(.int .i64 0), (.int .i64 0)]) 16 rfl Try.underlying25 info62 rfl (by decide) (by omega) u11 x11_1 t214 _ _ _ (fun k_ => some k_ ≠ (.slice Ao15 t214.length co15 : Value).ownBlock) (fun _ => False) rfl rfl ?aO ?aR (fun _ _ h => h) (fun _ h => h.elim) ?aF ?aB ?aS ?aL ?_; (case aR => repeat (first | exact (Kd.R_reads' HO218.out).2.2 | (with_reducible refine Kd.C_alloc ?_ _) | (with_reducible refine Kd.C_drewN ?_ _) | (with_reducible refine Kd.C_drew ?_))); (case aB => exact pwg_); (case aF => exact (fun k_ hk => Kd.fresh' (Kd.R_lt (by (with_reducible repeat apply Kd.R_alloc); exact HO218.out)) k_ hk)); (case aO => exact (by (with_reducible repeat apply Kd.R_alloc); exact Kd.R_mono HO_11.out (fun _ hk => hk.2))); (case aS => exact (below_size pwg_)); (case aL => have := LMc11.out; omega); intro v220 w14 ho hb hg hat; rw [← Ny219.out] at ho; have n0_ := Aside0.mk (Kd.R_after (ok := (fun _ => True)) (by (with_reducible repeat apply Kd.R_alloc); exact HO218.out) hg hat); have n1_ := Aside0.mk (hb); have n2_ := Aside0.mk (ho); clear HO218; clear HB; clear HO_11; have HO218 := n0_; have HB := n1_; have HO221 := n2_; clear n0_ n1_ n2_; clear ho hb hg hat) | ((with_reducible refine gate_builtin (b := .append) (xs := #[.tmp 43, .tmp 46]) rfl ?_); at_builtin; refine Kd.R_append k62 (w0 := w) w.heap.size rfl (.tmp 43) (.tmp 46) 25 62 (.agg #[(.int .i64 0), (.int .i64 0)]) 16 rfl Try.underlying25 info62 rfl (by decide) (by omega) v220 y219 (⟨a2, 0⟩ : S62) [.int .i64 a2, .int .i64 0] (fun k_ => some k_ ≠ (.slice Ao15 t214.length co15 : Value).ownBlock) (fun _ => False) rfl rfl ?aP (fun _ hk => hk.elim) ?aF ?aO ?aB ?aS ?aL ?_; (case aP => exact k62_mkM _ _ _ (⟨a2, 0⟩ : S62)); (case aB => exact pwg_); (case aF => exact (fun k_ hk => Kd.fresh' (Kd.R_lt (by (with_reducible repeat apply Kd.R_alloc); exact HO218.out)) k_ hk)); (case aO => exact (by (with_reducible repeat apply Kd.R_alloc); exact HO221.out)); (case aS => exact (below_size pwg_)); (case aL => have := LMc12.out; omega); intro v223 w16 ho hb hg hat; rw [← Ny222.out] at ho; have n0_ := Aside0.mk (Kd.R_after (ok := (fun _ => True)) (by (with_reducible repeat apply Kd.R_alloc); exact HO218.out) hg hat); have n1_ := Aside0.mk (hb); have n2_ := Aside0.mk (ho); clear HO218; clear HB; clear HO221; have HO218 := n0_; have HB := n1_; have HO224 := n2_; clear n0_ n1_ n2_; clear ho hb hg hat))
       go_roundg k1
       case measure => have := HK1.out; omega
       case rel => exact ⟨(t215), (y222), (t216), pwa_, pwa_, H', ⟨by have := HK1.out; omega⟩, ⟨by (with_reducible repeat apply Kd.R_alloc); exact Kd.R_mono HO224.out (fun _ hk => trivial)⟩, ⟨pwg_⟩⟩
      ·rw [if_neg c12] at H
       exact absurd H (by simp)
     ·rw [if_neg c11] at H
      exact absurd H (by simp)
    ·replace c9 := Bool.eq_false_iff.mpr c9
     subst c9
     have H1 : (some (x11_1, x0_1, true)) = some (r1, r2, r3) := by rw [if_neg (show ¬ (false = true) by decide)] at H; exact H
     clear H
     have H := H1
     clear H1
     simp only [Option.some.injEq, Prod.mk.injEq] at H
     obtain ⟨rfl, rfl, rfl⟩ := H
     go_wp2_with (first | ((with_reducible refine gate_callee (f := 101) rfl ?_); refine goesL_ (some 27) rfl rfl Try.func101 (by kernel_rfl) rfl #[.string x0_1, .string a1] rfl pwh_ ?_; (with_reducible refine (strings_CutPrefix.calls x0_1 a1 t212 false _ A8.out).mono ?_); rintro e w' ⟨rfl, ⟨nd, rfl⟩⟩; refine ⟨_, rfl, ?_⟩))
     go_ret3
     exact ⟨_, by first | rfl | (simp [errW_none, errW_some] <;> rfl) | (simp [*, errW_none, errW_some] <;> rfl), pwd_, pwg_⟩
   ·replace c7 := Bool.eq_false_iff.mpr c7
    subst c7
    have H1 : (some (([] : List (S62)), x0_1, false)) = some (r1, r2, r3) := by rw [if_neg (show ¬ (false = true) by decide)] at H; exact H
    clear H
    have H := H1
    clear H1
    simp only [Option.some.injEq, Prod.mk.injEq] at H
    obtain ⟨rfl, rfl, rfl⟩ := H
    go_wp2
    go_ret3
    exact ⟨_, by first | rfl | (simp [errW_none, errW_some] <;> rfl) | (simp [*, errW_none, errW_some] <;> rfl), by first | exact Kd.R_nil _ _ _ _ _ | exact Kd.N_nil _ _ _ _ _ | exact Kd.V_nil _ _ _ _ _ | exact Kd.Q_nil _ _ _ _ _ | exact Kd.S_nil _ _ _ _ _, pwg_⟩
set_option maxHeartbeats 8000000 in
set_option maxRecDepth 100000 in
theorem impl_readOr.step (k : Nat) (h0_ : ∀ m_, m_ < k → ∀ (a0 : ByteArray) (r1 : List (S62)) (r2 : ByteArray) (r3 : Bool) (w : World) (h : impl_readPart.f m_ a0 = some (r1, r2, r3)),
  Calls Try.prog 107 #[.string a0] w fun e w' => ∃ v0_ : Value, e = .returned (.tuple #[v0_, .string r2, .bool r3]) ∧ Kd.R k62 62 w' w.heap.size (fun _ => True) v0_ r1 ∧ Below w.heap.size w w') (h1_ : ∀ m_, m_ < k → ∀ (a0 : ByteArray) (a1 : ByteArray) (a2 : Int) (a3 : Int) (r1 : List (S62)) (r2 : ByteArray) (r3 : Bool) (w : World) (h : impl_readRowC.f m_ a0 a1 a2 a3 = some (r1, r2, r3)),
  Calls Try.prog 89 #[.string a0, .string a1, .int .i64 a2, .func (.func 107) #[] #[]] w fun e w' => ∃ v0_ : Value, e = .returned (.tuple #[v0_, .string r2, .bool r3]) ∧ Kd.R k62 62 w' w.heap.size (fun _ => True) v0_ r1 ∧ Below w.heap.size w w') (h2_ : ∀ m_, m_ < k → ∀ (a0 : ByteArray) (r1 : List (S62)) (r2 : ByteArray) (r3 : Bool) (w : World) (h : impl_readAnd.f m_ a0 = some (r1, r2, r3)),
  Calls Try.prog 102 #[.string a0] w fun e w' => ∃ v0_ : Value, e = .returned (.tuple #[v0_, .string r2, .bool r3]) ∧ Kd.R k62 62 w' w.heap.size (fun _ => True) v0_ r1 ∧ Below w.heap.size w w') (h3_ : ∀ m_, m_ < k → ∀ (a0 : ByteArray) (a1 : ByteArray) (a2 : Int) (a3 : Int) (r1 : List (S62)) (r2 : ByteArray) (r3 : Bool) (w : World) (h : impl_readRowB.f m_ a0 a1 a2 a3 = some (r1, r2, r3)),
  Calls Try.prog 89 #[.string a0, .string a1, .int .i64 a2, .func (.func 102) #[] #[]] w fun e w' => ∃ v0_ : Value, e = .returned (.tuple #[v0_, .string r2, .bool r3]) ∧ Kd.R k62 62 w' w.heap.size (fun _ => True) v0_ r1 ∧ Below w.heap.size w w') (h4_ : ∀ m_, m_ < k → ∀ (a0 : ByteArray) (r1 : List (S62)) (r2 : ByteArray) (r3 : Bool) (w : World) (h : impl_readOr.f m_ a0 = some (r1, r2, r3)),
  Calls Try.prog 90 #[.string a0] w fun e w' => ∃ v0_ : Value, e = .returned (.tuple #[v0_, .string r2, .bool r3]) ∧ Kd.R k62 62 w' w.heap.size (fun _ => True) v0_ r1 ∧ Below w.heap.size w w') (h5_ : ∀ m_, m_ < k → ∀ (a0 : ByteArray) (a1 : ByteArray) (a2 : Int) (a3 : Int) (r1 : List (S62)) (r2 : ByteArray) (r3 : Bool) (w : World) (h : impl_readRowA.f m_ a0 a1 a2 a3 = some (r1, r2, r3)),
  Calls Try.prog 89 #[.string a0, .string a1, .int .i64 a2, .func (.func 90) #[] #[]] w fun e w' => ∃ v0_ : Value, e = .returned (.tuple #[v0_, .string r2, .bool r3]) ∧ Kd.R k62 62 w' w.heap.size (fun _ => True) v0_ r1 ∧ Below w.heap.size w w') (h6_ : ∀ m_, m_ < k → ∀ (a0 : ByteArray) (r1 : List (S62)) (r2 : ByteArray) (r3 : Bool) (w : World) (h : impl_readSame.f m_ a0 = some (r1, r2, r3)),
  Calls Try.prog 63 #[.string a0] w fun e w' => ∃ v0_ : Value, e = .returned (.tuple #[v0_, .string r2, .bool r3]) ∧ Kd.R k62 62 w' w.heap.size (fun _ => True) v0_ r1 ∧ Below w.heap.size w w') : ∀ (a0 : ByteArray) (r1 : List (S62)) (r2 : ByteArray) (r3 : Bool) (w : World) (h : impl_readOr.f k a0 = some (r1, r2, r3)),
  Calls Try.prog 90 #[.string a0] w fun e w' => ∃ v0_ : Value, e = .returned (.tuple #[v0_, .string r2, .bool r3]) ∧ Kd.R k62 62 w' w.heap.size (fun _ => True) v0_ r1 ∧ Below w.heap.size w w' := by
 have ih := h4_
 intro a0 r1 r2 r3 w h
 cases k with
 | zero => exact absurd h (by simp [impl_readOr.f])
 | succ k =>
 simp only [impl_readOr.f] at h
 have HB := Aside0.mk (Below.refl w.heap.size w)
 have H : ((impl_readRowB.f k a0 (⟨#[124]⟩ : ByteArray) 4 777102).bind fun bt225 => (some (bt225.1, bt225.2.1, bt225.2.2))) = some (r1, r2, r3) := h
 clear h
 replace H := Option.bind_eq_some_iff.mp H
 obtain ⟨⟨t225, t226, t227⟩, A20, H⟩ := H
 replace H : (some (t225, t226, t227)) = some (r1, r2, r3) := H
 have A2 := Aside0.mk A20
 clear A20
 simp only [Option.some.injEq, Prod.mk.injEq] at H
 obtain ⟨rfl, rfl, rfl⟩ := H
 go_enter Try.func90, Try.ntmps90
 go_wp2_with (first | ((with_reducible refine gate_callee (f := 89) rfl ?_); refine goesL_ (some 6) rfl rfl Try.func89 (by kernel_rfl) rfl #[.string a0, .string (⟨#[124]⟩ : ByteArray), .int .i64 4, .func (.func 102) #[] #[]] rfl pwh_ ?_; (with_reducible refine (h3_ k (by omega) a0 (⟨#[124]⟩ : ByteArray) 4 777102 t225 t226 t227 _ A2.out).mono ?_); rintro e w3 ⟨v228, rfl, ho0, hb⟩; refine ⟨_, rfl, ?_⟩; have n0_ := Aside0.mk (Kd.R_lower ho0 (below_size pwg_)); have n1_ := Aside0.mk (below_step pwg_ hb); clear HB; have HO229 := n0_; have HB := n1_; clear n0_ n1_; (try clear hb); (try clear hb2); (try clear hk); (try clear hi); (try clear ho0)))
 go_ret3
 exact ⟨_, by first | rfl | (simp [errW_none, errW_some] <;> rfl) | (simp [*, errW_none, errW_some] <;> rfl), by (with_reducible repeat apply Kd.R_alloc); exact HO229.out, pwg_⟩
set_option maxHeartbeats 8000000 in
set_option maxRecDepth 100000 in
theorem impl_readRowA.step (k : Nat) (h0_ : ∀ m_, m_ < k → ∀ (a0 : ByteArray) (r1 : List (S62)) (r2 : ByteArray) (r3 : Bool) (w : World) (h : impl_readPart.f m_ a0 = some (r1, r2, r3)),
  Calls Try.prog 107 #[.string a0] w fun e w' => ∃ v0_ : Value, e = .returned (.tuple #[v0_, .string r2, .bool r3]) ∧ Kd.R k62 62 w' w.heap.size (fun _ => True) v0_ r1 ∧ Below w.heap.size w w') (h1_ : ∀ m_, m_ < k → ∀ (a0 : ByteArray) (a1 : ByteArray) (a2 : Int) (a3 : Int) (r1 : List (S62)) (r2 : ByteArray) (r3 : Bool) (w : World) (h : impl_readRowC.f m_ a0 a1 a2 a3 = some (r1, r2, r3)),
  Calls Try.prog 89 #[.string a0, .string a1, .int .i64 a2, .func (.func 107) #[] #[]] w fun e w' => ∃ v0_ : Value, e = .returned (.tuple #[v0_, .string r2, .bool r3]) ∧ Kd.R k62 62 w' w.heap.size (fun _ => True) v0_ r1 ∧ Below w.heap.size w w') (h2_ : ∀ m_, m_ < k → ∀ (a0 : ByteArray) (r1 : List (S62)) (r2 : ByteArray) (r3 : Bool) (w : World) (h : impl_readAnd.f m_ a0 = some (r1, r2, r3)),
  Calls Try.prog 102 #[.string a0] w fun e w' => ∃ v0_ : Value, e = .returned (.tuple #[v0_, .string r2, .bool r3]) ∧ Kd.R k62 62 w' w.heap.size (fun _ => True) v0_ r1 ∧ Below w.heap.size w w') (h3_ : ∀ m_, m_ < k → ∀ (a0 : ByteArray) (a1 : ByteArray) (a2 : Int) (a3 : Int) (r1 : List (S62)) (r2 : ByteArray) (r3 : Bool) (w : World) (h : impl_readRowB.f m_ a0 a1 a2 a3 = some (r1, r2, r3)),
  Calls Try.prog 89 #[.string a0, .string a1, .int .i64 a2, .func (.func 102) #[] #[]] w fun e w' => ∃ v0_ : Value, e = .returned (.tuple #[v0_, .string r2, .bool r3]) ∧ Kd.R k62 62 w' w.heap.size (fun _ => True) v0_ r1 ∧ Below w.heap.size w w') (h4_ : ∀ m_, m_ < k → ∀ (a0 : ByteArray) (r1 : List (S62)) (r2 : ByteArray) (r3 : Bool) (w : World) (h : impl_readOr.f m_ a0 = some (r1, r2, r3)),
  Calls Try.prog 90 #[.string a0] w fun e w' => ∃ v0_ : Value, e = .returned (.tuple #[v0_, .string r2, .bool r3]) ∧ Kd.R k62 62 w' w.heap.size (fun _ => True) v0_ r1 ∧ Below w.heap.size w w') (h5_ : ∀ m_, m_ < k → ∀ (a0 : ByteArray) (a1 : ByteArray) (a2 : Int) (a3 : Int) (r1 : List (S62)) (r2 : ByteArray) (r3 : Bool) (w : World) (h : impl_readRowA.f m_ a0 a1 a2 a3 = some (r1, r2, r3)),
  Calls Try.prog 89 #[.string a0, .string a1, .int .i64 a2, .func (.func 90) #[] #[]] w fun e w' => ∃ v0_ : Value, e = .returned (.tuple #[v0_, .string r2, .bool r3]) ∧ Kd.R k62 62 w' w.heap.size (fun _ => True) v0_ r1 ∧ Below w.heap.size w w') (h6_ : ∀ m_, m_ < k → ∀ (a0 : ByteArray) (r1 : List (S62)) (r2 : ByteArray) (r3 : Bool) (w : World) (h : impl_readSame.f m_ a0 = some (r1, r2, r3)),
  Calls Try.prog 63 #[.string a0] w fun e w' => ∃ v0_ : Value, e = .returned (.tuple #[v0_, .string r2, .bool r3]) ∧ Kd.R k62 62 w' w.heap.size (fun _ => True) v0_ r1 ∧ Below w.heap.size w w') : ∀ (a0 : ByteArray) (a1 : ByteArray) (a2 : Int) (a3 : Int) (r1 : List (S62)) (r2 : ByteArray) (r3 : Bool) (w : World) (h : impl_readRowA.f k a0 a1 a2 a3 = some (r1, r2, r3)),
  Calls Try.prog 89 #[.string a0, .string a1, .int .i64 a2, .func (.func 90) #[] #[]] w fun e w' => ∃ v0_ : Value, e = .returned (.tuple #[v0_, .string r2, .bool r3]) ∧ Kd.R k62 62 w' w.heap.size (fun _ => True) v0_ r1 ∧ Below w.heap.size w w' := by
 have ih := h5_
 intro a0 a1 a2 a3 r1 r2 r3 w h
 cases k with
 | zero => exact absurd h (by simp [impl_readRowA.f])
 | succ k =>
 simp only [impl_readRowA.f] at h
 have hu62 := Try.underlying62
 have HB := Aside0.mk (Below.refl w.heap.size w)
 have H : ((impl_readOr.f k a0).bind fun bt230 => (impl_readRowA.l0 k bt230.2.1 a1 a2 bt230.1 bt230.2.2)) = some (r1, r2, r3) := h
 clear h
 replace H := Option.bind_eq_some_iff.mp H
 obtain ⟨⟨t230, t231, t232⟩, A50, H⟩ := H
 replace H : (impl_readRowA.l0 k t231 a1 a2 t230 t232) = some (r1, r2, r3) := H
 have A5 := Aside0.mk A50
 clear A50
 have H' := Aside0.mk H
 clear H
 go_enter Try.func89, Try.ntmps89
 go_wp2_with (first | ((with_reducible refine gate_dyn (c := 17) rfl ?_); refine goesD_ (some 19) rfl rfl Try.func90 (by kernel_rfl) rfl #[.string a0] rfl (by first | rfl | (go_simp; done) | (go_simp; rfl)) pwh_ ?_; (with_reducible refine (h4_ k (by omega) a0 t230 t231 t232 _ A5.out).mono ?_); rintro e w6 ⟨v233, rfl, ho0, hb⟩; refine ⟨_, rfl, ?_⟩; have n0_ := Aside0.mk (Kd.R_lower ho0 (below_size pwg_)); have n1_ := Aside0.mk (below_step pwg_ hb); clear HB; have HO234 := n0_; have HB := n1_; clear n0_ n1_; (try clear hb); (try clear hb2); (try clear hk); (try clear hi); (try clear ho0)))
 go_loopg [0, 11, 12] k (fun kq v0 v11 v12 w' => ∃ (x0_1 : ByteArray) (x11_1 : List (S62)) (x12_1 : Bool), v0 = .string x0_1 ∧ v12 = .bool x12_1 ∧ Aside0 (impl_readRowA.l0 kq x0_1 a1 a2 x11_1 x12_1 = some (r1, r2, r3)) ∧ Aside0 (kq ≤ k) ∧ Aside0 (Kd.R k62 62 w' w.heap.size (fun _ => True) v11 x11_1) ∧ Aside0 (Below w.heap.size w w'))
 case atStart => exact ⟨(t231), (t230), (t232), pwa_, pwa_, H', ⟨Nat.le_refl _⟩, ⟨by (with_reducible repeat apply Kd.R_alloc); exact HO234.out⟩, ⟨pwg_⟩⟩
 case round =>
  clear H'
  try clear c1
  try clear p2
  obtain ⟨x0_1, x11_1, x12_1, rfl, rfl, HA, HK1, HO_11, HB⟩ := hrel
  cases gk with
  | zero => exact absurd HA.out (by simp [impl_readRowA.l0])
  | succ k1 =>
   have H := HA.out
   clear HA
   simp only [impl_readRowA.l0] at H
   by_cases c7 : x12_1 = true
   ·subst c7
    have H1 : ((strings_CutPrefix.f x0_1 a1).bind fun bt235 => (if bt235.2 = true then ((impl_readOr.f k1 bt235.1).bind fun bt237 => (if x11_1.length + bt237.1.length < 8796093022208 then ((some (x11_1 ++ bt237.1 : List (S62))).bind fun y242 => (if y242.length < 8796093022208 then (impl_readRowA.l0 k1 bt237.2.1 a1 a2 (y242 ++ [(⟨a2, 0⟩ : S62)]) bt237.2.2) else (none))) else (none))) else (some (x11_1, x0_1, true)))) = some (r1, r2, r3) := by rw [if_pos rfl] at H; exact H
    clear H
    have H := H1
    clear H1
    replace H := Option.bind_eq_some_iff.mp H
    obtain ⟨⟨t235, t236⟩, A80, H⟩ := H
    replace H : (if t236 = true then ((impl_readOr.f k1 t235).bind fun bt237 => (if x11_1.length + bt237.1.length < 8796093022208 then ((some (x11_1 ++ bt237.1 : List (S62))).bind fun y242 => (if y242.length < 8796093022208 then (impl_readRowA.l0 k1 bt237.2.1 a1 a2 (y242 ++ [(⟨a2, 0⟩ : S62)]) bt237.2.2) else (none))) else (none))) else (some (x11_1, x0_1, true))) = some (r1, r2, r3) := H
    have A8 := Aside0.mk A80
    clear A80
    by_cases c9 : t236 = true
    ·subst c9
     have H1 : ((impl_readOr.f k1 t235).bind fun bt237 => (if x11_1.length + bt237.1.length < 8796093022208 then ((some (x11_1 ++ bt237.1 : List (S62))).bind fun y242 => (if y242.length < 8796093022208 then (impl_readRowA.l0 k1 bt237.2.1 a1 a2 (y242 ++ [(⟨a2, 0⟩ : S62)]) bt237.2.2) else (none))) else (none))) = some (r1, r2, r3) := by rw [if_pos rfl] at H; exact H
     clear H
     have H := H1
     clear H1
     replace H := Option.bind_eq_some_iff.mp H
     obtain ⟨⟨t237, t238, t239⟩, A100, H⟩ := H
     replace H : (if x11_1.length + t237.length < 8796093022208 then ((some (x11_1 ++ t237 : List (S62))).bind fun y242 => (if y242.length < 8796093022208 then (impl_readRowA.l0 k1 t238 a1 a2 (y242 ++ [(⟨a2, 0⟩ : S62)]) t239) else (none))) else (none)) = some (r1, r2, r3) := H
     have A10 := Aside0.mk A100
     clear A100
     by_cases c11 : x11_1.length + t237.length < 8796093022208
     ·rw [if_pos c11] at H
      have LMc11 := Aside0.mk c11
      clear c11
      obtain ⟨y242, hy242⟩ : ∃ y_ : List (S62), y_ = (x11_1 ++ t237) := ⟨_, rfl⟩
      replace H : (if y242.length < 8796093022208 then (impl_readRowA.l0 k1 t238 a1 a2 (y242 ++ [(⟨a2, 0⟩ : S62)]) t239) else (none)) = some (r1, r2, r3) := by first | (rw [hy242]; with_reducible exact H) | (have H2_ := (Option.bind_some _ _).symm.trans H; rw [hy242]; with_reducible exact H2_) | (have H2_ := (Option.bind_some _ _).symm.trans H; with_reducible exact H2_) | with_reducible exact H | (rw [hy242]; exact H) | exact H
      have Ny242 := Aside0.mk hy242
      clear hy242
      by_cases c12 : y242.length < 8796093022208
      ·rw [if_pos c12] at H
       have LMc12 := Aside0.mk c12
       clear c12
       obtain ⟨y245, hy245⟩ : ∃ y_ : List (S62), y_ = (y242 ++ [(⟨a2, 0⟩ : S62)]) := ⟨_, rfl⟩
       replace H : (impl_readRowA.l0 k1 t238 a1 a2 y245 t239) = some (r1, r2, r3) := by first | (rw [hy245]; with_reducible exact H) | (have H2_ := (Option.bind_some _ _).symm.trans H; rw [hy245]; with_reducible exact H2_) | (have H2_ := (Option.bind_some _ _).symm.trans H; with_reducible exact H2_) | with_reducible exact H | (rw [hy245]; exact H) | exact H
       have Ny245 := Aside0.mk hy245
       clear hy245
       have H' := Aside0.mk H
       clear H
       go_wp2_with (first | ((with_reducible refine gate_callee (f := 101) rfl ?_); refine goesL_ (some 27) rfl rfl Try.func101 (by kernel_rfl) rfl #[.string x0_1, .string a1] rfl pwh_ ?_; (with_reducible refine (strings_CutPrefix.calls x0_1 a1 t235 true _ A8.out).mono ?_); rintro e w' ⟨rfl, ⟨nd, rfl⟩⟩; refine ⟨_, rfl, ?_⟩) | ((with_reducible refine gate_dyn (c := 35) rfl ?_); refine goesD_ (some 37) rfl rfl Try.func90 (by kernel_rfl) rfl #[.string t235] rfl (by first | rfl | (go_simp; done) | (go_simp; rfl)) pwh_ ?_; (with_reducible refine (h4_ k1 (by have := HK1.out; omega) t235 t237 t238 t239 _ A10.out).mono ?_); rintro e w13 ⟨v240, rfl, ho0, hb⟩; refine ⟨_, rfl, ?_⟩; have n0_ := Aside0.mk (Kd.R_elder' pwd_ (Kd.R_base ho0) hb); have n1_ := Aside0.mk (Kd.R_lower (Kd.R_new' ho0 (Kd.R_lt pwd_)) (below_size pwg_)); have n2_ := Aside0.mk (below_step pwg_ hb); clear HO_11; clear HB; have HO_11 := n0_; have HO241 := n1_; have HB := n2_; clear n0_ n1_ n2_; (try clear hb); (try clear hb2); (try clear hk); (try clear hi); (try clear ho0); obtain ⟨Ao15, co15, eo15⟩ := Kd.R_slice HO241.out; subst eo15) | ((with_reducible refine gate_builtin (b := .append) (xs := #[.tmp 41, .tmp 42]) rfl ?_); at_builtin; refine Kd.R_append_rows k62 (w0 := w) w.heap.size rfl (.tmp 41) (.tmp 42) 25 62 (.agg #[(.int .i64 0), (.int .i64 0)]) 16 rfl Try.underlying25 info62 rfl (by decide) (by omega) u11 x11_1 t237 _ _ _ (fun k_ => some k_ ≠ (.slice Ao15 t237.length co15 : Value).ownBlock) (fun _ => False) rfl rfl ?aO ?aR (fun _ _ h => h) (fun _ h => h.elim) ?aF ?aB ?aS ?aL ?_; (case aR => repeat (first | exact (Kd.R_reads' HO241.out).2.2 | (with_reducible refine Kd.C_alloc ?_ _) | (with_reducible refine Kd.C_drewN ?_ _) | (with_reducible refine Kd.C_drew ?_))); (case aB => exact pwg_); (case aF => exact (fun k_ hk => Kd.fresh' (Kd.R_lt (by (with_reducible repeat apply Kd.R_alloc); exact HO241.out)) k_ hk)); (case aO => exact (by (with_reducible repeat apply Kd.R_alloc); exact Kd.R_mono HO_11.out (fun _ hk => hk.2))); (case aS => exact (below_size pwg_)); (case aL => have := LMc11.out; omega); intro v243 w14 ho hb hg hat; rw [← Ny242.out] at ho; have n0_ := Aside0.mk (Kd.R_after (ok := (fun _ => True)) (by (with_reducible repeat apply Kd.R_alloc); exact HO241.out) hg hat); have n1_ := Aside0.mk (hb); have n2_ := Aside0.mk (ho); clear HO241; clear HB; clear HO_11; have HO241 := n0_; have HB := n1_; have HO244 := n2_; clear n0_ n1_ n2_; clear ho hb hg hat) | ((with_reducible refine gate_builtin (b := .append) (xs := #[.tmp 43, .tmp 46]) rfl ?_); at_builtin; refine Kd.R_append k62 (w0 := w) w.heap.size rfl (.tmp 43) (.tmp 46) 25 62 (.agg #[(.int .i64 0), (.int .i64 0)]) 16 rfl Try.underlying25 info62 rfl (by decide) (by omega) v243 y242 (⟨a2, 0⟩ : S62) [.int .i64 a2, .int .i64 0] (fun k_ => some k_ ≠ (.slice Ao15 t237.length co15 : Value).ownBlock) (fun _ => False) rfl rfl ?aP (fun _ hk => hk.elim) ?aF ?aO ?aB ?aS ?aL ?_; (case aP => exact k62_mkM _ _ _ (⟨a2, 0⟩ : S62)); (case aB => exact pwg_); (case aF => exact (fun k_ hk => Kd.fresh' (Kd.R_lt (by (with_reducible repeat apply Kd.R_alloc); exact HO241.out)) k_ hk)); (case aO => exact (by (with_reducible repeat apply Kd.R_alloc); exact HO244.out)); (case aS => exact (below_size pwg_)); (case aL => have := LMc12.out; omega); intro v246 w16 ho hb hg hat; rw [← Ny245.out] at ho; have n0_ := Aside0.mk (Kd.R_after (ok := (fun _ => True)) (by (with_reducible repeat apply Kd.R_alloc); exact HO241.out) hg hat); have n1_ := Aside0.mk (hb); have n2_ := Aside0.mk (ho); clear HO241; clear HB; clear HO244; have HO241 := n0_; have HB := n1_; have HO247 := n2_; clear n0_ n1_ n2_; clear ho hb hg hat))
       go_roundg k1
       case measure => have := HK1.out; omega
       case rel => exact ⟨(t238), (y245), (t239), pwa_, pwa_, H', ⟨by have := HK1.out; omega⟩, ⟨by (with_reducible repeat apply Kd.R_alloc); exact Kd.R_mono HO247.out (fun _ hk => trivial)⟩, ⟨pwg_⟩⟩
      ·rw [if_neg c12] at H
       exact absurd H (by simp)
     ·rw [if_neg c11] at H
      exact absurd H (by simp)
    ·replace c9 := Bool.eq_false_iff.mpr c9
     subst c9
     have H1 : (some (x11_1, x0_1, true)) = some (r1, r2, r3) := by rw [if_neg (show ¬ (false = true) by decide)] at H; exact H
     clear H
     have H := H1
     clear H1
     simp only [Option.some.injEq, Prod.mk.injEq] at H
     obtain ⟨rfl, rfl, rfl⟩ := H
     go_wp2_with (first | ((with_reducible refine gate_callee (f := 101) rfl ?_); refine goesL_ (some 27) rfl rfl Try.func101 (by kernel_rfl) rfl #[.string x0_1, .string a1] rfl pwh_ ?_; (with_reducible refine (strings_CutPrefix.calls x0_1 a1 t235 false _ A8.out).mono ?_); rintro e w' ⟨rfl, ⟨nd, rfl⟩⟩; refine ⟨_, rfl, ?_⟩))
     go_ret3
     exact ⟨_, by first | rfl | (simp [errW_none, errW_some] <;> rfl) | (simp [*, errW_none, errW_some] <;> rfl), pwd_, pwg_⟩
   ·replace c7 := Bool.eq_false_iff.mpr c7
    subst c7
    have H1 : (some (([] : List (S62)), x0_1, false)) = some (r1, r2, r3) := by rw [if_neg (show ¬ (false = true) by decide)] at H; exact H
    clear H
    have H := H1
    clear H1
    simp only [Option.some.injEq, Prod.mk.injEq] at H
    obtain ⟨rfl, rfl, rfl⟩ := H
    go_wp2
    go_ret3
    exact ⟨_, by first | rfl | (simp [errW_none, errW_some] <;> rfl) | (simp [*, errW_none, errW_some] <;> rfl), by first | exact Kd.R_nil _ _ _ _ _ | exact Kd.N_nil _ _ _ _ _ | exact Kd.V_nil _ _ _ _ _ | exact Kd.Q_nil _ _ _ _ _ | exact Kd.S_nil _ _ _ _ _, pwg_⟩
set_option maxHeartbeats 8000000 in
set_option maxRecDepth 100000 in
theorem impl_readSame.step (k : Nat) (h0_ : ∀ m_, m_ < k → ∀ (a0 : ByteArray) (r1 : List (S62)) (r2 : ByteArray) (r3 : Bool) (w : World) (h : impl_readPart.f m_ a0 = some (r1, r2, r3)),
  Calls Try.prog 107 #[.string a0] w fun e w' => ∃ v0_ : Value, e = .returned (.tuple #[v0_, .string r2, .bool r3]) ∧ Kd.R k62 62 w' w.heap.size (fun _ => True) v0_ r1 ∧ Below w.heap.size w w') (h1_ : ∀ m_, m_ < k → ∀ (a0 : ByteArray) (a1 : ByteArray) (a2 : Int) (a3 : Int) (r1 : List (S62)) (r2 : ByteArray) (r3 : Bool) (w : World) (h : impl_readRowC.f m_ a0 a1 a2 a3 = some (r1, r2, r3)),
  Calls Try.prog 89 #[.string a0, .string a1, .int .i64 a2, .func (.func 107) #[] #[]] w fun e w' => ∃ v0_ : Value, e = .returned (.tuple #[v0_, .string r2, .bool r3]) ∧ Kd.R k62 62 w' w.heap.size (fun _ => True) v0_ r1 ∧ Below w.heap.size w w') (h2_ : ∀ m_, m_ < k → ∀ (a0 : ByteArray) (r1 : List (S62)) (r2 : ByteArray) (r3 : Bool) (w : World) (h : impl_readAnd.f m_ a0 = some (r1, r2, r3)),
  Calls Try.prog 102 #[.string a0] w fun e w' => ∃ v0_ : Value, e = .returned (.tuple #[v0_, .string r2, .bool r3]) ∧ Kd.R k62 62 w' w.heap.size (fun _ => True) v0_ r1 ∧ Below w.heap.size w w') (h3_ : ∀ m_, m_ < k → ∀ (a0 : ByteArray) (a1 : ByteArray) (a2 : Int) (a3 : Int) (r1 : List (S62)) (r2 : ByteArray) (r3 : Bool) (w : World) (h : impl_readRowB.f m_ a0 a1 a2 a3 = some (r1, r2, r3)),
  Calls Try.prog 89 #[.string a0, .string a1, .int .i64 a2, .func (.func 102) #[] #[]] w fun e w' => ∃ v0_ : Value, e = .returned (.tuple #[v0_, .string r2, .bool r3]) ∧ Kd.R k62 62 w' w.heap.size (fun _ => True) v0_ r1 ∧ Below w.heap.size w w') (h4_ : ∀ m_, m_ < k → ∀ (a0 : ByteArray) (r1 : List (S62)) (r2 : ByteArray) (r3 : Bool) (w : World) (h : impl_readOr.f m_ a0 = some (r1, r2, r3)),
  Calls Try.prog 90 #[.string a0] w fun e w' => ∃ v0_ : Value, e = .returned (.tuple #[v0_, .string r2, .bool r3]) ∧ Kd.R k62 62 w' w.heap.size (fun _ => True) v0_ r1 ∧ Below w.heap.size w w') (h5_ : ∀ m_, m_ < k → ∀ (a0 : ByteArray) (a1 : ByteArray) (a2 : Int) (a3 : Int) (r1 : List (S62)) (r2 : ByteArray) (r3 : Bool) (w : World) (h : impl_readRowA.f m_ a0 a1 a2 a3 = some (r1, r2, r3)),
  Calls Try.prog 89 #[.string a0, .string a1, .int .i64 a2, .func (.func 90) #[] #[]] w fun e w' => ∃ v0_ : Value, e = .returned (.tuple #[v0_, .string r2, .bool r3]) ∧ Kd.R k62 62 w' w.heap.size (fun _ => True) v0_ r1 ∧ Below w.heap.size w w') (h6_ : ∀ m_, m_ < k → ∀ (a0 : ByteArray) (r1 : List (S62)) (r2 : ByteArray) (r3 : Bool) (w : World) (h : impl_readSame.f m_ a0 = some (r1, r2, r3)),
  Calls Try.prog 63 #[.string a0] w fun e w' => ∃ v0_ : Value, e = .returned (.tuple #[v0_, .string r2, .bool r3]) ∧ Kd.R k62 62 w' w.heap.size (fun _ => True) v0_ r1 ∧ Below w.heap.size w w') : ∀ (a0 : ByteArray) (r1 : List (S62)) (r2 : ByteArray) (r3 : Bool) (w : World) (h : impl_readSame.f k a0 = some (r1, r2, r3)),
  Calls Try.prog 63 #[.string a0] w fun e w' => ∃ v0_ : Value, e = .returned (.tuple #[v0_, .string r2, .bool r3]) ∧ Kd.R k62 62 w' w.heap.size (fun _ => True) v0_ r1 ∧ Below w.heap.size w w' := by
 have ih := h6_
 intro a0 r1 r2 r3 w h
 cases k with
 | zero => exact absurd h (by simp [impl_readSame.f])
 | succ k =>
 simp only [impl_readSame.f] at h
 have HB := Aside0.mk (Below.refl w.heap.size w)
 have H : ((impl_readRowA.f k a0 (⟨#[61]⟩ : ByteArray) 5 777090).bind fun bt248 => (some (bt248.1, bt248.2.1, bt248.2.2))) = some (r1, r2, r3) := h
 clear h
 replace H := Option.bind_eq_some_iff.mp H
 obtain ⟨⟨t248, t249, t250⟩, A20, H⟩ := H
 replace H : (some (t248, t249, t250)) = some (r1, r2, r3) := H
 have A2 := Aside0.mk A20
 clear A20
 simp only [Option.some.injEq, Prod.mk.injEq] at H
 obtain ⟨rfl, rfl, rfl⟩ := H
 go_enter Try.func63, Try.ntmps63
 go_wp2_with (first | ((with_reducible refine gate_callee (f := 89) rfl ?_); refine goesL_ (some 6) rfl rfl Try.func89 (by kernel_rfl) rfl #[.string a0, .string (⟨#[61]⟩ : ByteArray), .int .i64 5, .func (.func 090) #[] #[]] rfl pwh_ ?_; (with_reducible refine (h5_ k (by omega) a0 (⟨#[61]⟩ : ByteArray) 5 777090 t248 t249 t250 _ A2.out).mono ?_); rintro e w3 ⟨v251, rfl, ho0, hb⟩; refine ⟨_, rfl, ?_⟩; have n0_ := Aside0.mk (Kd.R_lower ho0 (below_size pwg_)); have n1_ := Aside0.mk (below_step pwg_ hb); clear HB; have HO252 := n0_; have HB := n1_; clear n0_ n1_; (try clear hb); (try clear hb2); (try clear hk); (try clear hi); (try clear ho0)))
 go_ret3
 exact ⟨_, by first | rfl | (simp [errW_none, errW_some] <;> rfl) | (simp [*, errW_none, errW_some] <;> rfl), by (with_reducible repeat apply Kd.R_alloc); exact HO252.out, pwg_⟩
theorem readSame_readPart_c.both (k : Nat) : (∀ (a0 : ByteArray) (r1 : List (S62)) (r2 : ByteArray) (r3 : Bool) (w : World) (h : impl_readPart.f k a0 = some (r1, r2, r3)),
  Calls Try.prog 107 #[.string a0] w fun e w' => ∃ v0_ : Value, e = .returned (.tuple #[v0_, .string r2, .bool r3]) ∧ Kd.R k62 62 w' w.heap.size (fun _ => True) v0_ r1 ∧ Below w.heap.size w w') ∧ (∀ (a0 : ByteArray) (a1 : ByteArray) (a2 : Int) (a3 : Int) (r1 : List (S62)) (r2 : ByteArray) (r3 : Bool) (w : World) (h : impl_readRowC.f k a0 a1 a2 a3 = some (r1, r2, r3)),
  Calls Try.prog 89 #[.string a0, .string a1, .int .i64 a2, .func (.func 107) #[] #[]] w fun e w' => ∃ v0_ : Value, e = .returned (.tuple #[v0_, .string r2, .bool r3]) ∧ Kd.R k62 62 w' w.heap.size (fun _ => True) v0_ r1 ∧ Below w.heap.size w w') ∧ (∀ (a0 : ByteArray) (r1 : List (S62)) (r2 : ByteArray) (r3 : Bool) (w : World) (h : impl_readAnd.f k a0 = some (r1, r2, r3)),
  Calls Try.prog 102 #[.string a0] w fun e w' => ∃ v0_ : Value, e = .returned (.tuple #[v0_, .string r2, .bool r3]) ∧ Kd.R k62 62 w' w.heap.size (fun _ => True) v0_ r1 ∧ Below w.heap.size w w') ∧ (∀ (a0 : ByteArray) (a1 : ByteArray) (a2 : Int) (a3 : Int) (r1 : List (S62)) (r2 : ByteArray) (r3 : Bool) (w : World) (h : impl_readRowB.f k a0 a1 a2 a3 = some (r1, r2, r3)),
  Calls Try.prog 89 #[.string a0, .string a1, .int .i64 a2, .func (.func 102) #[] #[]] w fun e w' => ∃ v0_ : Value, e = .returned (.tuple #[v0_, .string r2, .bool r3]) ∧ Kd.R k62 62 w' w.heap.size (fun _ => True) v0_ r1 ∧ Below w.heap.size w w') ∧ (∀ (a0 : ByteArray) (r1 : List (S62)) (r2 : ByteArray) (r3 : Bool) (w : World) (h : impl_readOr.f k a0 = some (r1, r2, r3)),
  Calls Try.prog 90 #[.string a0] w fun e w' => ∃ v0_ : Value, e = .returned (.tuple #[v0_, .string r2, .bool r3]) ∧ Kd.R k62 62 w' w.heap.size (fun _ => True) v0_ r1 ∧ Below w.heap.size w w') ∧ (∀ (a0 : ByteArray) (a1 : ByteArray) (a2 : Int) (a3 : Int) (r1 : List (S62)) (r2 : ByteArray) (r3 : Bool) (w : World) (h : impl_readRowA.f k a0 a1 a2 a3 = some (r1, r2, r3)),
  Calls Try.prog 89 #[.string a0, .string a1, .int .i64 a2, .func (.func 90) #[] #[]] w fun e w' => ∃ v0_ : Value, e = .returned (.tuple #[v0_, .string r2, .bool r3]) ∧ Kd.R k62 62 w' w.heap.size (fun _ => True) v0_ r1 ∧ Below w.heap.size w w') ∧ (∀ (a0 : ByteArray) (r1 : List (S62)) (r2 : ByteArray) (r3 : Bool) (w : World) (h : impl_readSame.f k a0 = some (r1, r2, r3)),
  Calls Try.prog 63 #[.string a0] w fun e w' => ∃ v0_ : Value, e = .returned (.tuple #[v0_, .string r2, .bool r3]) ∧ Kd.R k62 62 w' w.heap.size (fun _ => True) v0_ r1 ∧ Below w.heap.size w w') := by
 induction k using Nat.strongRecOn with
 | _ k ih =>
  exact ⟨impl_readPart.step k (fun m h => (ih m h).1) (fun m h => (ih m h).2.1) (fun m h => (ih m h).2.2.1) (fun m h => (ih m h).2.2.2.1) (fun m h => (ih m h).2.2.2.2.1) (fun m h => (ih m h).2.2.2.2.2.1) (fun m h => (ih m h).2.2.2.2.2.2), impl_readRowC.step k (fun m h => (ih m h).1) (fun m h => (ih m h).2.1) (fun m h => (ih m h).2.2.1) (fun m h => (ih m h).2.2.2.1) (fun m h => (ih m h).2.2.2.2.1) (fun m h => (ih m h).2.2.2.2.2.1) (fun m h => (ih m h).2.2.2.2.2.2), impl_readAnd.step k (fun m h => (ih m h).1) (fun m h => (ih m h).2.1) (fun m h => (ih m h).2.2.1) (fun m h => (ih m h).2.2.2.1) (fun m h => (ih m h).2.2.2.2.1) (fun m h => (ih m h).2.2.2.2.2.1) (fun m h => (ih m h).2.2.2.2.2.2), impl_readRowB.step k (fun m h => (ih m h).1) (fun m h => (ih m h).2.1) (fun m h => (ih m h).2.2.1) (fun m h => (ih m h).2.2.2.1) (fun m h => (ih m h).2.2.2.2.1) (fun m h => (ih m h).2.2.2.2.2.1) (fun m h => (ih m h).2.2.2.2.2.2), impl_readOr.step k (fun m h => (ih m h).1) (fun m h => (ih m h).2.1) (fun m h => (ih m h).2.2.1) (fun m h => (ih m h).2.2.2.1) (fun m h => (ih m h).2.2.2.2.1) (fun m h => (ih m h).2.2.2.2.2.1) (fun m h => (ih m h).2.2.2.2.2.2), impl_readRowA.step k (fun m h => (ih m h).1) (fun m h => (ih m h).2.1) (fun m h => (ih m h).2.2.1) (fun m h => (ih m h).2.2.2.1) (fun m h => (ih m h).2.2.2.2.1) (fun m h => (ih m h).2.2.2.2.2.1) (fun m h => (ih m h).2.2.2.2.2.2), impl_readSame.step k (fun m h => (ih m h).1) (fun m h => (ih m h).2.1) (fun m h => (ih m h).2.2.1) (fun m h => (ih m h).2.2.2.1) (fun m h => (ih m h).2.2.2.2.1) (fun m h => (ih m h).2.2.2.2.2.1) (fun m h => (ih m h).2.2.2.2.2.2)⟩
theorem impl_readPart.calls (k : Nat) : ∀ (a0 : ByteArray) (r1 : List (S62)) (r2 : ByteArray) (r3 : Bool) (w : World) (h : impl_readPart.f k a0 = some (r1, r2, r3)),
  Calls Try.prog 107 #[.string a0] w fun e w' => ∃ v0_ : Value, e = .returned (.tuple #[v0_, .string r2, .bool r3]) ∧ Kd.R k62 62 w' w.heap.size (fun _ => True) v0_ r1 ∧ Below w.heap.size w w' := (readSame_readPart_c.both k).1
theorem impl_readRowC.calls (k : Nat) : ∀ (a0 : ByteArray) (a1 : ByteArray) (a2 : Int) (a3 : Int) (r1 : List (S62)) (r2 : ByteArray) (r3 : Bool) (w : World) (h : impl_readRowC.f k a0 a1 a2 a3 = some (r1, r2, r3)),
  Calls Try.prog 89 #[.string a0, .string a1, .int .i64 a2, .func (.func 107) #[] #[]] w fun e w' => ∃ v0_ : Value, e = .returned (.tuple #[v0_, .string r2, .bool r3]) ∧ Kd.R k62 62 w' w.heap.size (fun _ => True) v0_ r1 ∧ Below w.heap.size w w' := (readSame_readPart_c.both k).2.1
theorem impl_readAnd.calls (k : Nat) : ∀ (a0 : ByteArray) (r1 : List (S62)) (r2 : ByteArray) (r3 : Bool) (w : World) (h : impl_readAnd.f k a0 = some (r1, r2, r3)),
  Calls Try.prog 102 #[.string a0] w fun e w' => ∃ v0_ : Value, e = .returned (.tuple #[v0_, .string r2, .bool r3]) ∧ Kd.R k62 62 w' w.heap.size (fun _ => True) v0_ r1 ∧ Below w.heap.size w w' := (readSame_readPart_c.both k).2.2.1
theorem impl_readRowB.calls (k : Nat) : ∀ (a0 : ByteArray) (a1 : ByteArray) (a2 : Int) (a3 : Int) (r1 : List (S62)) (r2 : ByteArray) (r3 : Bool) (w : World) (h : impl_readRowB.f k a0 a1 a2 a3 = some (r1, r2, r3)),
  Calls Try.prog 89 #[.string a0, .string a1, .int .i64 a2, .func (.func 102) #[] #[]] w fun e w' => ∃ v0_ : Value, e = .returned (.tuple #[v0_, .string r2, .bool r3]) ∧ Kd.R k62 62 w' w.heap.size (fun _ => True) v0_ r1 ∧ Below w.heap.size w w' := (readSame_readPart_c.both k).2.2.2.1
theorem impl_readOr.calls (k : Nat) : ∀ (a0 : ByteArray) (r1 : List (S62)) (r2 : ByteArray) (r3 : Bool) (w : World) (h : impl_readOr.f k a0 = some (r1, r2, r3)),
  Calls Try.prog 90 #[.string a0] w fun e w' => ∃ v0_ : Value, e = .returned (.tuple #[v0_, .string r2, .bool r3]) ∧ Kd.R k62 62 w' w.heap.size (fun _ => True) v0_ r1 ∧ Below w.heap.size w w' := (readSame_readPart_c.both k).2.2.2.2.1
theorem impl_readRowA.calls (k : Nat) : ∀ (a0 : ByteArray) (a1 : ByteArray) (a2 : Int) (a3 : Int) (r1 : List (S62)) (r2 : ByteArray) (r3 : Bool) (w : World) (h : impl_readRowA.f k a0 a1 a2 a3 = some (r1, r2, r3)),
  Calls Try.prog 89 #[.string a0, .string a1, .int .i64 a2, .func (.func 90) #[] #[]] w fun e w' => ∃ v0_ : Value, e = .returned (.tuple #[v0_, .string r2, .bool r3]) ∧ Kd.R k62 62 w' w.heap.size (fun _ => True) v0_ r1 ∧ Below w.heap.size w w' := (readSame_readPart_c.both k).2.2.2.2.2.1
theorem impl_readSame.calls (k : Nat) : ∀ (a0 : ByteArray) (r1 : List (S62)) (r2 : ByteArray) (r3 : Bool) (w : World) (h : impl_readSame.f k a0 = some (r1, r2, r3)),
  Calls Try.prog 63 #[.string a0] w fun e w' => ∃ v0_ : Value, e = .returned (.tuple #[v0_, .string r2, .bool r3]) ∧ Kd.R k62 62 w' w.heap.size (fun _ => True) v0_ r1 ∧ Below w.heap.size w w' := (readSame_readPart_c.both k).2.2.2.2.2.2

/-! ### impl_ReadTerm: function 16 -/
def impl_ReadTerm.j0 : Nat → Int → ByteArray → Bool → Option ((List (S62)) × Bool)
 | 0, _, _, _ => none
 | k + 1, x0, x1, x16 => if x16 = true then (some (([] : List (S62)), false)) else ((impl_readSame.f k x1).bind fun bt254 => (if bt254.2.2 = true then (if bt254.2.1.toList = ([] : List UInt8) then ((impl_TermText.f k x0 bt254.1).bind fun t259 => (if t259.toList = x1.toList then (some (bt254.1, true)) else (some (([] : List (S62)), false)))) else (some (([] : List (S62)), false))) else (some (([] : List (S62)), false))))
def impl_ReadTerm.f (k : Nat) (a0 : Int) (a1 : ByteArray) : Option ((List (S62)) × Bool) := (impl_peopleOk.f a0).bind fun t253 => (if t253 = true then (impl_ReadTerm.j0 k a0 a1 (decide ((a1.size : Int) > 60))) else (impl_ReadTerm.j0 k a0 a1 true))
theorem impl_ReadTerm.mono_l : ∀ k, (∀ y0 y1 y2, LeO (impl_ReadTerm.j0 k y0 y1 y2) (impl_ReadTerm.j0 (k + 1) y0 y1 y2))
 | 0 => fun _ _ _ r h => by simp [impl_ReadTerm.j0] at h
 | k + 1 => by
  have ih0 := impl_ReadTerm.mono_l k
  ·intro y0 y1 y2
   unfold impl_ReadTerm.j0
   repeat' first
   | (with_reducible exact ih0 _ _ _)
   | (with_reducible exact impl_TermText.mono _ _ _)
   | (with_reducible exact impl_readSame.mono _ _)
   | (with_reducible exact LeO.refl _)
   | (with_reducible exact LeO.none _)
   | (with_reducible refine LeO.ite ?_ ?_)
   | (with_reducible refine LeO.bind ?_ (fun _ => ?_))
   | exact ih0 _ _ _
   | exact impl_TermText.mono _ _ _
   | exact impl_readSame.mono _ _
   | exact LeO.none _
   | refine LeO.ite ?_ ?_
   | refine LeO.bind ?_ (fun _ => ?_)
theorem impl_ReadTerm.mono : ∀ a0 a1 k, LeO (impl_ReadTerm.f k a0 a1) (impl_ReadTerm.f (k + 1) a0 a1) := by
 intro a0 a1 k
 have ih0 := impl_ReadTerm.mono_l k
 unfold impl_ReadTerm.f
 repeat' first
   | (with_reducible exact ih0 _ _ _)
   | (with_reducible exact impl_TermText.mono _ _ _)
   | (with_reducible exact impl_readSame.mono _ _)
   | (with_reducible exact LeO.refl _)
   | (with_reducible exact LeO.none _)
   | (with_reducible refine LeO.ite ?_ ?_)
   | (with_reducible refine LeO.bind ?_ (fun _ => ?_))
   | exact ih0 _ _ _
   | exact impl_TermText.mono _ _ _
   | exact impl_readSame.mono _ _
   | exact LeO.none _
   | refine LeO.ite ?_ ?_
   | refine LeO.bind ?_ (fun _ => ?_)
set_option maxHeartbeats 8000000 in
set_option maxRecDepth 100000 in
theorem impl_ReadTerm.calls (k : Nat) (a0 : Int) (a1 : ByteArray) (r1 : List (S62)) (r2 : Bool) (w : World) (h : impl_ReadTerm.f k a0 a1 = some (r1, r2)) :
  Calls Try.prog 16 #[.int .i64 a0, .string a1] w fun e w' => ∃ v0_ : Value, e = .returned (.tuple #[v0_, .bool r2]) ∧ Kd.R k62 62 w' w.heap.size (fun _ => True) v0_ r1 ∧ Below w.heap.size w w' := by
 have HB := Aside0.mk (Below.refl w.heap.size w)
 have H : ((impl_peopleOk.f a0).bind fun t253 => (if t253 = true then (impl_ReadTerm.j0 k a0 a1 (decide ((a1.size : Int) > 60))) else (impl_ReadTerm.j0 k a0 a1 true))) = some (r1, r2) := h
 clear h
 have HC3 := Aside0.mk H
 clear H
 go_enter Try.func16, Try.ntmps16
 go_upto_region 1 with (fail)
 go_cut [16] (fun v16 wc => ∃ (kq : Nat) (x16_2 : Bool), v16 = .bool x16_2 ∧ Aside0 (impl_ReadTerm.j0 kq a0 a1 x16_2 = some (r1, r2)) ∧ Aside0 (kq ≤ k) ∧ Aside0 (Below w.heap.size w wc))
 case first =>
  have H := HC3.out
  clear HC3
  replace H := Option.bind_eq_some_iff.mp H
  obtain ⟨t253, A40, H⟩ := H
  replace H : (if t253 = true then (impl_ReadTerm.j0 k a0 a1 (decide ((a1.size : Int) > 60))) else (impl_ReadTerm.j0 k a0 a1 true)) = some (r1, r2) := H
  have A4 := Aside0.mk A40
  clear A40
  by_cases c5 : t253 = true
  ·subst c5
   have H1 : (impl_ReadTerm.j0 k a0 a1 (decide ((a1.size : Int) > 60))) = some (r1, r2) := by rw [if_pos rfl] at H; exact H
   clear H
   have H := H1
   clear H1
   have H' := Aside0.mk H
   clear H
   go_wp2_with (first | ((with_reducible refine gate_callee (f := 62) rfl ?_); refine goesL_ (some 10) rfl rfl Try.func62 (by kernel_rfl) rfl #[.int .i64 a0] rfl pwh_ ?_; (with_reducible refine (impl_peopleOk.calls a0 true _ A4.out).mono ?_); rintro e w' ⟨rfl, ⟨nd, rfl⟩⟩; refine ⟨_, rfl, ?_⟩))
   go_meet
   case rel => exact ⟨_, (decide ((a1.size : Int) > 60)), pwa_, H', ⟨by first | omega | exact Nat.le_refl _⟩, ⟨pwg_⟩⟩
  ·replace c5 := Bool.eq_false_iff.mpr c5
   subst c5
   have H1 : (impl_ReadTerm.j0 k a0 a1 true) = some (r1, r2) := by rw [if_neg (show ¬ (false = true) by decide)] at H; exact H
   clear H
   have H := H1
   clear H1
   have H' := Aside0.mk H
   clear H
   go_wp2_with (first | ((with_reducible refine gate_callee (f := 62) rfl ?_); refine goesL_ (some 10) rfl rfl Try.func62 (by kernel_rfl) rfl #[.int .i64 a0] rfl pwh_ ?_; (with_reducible refine (impl_peopleOk.calls a0 false _ A4.out).mono ?_); rintro e w' ⟨rfl, ⟨nd, rfl⟩⟩; refine ⟨_, rfl, ?_⟩))
   go_meet
   case rel => exact ⟨_, (true), pwa_, H', ⟨by first | omega | exact Nat.le_refl _⟩, ⟨pwg_⟩⟩
 case rest =>
  clear HC3
  try clear c1
  try clear p2
  try clear c5
  obtain ⟨kq, x16_2, rfl, HA, HJ2, HB⟩ := hcut
  cases kq with
  | zero => exact absurd HA.out (by simp [impl_ReadTerm.j0])
  | succ kj2 =>
   have H := HA.out
   clear HA
   simp only [impl_ReadTerm.j0] at H
   by_cases c6 : x16_2 = true
   ·subst c6
    have H1 : (some (([] : List (S62)), false)) = some (r1, r2) := by rw [if_pos rfl] at H; exact H
    clear H
    have H := H1
    clear H1
    simp only [Option.some.injEq, Prod.mk.injEq] at H
    obtain ⟨rfl, rfl⟩ := H
    go_wp2
    go_ret2
    exact ⟨_, by first | rfl | (simp [errW_none, errW_some] <;> rfl) | (simp [*, errW_none, errW_some] <;> rfl), by first | exact Kd.R_nil _ _ _ _ _ | exact Kd.N_nil _ _ _ _ _ | exact Kd.V_nil _ _ _ _ _ | exact Kd.Q_nil _ _ _ _ _ | exact Kd.S_nil _ _ _ _ _, pwg_⟩
   ·replace c6 := Bool.eq_false_iff.mpr c6
    subst c6
    have H1 : ((impl_readSame.f kj2 a1).bind fun bt254 => (if bt254.2.2 = true then (if bt254.2.1.toList = ([] : List UInt8) then ((impl_TermText.f kj2 a0 bt254.1).bind fun t259 => (if t259.toList = a1.toList then (some (bt254.1, true)) else (some (([] : List (S62)), false)))) else (some (([] : List (S62)), false))) else (some (([] : List (S62)), false)))) = some (r1, r2) := by rw [if_neg (show ¬ (false = true) by decide)] at H; exact H
    clear H
    have H := H1
    clear H1
    replace H := Option.bind_eq_some_iff.mp H
    obtain ⟨⟨t254, t255, t256⟩, A70, H⟩ := H
    replace H : (if t256 = true then (if t255.toList = ([] : List UInt8) then ((impl_TermText.f kj2 a0 t254).bind fun t259 => (if t259.toList = a1.toList then (some (t254, true)) else (some (([] : List (S62)), false)))) else (some (([] : List (S62)), false))) else (some (([] : List (S62)), false))) = some (r1, r2) := H
    have A7 := Aside0.mk A70
    clear A70
    by_cases c8 : t256 = true
    ·subst c8
     have H1 : (if t255.toList = ([] : List UInt8) then ((impl_TermText.f kj2 a0 t254).bind fun t259 => (if t259.toList = a1.toList then (some (t254, true)) else (some (([] : List (S62)), false)))) else (some (([] : List (S62)), false))) = some (r1, r2) := by rw [if_pos rfl] at H; exact H
     clear H
     have H := H1
     clear H1
     by_cases c9 : t255.toList = ([] : List UInt8)
     ·rw [if_pos c9] at H
      have c9b0 : (t255.toList == ([] : List UInt8)) = true := beq_iff_eq.mpr c9
      have c9b1 : (t255.toList != ([] : List UInt8)) = false := bne_eq_false_iff_eq.mpr c9
      clear c9
      replace H := Option.bind_eq_some_iff.mp H
      obtain ⟨t259, A100, H⟩ := H
      replace H : (if t259.toList = a1.toList then (some (t254, true)) else (some (([] : List (S62)), false))) = some (r1, r2) := H
      have A10 := Aside0.mk A100
      clear A100
      by_cases c11 : t259.toList = a1.toList
      ·rw [if_pos c11] at H
       have c11b0 : (t259.toList == a1.toList) = true := beq_iff_eq.mpr c11
       have c11b1 : (t259.toList != a1.toList) = false := bne_eq_false_iff_eq.mpr c11
       clear c11
       simp only [Option.some.injEq, Prod.mk.injEq] at H
       obtain ⟨rfl, rfl⟩ := H
       go_wp2_with (first | ((with_reducible refine gate_callee (f := 63) rfl ?_); refine goesL_ (some 19) rfl rfl Try.func63 (by kernel_rfl) rfl #[.string a1] rfl pwh_ ?_; (with_reducible refine (impl_readSame.calls kj2 a1 t254 t255 true _ A7.out).mono ?_); rintro e w12 ⟨v257, rfl, ho0, hb⟩; refine ⟨_, rfl, ?_⟩; have n0_ := Aside0.mk (Kd.R_lower ho0 (below_size pwg_)); have n1_ := Aside0.mk (below_step pwg_ hb); clear HB; have HO258 := n0_; have HB := n1_; clear n0_ n1_; (try clear hb); (try clear hb2); (try clear hk); (try clear hi); (try clear ho0); obtain ⟨Ao13, co13, eo13⟩ := Kd.R_slice HO258.out; subst eo13) | (go_at_call 20; (with_reducible refine (impl_TermText.calls kj2 a0 _ _ t254 t259 _ ?side1 ?side2 A10.out).mono ?_); (case side1 => repeat (first | exact (Kd.R_reads' HO258.out).2.2 | (with_reducible refine Kd.C_alloc ?_ _) | (with_reducible refine Kd.C_drewN ?_ _) | (with_reducible refine Kd.C_drew ?_))); (case side2 => exact (Kd.R_reads' HO258.out).2.1); rintro e w14 ⟨rfl, hb⟩; have n0_ := Aside0.mk (Kd.R_below (by (with_reducible repeat apply Kd.R_alloc); exact HO258.out) hb); have n1_ := Aside0.mk (below_step pwg_ hb); clear HO258; clear HB; have HO258 := n0_; have HB := n1_; clear n0_ n1_; (try clear hb); (try clear hb2); (try clear hk); (try clear hi)))
       go_ret2
       exact ⟨_, by first | rfl | (simp [errW_none, errW_some] <;> rfl) | (simp [*, errW_none, errW_some] <;> rfl), by (with_reducible repeat apply Kd.R_alloc); exact HO258.out, pwg_⟩
      ·rw [if_neg c11] at H
       have c11b0 : (t259.toList == a1.toList) = false := beq_eq_false_iff_ne.mpr c11
       have c11b1 : (t259.toList != a1.toList) = true := bne_iff_ne.mpr c11
       simp only [Option.some.injEq, Prod.mk.injEq] at H
       obtain ⟨rfl, rfl⟩ := H
       go_wp2_with (first | ((with_reducible refine gate_callee (f := 63) rfl ?_); refine goesL_ (some 19) rfl rfl Try.func63 (by kernel_rfl) rfl #[.string a1] rfl pwh_ ?_; (with_reducible refine (impl_readSame.calls kj2 a1 t254 t255 true _ A7.out).mono ?_); rintro e w15 ⟨v257, rfl, ho0, hb⟩; refine ⟨_, rfl, ?_⟩; have n0_ := Aside0.mk (Kd.R_lower ho0 (below_size pwg_)); have n1_ := Aside0.mk (below_step pwg_ hb); clear HB; have HO258 := n0_; have HB := n1_; clear n0_ n1_; (try clear hb); (try clear hb2); (try clear hk); (try clear hi); (try clear ho0); obtain ⟨Ao16, co16, eo16⟩ := Kd.R_slice HO258.out; subst eo16) | (go_at_call 20; (with_reducible refine (impl_TermText.calls kj2 a0 _ _ t254 t259 _ ?side1 ?side2 A10.out).mono ?_); (case side1 => repeat (first | exact (Kd.R_reads' HO258.out).2.2 | (with_reducible refine Kd.C_alloc ?_ _) | (with_reducible refine Kd.C_drewN ?_ _) | (with_reducible refine Kd.C_drew ?_))); (case side2 => exact (Kd.R_reads' HO258.out).2.1); rintro e w17 ⟨rfl, hb⟩; have n0_ := Aside0.mk (Kd.R_below (by (with_reducible repeat apply Kd.R_alloc); exact HO258.out) hb); have n1_ := Aside0.mk (below_step pwg_ hb); clear HO258; clear HB; have HO258 := n0_; have HB := n1_; clear n0_ n1_; (try clear hb); (try clear hb2); (try clear hk); (try clear hi)))
       go_ret2
       exact ⟨_, by first | rfl | (simp [errW_none, errW_some] <;> rfl) | (simp [*, errW_none, errW_some] <;> rfl), by first | exact Kd.R_nil _ _ _ _ _ | exact Kd.N_nil _ _ _ _ _ | exact Kd.V_nil _ _ _ _ _ | exact Kd.Q_nil _ _ _ _ _ | exact Kd.S_nil _ _ _ _ _, pwg_⟩
     ·rw [if_neg c9] at H
      have c9b0 : (t255.toList == ([] : List UInt8)) = false := beq_eq_false_iff_ne.mpr c9
      have c9b1 : (t255.toList != ([] : List UInt8)) = true := bne_iff_ne.mpr c9
      simp only [Option.some.injEq, Prod.mk.injEq] at H
      obtain ⟨rfl, rfl⟩ := H
      go_wp2_with (first | ((with_reducible refine gate_callee (f := 63) rfl ?_); refine goesL_ (some 19) rfl rfl Try.func63 (by kernel_rfl) rfl #[.string a1] rfl pwh_ ?_; (with_reducible refine (impl_readSame.calls kj2 a1 t254 t255 true _ A7.out).mono ?_); rintro e w18 ⟨v257, rfl, ho0, hb⟩; refine ⟨_, rfl, ?_⟩; have n0_ := Aside0.mk (Kd.R_lower ho0 (below_size pwg_)); have n1_ := Aside0.mk (below_step pwg_ hb); clear HB; have HO258 := n0_; have HB := n1_; clear n0_ n1_; (try clear hb); (try clear hb2); (try clear hk); (try clear hi); (try clear ho0)))
      go_ret2
      exact ⟨_, by first | rfl | (simp [errW_none, errW_some] <;> rfl) | (simp [*, errW_none, errW_some] <;> rfl), by first | exact Kd.R_nil _ _ _ _ _ | exact Kd.N_nil _ _ _ _ _ | exact Kd.V_nil _ _ _ _ _ | exact Kd.Q_nil _ _ _ _ _ | exact Kd.S_nil _ _ _ _ _, pwg_⟩
    ·replace c8 := Bool.eq_false_iff.mpr c8
     subst c8
     have H1 : (some (([] : List (S62)), false)) = some (r1, r2) := by rw [if_neg (show ¬ (false = true) by decide)] at H; exact H
     clear H
     have H := H1
     clear H1
     simp only [Option.some.injEq, Prod.mk.injEq] at H
     obtain ⟨rfl, rfl⟩ := H
     go_wp2_with (first | ((with_reducible refine gate_callee (f := 63) rfl ?_); refine goesL_ (some 19) rfl rfl Try.func63 (by kernel_rfl) rfl #[.string a1] rfl pwh_ ?_; (with_reducible refine (impl_readSame.calls kj2 a1 t254 t255 false _ A7.out).mono ?_); rintro e w19 ⟨v257, rfl, ho0, hb⟩; refine ⟨_, rfl, ?_⟩; have n0_ := Aside0.mk (Kd.R_lower ho0 (below_size pwg_)); have n1_ := Aside0.mk (below_step pwg_ hb); clear HB; have HO258 := n0_; have HB := n1_; clear n0_ n1_; (try clear hb); (try clear hb2); (try clear hk); (try clear hi); (try clear ho0)))
     go_ret2
     exact ⟨_, by first | rfl | (simp [errW_none, errW_some] <;> rfl) | (simp [*, errW_none, errW_some] <;> rfl), by first | exact Kd.R_nil _ _ _ _ _ | exact Kd.N_nil _ _ _ _ _ | exact Kd.V_nil _ _ _ _ _ | exact Kd.Q_nil _ _ _ _ _ | exact Kd.S_nil _ _ _ _ _, pwg_⟩

end Go.Proofs.Ytfhmafmfaoknlaa.PFnExactReadTerm
