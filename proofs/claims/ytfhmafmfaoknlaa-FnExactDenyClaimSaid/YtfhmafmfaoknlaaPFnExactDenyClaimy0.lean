-- Made by a program of this session (wip/tools/patchprint.py), not by the kit itself.
import Derived.Test.YtfhmafmfaoknlaaPFnExactDenyClaimx0
import Derived.Test.YtfhmafmfaoknlaaPFnExactDenyClaimx4
namespace Go.Proofs.Ytfhmafmfaoknlaa.PFnExactDenyClaim
open Go.RowKit Go.Proofs.YtfhmafmfaoknlaaW.PrintWords Go.Proofs.YtfhmafmfaoknlaaW.PrintLast Go.Proofs.YtfhmafmfaoknlaaW.PrintMore
attribute [local go_sem] max2_int min2_int max_two min_two max_three min_three max_four min_four   -- for this text's walks alone
set_option linter.unusedVariables false
set_option linter.unusedSimpArgs false

attribute [local go_sem] setCell_isSome
/-! ### spec_DenyClaim: function 47 -/
def spec_DenyClaim.f (k : Nat) (a0 : Int) (a1_0 : Int) (l1_1 : List (S62)) : Option (Int × (List (S62)) × Bool) := (some (([] : List (S62)) : List (S62))).bind fun y148 => (if y148.length + l1_1.length < 8796093022208 then ((some (y148 ++ l1_1 : List (S62))).bind fun y151 => ((some (([(⟨2, 0⟩ : S62)] : List (S62)) : List (S62))).bind fun y154 => (if y151.length + y154.length < 8796093022208 then ((some (y151 ++ y154 : List (S62))).bind fun y157 => ((spec_ClaimOk.f k a0 a1_0 l1_1).bind fun t161 => (if t161 = true then ((spec_ClaimOk.f k a0 a1_0 y157).bind fun t162 => (if t162 = true then (some (a1_0, y157, true)) else (some (0, ([] : List (S62)), false)))) else (some (0, ([] : List (S62)), false))))) else (none)))) else (none))
theorem spec_DenyClaim.mono : ∀ a0 a1 a2 k, LeO (spec_DenyClaim.f k a0 a1 a2) (spec_DenyClaim.f (k + 1) a0 a1 a2) := by
 intro a0 a1 a2 k
 unfold spec_DenyClaim.f
 repeat' first
   | (with_reducible exact spec_ClaimOk.mono _ _ _ _)
   | (with_reducible exact LeO.refl _)
   | (with_reducible exact LeO.none _)
   | (with_reducible refine LeO.ite ?_ ?_)
   | (with_reducible refine LeO.bind ?_ (fun _ => ?_))
   | exact spec_ClaimOk.mono _ _ _ _
   | exact LeO.none _
   | refine LeO.ite ?_ ?_
   | refine LeO.bind ?_ (fun _ => ?_)
def spec_DenyClaim.T1 : Bool × List (List Nat × List Nat) := (true, [([], []), ([0], [0]), ([], []), ([], []), ([3], [3]), ([2, 4], [2, 4]), ([], []), ([6], [6]), ([5, 7, 5], [5, 7]), ([1, 8], [1, 8]), ([], []), ([10, 9, 8, 0, 1, 2, 3, 4, 5, 6, 7, 8, 9, 10], [9, 10])])
def spec_DenyClaim.B1 : List Nat := [0, 1, 0, 0, 8, 28, 0, 64, 252, 511, 0, 2047]
theorem spec_DenyClaim.tab1 : rtab .any (opsOf Try.f47 1) = spec_DenyClaim.T1 := by kernel_rfl
theorem spec_DenyClaim.bits1 : waitsOk spec_DenyClaim.T1.2 spec_DenyClaim.B1 = true := by kernel_rfl
end Go.Proofs.Ytfhmafmfaoknlaa.PFnExactDenyClaim
