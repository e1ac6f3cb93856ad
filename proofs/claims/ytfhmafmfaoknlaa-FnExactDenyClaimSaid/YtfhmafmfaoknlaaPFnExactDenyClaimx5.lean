-- Made by a program of this session (wip/tools/patchprint.py), not by the kit itself.
import Derived.Test.YtfhmafmfaoknlaaPFnExactDenyClaimx0
import Derived.Test.YtfhmafmfaoknlaaPFnExactDenyClaimx4
import Derived.Test.YtfhmafmfaoknlaaPFnExactDenyClaimy0
import Derived.Test.YtfhmafmfaoknlaaPFnExactDenyClaimy1
import Derived.Test.YtfhmafmfaoknlaaPFnExactDenyClaimy2
import Derived.Test.YtfhmafmfaoknlaaPFnExactDenyClaimy3
namespace Go.Proofs.Ytfhmafmfaoknlaa.PFnExactDenyClaim
open Go.RowKit Go.Proofs.YtfhmafmfaoknlaaW.PrintWords Go.Proofs.YtfhmafmfaoknlaaW.PrintLast Go.Proofs.YtfhmafmfaoknlaaW.PrintMore
attribute [local go_sem] max2_int min2_int max_two min_two max_three min_three max_four min_four   -- for this text's walks alone
set_option linter.unusedVariables false
set_option linter.unusedSimpArgs false

attribute [local go_sem] setCell_isSome
set_option maxHeartbeats 8000000 in
set_option maxRecDepth 100000 in
theorem spec_DenyClaim.calls (k : Nat) (a0 : Int) (a1_0 : Int) (A1_1 : Option Addr) (c1_1 : Nat) (l1_1 : List (S62)) (r1 : Int) (r2 : List (S62)) (r3 : Bool) (w : World) (hr1_1 : Kd.C k62 w A1_1 l1_1.length l1_1) (hc1_1 : l1_1.length ≤ c1_1) (h : spec_DenyClaim.f k a0 a1_0 l1_1 = some (r1, r2, r3)) :
  Calls Try.prog 47 #[.int .i64 a0, .agg #[.int .i64 a1_0, .slice A1_1 l1_1.length c1_1]] w fun e w' => ∃ v1_ : Value, e = .returned (.tuple #[.agg #[.int .i64 r1, v1_], .bool r3]) ∧ Kd.R k62 62 w' w.heap.size (fun _ => True) v1_ r2 ∧ Below w.heap.size w w' := by
  cases r3 with
  | true => exact spec_DenyClaim.calls1 k a0 a1_0 A1_1 c1_1 l1_1 r1 r2 true w hr1_1 hc1_1 h rfl
  | false =>
    cases hc : spec_ClaimOk.f k a0 a1_0 l1_1 with
    | none =>
      exfalso
      unfold spec_DenyClaim.f at h
      simp only [Option.bind_some, hc, Option.bind_none, ite_self] at h
      cases h
    | some t =>
      cases t with
      | true => exact spec_DenyClaim.calls2 k a0 a1_0 A1_1 c1_1 l1_1 r1 r2 false w hr1_1 hc1_1 h rfl hc
      | false => exact spec_DenyClaim.calls3 k a0 a1_0 A1_1 c1_1 l1_1 r1 r2 false w hr1_1 hc1_1 h hc
end Go.Proofs.Ytfhmafmfaoknlaa.PFnExactDenyClaim
