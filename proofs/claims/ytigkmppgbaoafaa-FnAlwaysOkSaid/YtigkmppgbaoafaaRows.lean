/-
  No cell of these rows narrows 'for every input' (looked for: loops, veiled, ifaces, maps, wideKeys, modest, calm, conditions, laid).
  DERIVED. THE GIVEN ROWS OF THIS SEAT. 14 by the template 'for every input the law returns true; each argument reads behind the call as it read before'; 0 by the template 'total and deterministic' (their statements: YtigkmppgbaoafaaTotals.lean).
  GIVEN WITH THE SEED: the statements are not yours to turn. If you find one false, say at which input.
  Laid BY PROGRAM, IN A SANDBOX (cutbox-rows.mjs): the forced cells as the released guide's own fill.sh prints them over the translation eb18a7ba7014166f… (all of the seat's roots in one cut). By AI agents, Wed Nov 11 2026. No macro, syntax, notation, axiom, sorry.
-/
import Derived.Test.YtigkmppgbaoafaaChecked
import GoSem.Claim
import GoSem.ClaimJoined
import GoSem.ClaimMapViews
import Derived.JoinedTies
import Derived.KernelRfl
namespace Go.Proofs.Ytigkmppgbaoafaa
/- THE CELL 'sum', in the pinned program and in every row, IS THE sha256 OF THE DUMP (.gsa) THAT YtigkmppgbaoafaaProg.lean LOADS. Nothing in Lean hashes anything: it is a label: what it is worth is what the hold of that sum in a sandbox is worth. -/
noncomputable def Try.pinned : Pinned := { name := "ytigkmppgbaoafaa", sum := "eb18a7ba7014166fa3fbb2e485b2e2088c49364293b10cd16e9a7e19c0ac8dc2", checked := Try.checked }
namespace Rows
def none {H : Type} : Left H := { results := [], args := [] }

/-- 'laws.FnTableOf': WHATEVER THE INPUT: true; the input reads as it did. -/
def fnTableOfSpec : ChangeSpec := { name := "fnTableOf", fn := fun _ => fun
  | [d] => { results := [.lit (.bool true)], args := [d] }
  | _ => none }
def fnTableOfRow : OpenClaim := { program := "ytigkmppgbaoafaa", sum := "eb18a7ba7014166fa3fbb2e485b2e2088c49364293b10cd16e9a7e19c0ac8dc2", func := "loop.example/tellersandliars/laws.FnTableOf", spec := "fnTableOf", unfollowed := true, recurses := true, apart := false }
def FnTableOfSaid : Prop := fnTableOfRow.holds Try.pinned (OpenSpec.ofChange fnTableOfSpec)

/-- ITS FALSE NEIGHBOUR: 'it returns false'. Refute it at one input. -/
def fnTableOfWrong : ChangeSpec := { name := "fnTableOf", fn := fun _ => fun
  | [d] => { results := [.lit (.bool false)], args := [d] }
  | _ => none }
def FnTableOfWrongFalsely : Prop := fnTableOfRow.holds Try.pinned (OpenSpec.ofChange fnTableOfWrong)

/-- 'laws.FnCountGrows': WHATEVER THE INPUT: true; the input reads as it did. -/
def fnCountGrowsSpec : ChangeSpec := { name := "fnCountGrows", fn := fun _ => fun
  | [d] => { results := [.lit (.bool true)], args := [d] }
  | _ => none }
def fnCountGrowsRow : OpenClaim := { program := "ytigkmppgbaoafaa", sum := "eb18a7ba7014166fa3fbb2e485b2e2088c49364293b10cd16e9a7e19c0ac8dc2", func := "loop.example/tellersandliars/laws.FnCountGrows", spec := "fnCountGrows", unfollowed := true, recurses := true, apart := false }
def FnCountGrowsSaid : Prop := fnCountGrowsRow.holds Try.pinned (OpenSpec.ofChange fnCountGrowsSpec)

/-- ITS FALSE NEIGHBOUR: 'it returns false'. Refute it at one input. -/
def fnCountGrowsWrong : ChangeSpec := { name := "fnCountGrows", fn := fun _ => fun
  | [d] => { results := [.lit (.bool false)], args := [d] }
  | _ => none }
def FnCountGrowsWrongFalsely : Prop := fnCountGrowsRow.holds Try.pinned (OpenSpec.ofChange fnCountGrowsWrong)

/-- 'laws.FnExactHoldsIn': WHATEVER THE INPUT: true; the input reads as it did. -/
def fnExactHoldsInSpec : ChangeSpec := { name := "fnExactHoldsIn", fn := fun _ => fun
  | [d1, d2, d3] => { results := [.lit (.bool true)], args := [d1, d2, d3] }
  | _ => none }
def fnExactHoldsInRow : OpenClaim := { program := "ytigkmppgbaoafaa", sum := "eb18a7ba7014166fa3fbb2e485b2e2088c49364293b10cd16e9a7e19c0ac8dc2", func := "loop.example/tellersandliars/laws.FnExactHoldsIn", spec := "fnExactHoldsIn", recurses := true, apart := false }
def FnExactHoldsInSaid : Prop := fnExactHoldsInRow.holds Try.pinned (OpenSpec.ofChange fnExactHoldsInSpec)

/-- ITS FALSE NEIGHBOUR: 'it returns false'. Refute it at one input. -/
def fnExactHoldsInWrong : ChangeSpec := { name := "fnExactHoldsIn", fn := fun _ => fun
  | [d1, d2, d3] => { results := [.lit (.bool false)], args := [d1, d2, d3] }
  | _ => none }
def FnExactHoldsInWrongFalsely : Prop := fnExactHoldsInRow.holds Try.pinned (OpenSpec.ofChange fnExactHoldsInWrong)

/-- 'laws.FnNotEither': WHATEVER THE INPUT: true; the input reads as it did. -/
def fnNotEitherSpec : ChangeSpec := { name := "fnNotEither", fn := fun _ => fun
  | [d] => { results := [.lit (.bool true)], args := [d] }
  | _ => none }
def fnNotEitherRow : OpenClaim := { program := "ytigkmppgbaoafaa", sum := "eb18a7ba7014166fa3fbb2e485b2e2088c49364293b10cd16e9a7e19c0ac8dc2", func := "loop.example/tellersandliars/laws.FnNotEither", spec := "fnNotEither", unfollowed := true, recurses := true, apart := false }
def FnNotEitherSaid : Prop := fnNotEitherRow.holds Try.pinned (OpenSpec.ofChange fnNotEitherSpec)

/-- ITS FALSE NEIGHBOUR: 'it returns false'. Refute it at one input. -/
def fnNotEitherWrong : ChangeSpec := { name := "fnNotEither", fn := fun _ => fun
  | [d] => { results := [.lit (.bool false)], args := [d] }
  | _ => none }
def FnNotEitherWrongFalsely : Prop := fnNotEitherRow.holds Try.pinned (OpenSpec.ofChange fnNotEitherWrong)

/-- 'laws.FnExactMatterIn': WHATEVER THE INPUT: true; the input reads as it did. -/
def fnExactMatterInSpec : ChangeSpec := { name := "fnExactMatterIn", fn := fun _ => fun
  | [d1, d2] => { results := [.lit (.bool true)], args := [d1, d2] }
  | _ => none }
def fnExactMatterInRow : OpenClaim := { program := "ytigkmppgbaoafaa", sum := "eb18a7ba7014166fa3fbb2e485b2e2088c49364293b10cd16e9a7e19c0ac8dc2", func := "loop.example/tellersandliars/laws.FnExactMatterIn", spec := "fnExactMatterIn", recurses := true, apart := false }
def FnExactMatterInSaid : Prop := fnExactMatterInRow.holds Try.pinned (OpenSpec.ofChange fnExactMatterInSpec)

/-- ITS FALSE NEIGHBOUR: 'it returns false'. Refute it at one input. -/
def fnExactMatterInWrong : ChangeSpec := { name := "fnExactMatterIn", fn := fun _ => fun
  | [d1, d2] => { results := [.lit (.bool false)], args := [d1, d2] }
  | _ => none }
def FnExactMatterInWrongFalsely : Prop := fnExactMatterInRow.holds Try.pinned (OpenSpec.ofChange fnExactMatterInWrong)

/-- 'laws.FnExactTableOf': WHATEVER THE INPUT: true; the input reads as it did. -/
def fnExactTableOfSpec : ChangeSpec := { name := "fnExactTableOf", fn := fun _ => fun
  | [d1, d2] => { results := [.lit (.bool true)], args := [d1, d2] }
  | _ => none }
def fnExactTableOfRow : OpenClaim := { program := "ytigkmppgbaoafaa", sum := "eb18a7ba7014166fa3fbb2e485b2e2088c49364293b10cd16e9a7e19c0ac8dc2", func := "loop.example/tellersandliars/laws.FnExactTableOf", spec := "fnExactTableOf", unfollowed := true, recurses := true, apart := false }
def FnExactTableOfSaid : Prop := fnExactTableOfRow.holds Try.pinned (OpenSpec.ofChange fnExactTableOfSpec)

/-- ITS FALSE NEIGHBOUR: 'it returns false'. Refute it at one input. -/
def fnExactTableOfWrong : ChangeSpec := { name := "fnExactTableOf", fn := fun _ => fun
  | [d1, d2] => { results := [.lit (.bool false)], args := [d1, d2] }
  | _ => none }
def FnExactTableOfWrongFalsely : Prop := fnExactTableOfRow.holds Try.pinned (OpenSpec.ofChange fnExactTableOfWrong)

/-- 'laws.FnExactAlwaysOk': WHATEVER THE INPUT: true; the input reads as it did. -/
def fnExactAlwaysOkSpec : ChangeSpec := { name := "fnExactAlwaysOk", fn := fun _ => fun
  | [d1, d2] => { results := [.lit (.bool true)], args := [d1, d2] }
  | _ => none }
def fnExactAlwaysOkRow : OpenClaim := { program := "ytigkmppgbaoafaa", sum := "eb18a7ba7014166fa3fbb2e485b2e2088c49364293b10cd16e9a7e19c0ac8dc2", func := "loop.example/tellersandliars/laws.FnExactAlwaysOk", spec := "fnExactAlwaysOk", unfollowed := true, recurses := true, apart := false }
def FnExactAlwaysOkSaid : Prop := fnExactAlwaysOkRow.holds Try.pinned (OpenSpec.ofChange fnExactAlwaysOkSpec)

/-- ITS FALSE NEIGHBOUR: 'it returns false'. Refute it at one input. -/
def fnExactAlwaysOkWrong : ChangeSpec := { name := "fnExactAlwaysOk", fn := fun _ => fun
  | [d1, d2] => { results := [.lit (.bool false)], args := [d1, d2] }
  | _ => none }
def FnExactAlwaysOkWrongFalsely : Prop := fnExactAlwaysOkRow.holds Try.pinned (OpenSpec.ofChange fnExactAlwaysOkWrong)

/-- 'laws.FnExactFollowsOk': WHATEVER THE INPUT: true; the input reads as it did. -/
def fnExactFollowsOkSpec : ChangeSpec := { name := "fnExactFollowsOk", fn := fun _ => fun
  | [d1, d2, d3] => { results := [.lit (.bool true)], args := [d1, d2, d3] }
  | _ => none }
def fnExactFollowsOkRow : OpenClaim := { program := "ytigkmppgbaoafaa", sum := "eb18a7ba7014166fa3fbb2e485b2e2088c49364293b10cd16e9a7e19c0ac8dc2", func := "loop.example/tellersandliars/laws.FnExactFollowsOk", spec := "fnExactFollowsOk", unfollowed := true, recurses := true, apart := false }
def FnExactFollowsOkSaid : Prop := fnExactFollowsOkRow.holds Try.pinned (OpenSpec.ofChange fnExactFollowsOkSpec)

/-- ITS FALSE NEIGHBOUR: 'it returns false'. Refute it at one input. -/
def fnExactFollowsOkWrong : ChangeSpec := { name := "fnExactFollowsOk", fn := fun _ => fun
  | [d1, d2, d3] => { results := [.lit (.bool false)], args := [d1, d2, d3] }
  | _ => none }
def FnExactFollowsOkWrongFalsely : Prop := fnExactFollowsOkRow.holds Try.pinned (OpenSpec.ofChange fnExactFollowsOkWrong)

/-- 'laws.FnExactSameOk': WHATEVER THE INPUT: true; the input reads as it did. -/
def fnExactSameOkSpec : ChangeSpec := { name := "fnExactSameOk", fn := fun _ => fun
  | [d1, d2, d3] => { results := [.lit (.bool true)], args := [d1, d2, d3] }
  | _ => none }
def fnExactSameOkRow : OpenClaim := { program := "ytigkmppgbaoafaa", sum := "eb18a7ba7014166fa3fbb2e485b2e2088c49364293b10cd16e9a7e19c0ac8dc2", func := "loop.example/tellersandliars/laws.FnExactSameOk", spec := "fnExactSameOk", unfollowed := true, recurses := true, apart := false }
def FnExactSameOkSaid : Prop := fnExactSameOkRow.holds Try.pinned (OpenSpec.ofChange fnExactSameOkSpec)

/-- ITS FALSE NEIGHBOUR: 'it returns false'. Refute it at one input. -/
def fnExactSameOkWrong : ChangeSpec := { name := "fnExactSameOk", fn := fun _ => fun
  | [d1, d2, d3] => { results := [.lit (.bool false)], args := [d1, d2, d3] }
  | _ => none }
def FnExactSameOkWrongFalsely : Prop := fnExactSameOkRow.holds Try.pinned (OpenSpec.ofChange fnExactSameOkWrong)

/-- 'laws.FnHoldsIn': WHATEVER THE INPUT: true; the input reads as it did. -/
def fnHoldsInSpec : ChangeSpec := { name := "fnHoldsIn", fn := fun _ => fun
  | [d] => { results := [.lit (.bool true)], args := [d] }
  | _ => none }
def fnHoldsInRow : OpenClaim := { program := "ytigkmppgbaoafaa", sum := "eb18a7ba7014166fa3fbb2e485b2e2088c49364293b10cd16e9a7e19c0ac8dc2", func := "loop.example/tellersandliars/laws.FnHoldsIn", spec := "fnHoldsIn", recurses := true, apart := false }
def FnHoldsInSaid : Prop := fnHoldsInRow.holds Try.pinned (OpenSpec.ofChange fnHoldsInSpec)

/-- ITS FALSE NEIGHBOUR: 'it returns false'. Refute it at one input. -/
def fnHoldsInWrong : ChangeSpec := { name := "fnHoldsIn", fn := fun _ => fun
  | [d] => { results := [.lit (.bool false)], args := [d] }
  | _ => none }
def FnHoldsInWrongFalsely : Prop := fnHoldsInRow.holds Try.pinned (OpenSpec.ofChange fnHoldsInWrong)

/-- 'laws.FnFollowsOk': WHATEVER THE INPUT: true; the input reads as it did. -/
def fnFollowsOkSpec : ChangeSpec := { name := "fnFollowsOk", fn := fun _ => fun
  | [d] => { results := [.lit (.bool true)], args := [d] }
  | _ => none }
def fnFollowsOkRow : OpenClaim := { program := "ytigkmppgbaoafaa", sum := "eb18a7ba7014166fa3fbb2e485b2e2088c49364293b10cd16e9a7e19c0ac8dc2", func := "loop.example/tellersandliars/laws.FnFollowsOk", spec := "fnFollowsOk", unfollowed := true, recurses := true, apart := false }
def FnFollowsOkSaid : Prop := fnFollowsOkRow.holds Try.pinned (OpenSpec.ofChange fnFollowsOkSpec)

/-- ITS FALSE NEIGHBOUR: 'it returns false'. Refute it at one input. -/
def fnFollowsOkWrong : ChangeSpec := { name := "fnFollowsOk", fn := fun _ => fun
  | [d] => { results := [.lit (.bool false)], args := [d] }
  | _ => none }
def FnFollowsOkWrongFalsely : Prop := fnFollowsOkRow.holds Try.pinned (OpenSpec.ofChange fnFollowsOkWrong)

/-- 'laws.FnSameOk': WHATEVER THE INPUT: true; the input reads as it did. -/
def fnSameOkSpec : ChangeSpec := { name := "fnSameOk", fn := fun _ => fun
  | [d] => { results := [.lit (.bool true)], args := [d] }
  | _ => none }
def fnSameOkRow : OpenClaim := { program := "ytigkmppgbaoafaa", sum := "eb18a7ba7014166fa3fbb2e485b2e2088c49364293b10cd16e9a7e19c0ac8dc2", func := "loop.example/tellersandliars/laws.FnSameOk", spec := "fnSameOk", unfollowed := true, recurses := true, apart := false }
def FnSameOkSaid : Prop := fnSameOkRow.holds Try.pinned (OpenSpec.ofChange fnSameOkSpec)

/-- ITS FALSE NEIGHBOUR: 'it returns false'. Refute it at one input. -/
def fnSameOkWrong : ChangeSpec := { name := "fnSameOk", fn := fun _ => fun
  | [d] => { results := [.lit (.bool false)], args := [d] }
  | _ => none }
def FnSameOkWrongFalsely : Prop := fnSameOkRow.holds Try.pinned (OpenSpec.ofChange fnSameOkWrong)

/-- 'laws.FnAlwaysOk': WHATEVER THE INPUT: true; the input reads as it did. -/
def fnAlwaysOkSpec : ChangeSpec := { name := "fnAlwaysOk", fn := fun _ => fun
  | [d] => { results := [.lit (.bool true)], args := [d] }
  | _ => none }
def fnAlwaysOkRow : OpenClaim := { program := "ytigkmppgbaoafaa", sum := "eb18a7ba7014166fa3fbb2e485b2e2088c49364293b10cd16e9a7e19c0ac8dc2", func := "loop.example/tellersandliars/laws.FnAlwaysOk", spec := "fnAlwaysOk", unfollowed := true, recurses := true, apart := false }
def FnAlwaysOkSaid : Prop := fnAlwaysOkRow.holds Try.pinned (OpenSpec.ofChange fnAlwaysOkSpec)

/-- ITS FALSE NEIGHBOUR: 'it returns false'. Refute it at one input. -/
def fnAlwaysOkWrong : ChangeSpec := { name := "fnAlwaysOk", fn := fun _ => fun
  | [d] => { results := [.lit (.bool false)], args := [d] }
  | _ => none }
def FnAlwaysOkWrongFalsely : Prop := fnAlwaysOkRow.holds Try.pinned (OpenSpec.ofChange fnAlwaysOkWrong)

/-- 'laws.FnMatterIn': WHATEVER THE INPUT: true; the input reads as it did. -/
def fnMatterInSpec : ChangeSpec := { name := "fnMatterIn", fn := fun _ => fun
  | [d] => { results := [.lit (.bool true)], args := [d] }
  | _ => none }
def fnMatterInRow : OpenClaim := { program := "ytigkmppgbaoafaa", sum := "eb18a7ba7014166fa3fbb2e485b2e2088c49364293b10cd16e9a7e19c0ac8dc2", func := "loop.example/tellersandliars/laws.FnMatterIn", spec := "fnMatterIn", recurses := true, apart := false }
def FnMatterInSaid : Prop := fnMatterInRow.holds Try.pinned (OpenSpec.ofChange fnMatterInSpec)

/-- ITS FALSE NEIGHBOUR: 'it returns false'. Refute it at one input. -/
def fnMatterInWrong : ChangeSpec := { name := "fnMatterIn", fn := fun _ => fun
  | [d] => { results := [.lit (.bool false)], args := [d] }
  | _ => none }
def FnMatterInWrongFalsely : Prop := fnMatterInRow.holds Try.pinned (OpenSpec.ofChange fnMatterInWrong)

/- THE SECOND FORM. 'bulk': how many values and letters a reading holds, each counted each time it is reached (what is shared counts as often as it is met; a slice's spare places count too). A statement '..UptoSaid' is the law's where the arguments, and the package variables that the reading takes, are together of bulk at most 1048576: NARROWER than '..Said'. Prove '..Said' where nothing that the law and all that it calls make is longer than what came in: it says more and counts as full. Else prove '..UptoSaid'. A law counts once. -/
mutual
def uptoBulk {H : Type} : DataW H → Nat
  | .lit (.string bytes) => bytes.length + 1
  | .lit _ => 1
  | .nil => 1
  | .ptr d => uptoBulk d + 1
  | .slice elems spare => uptoBulkAll elems + uptoBulkAll spare + 1
  | .agg parts => uptoBulkAll parts + 1
  | .iface _ d => uptoBulk d + 1
  | .map entries => uptoBulkEntries entries + 1
  | .held _ => 1
def uptoBulkAll {H : Type} : List (DataW H) → Nat
  | [] => 0
  | d :: r => uptoBulk d + uptoBulkAll r
def uptoBulkEntries {H : Type} : List (Lit × DataW H) → Nat
  | [] => 0
  | x :: r => uptoBulkEntry x + uptoBulkEntries r
def uptoBulkEntry {H : Type} : Lit × DataW H → Nat
  | (.string bytes, d) => bytes.length + uptoBulk d + 1
  | (_, d) => uptoBulk d + 1
 end
def uptoSmall : (H : Type) → List (DataW H) → Bool := fun _ ds => decide (uptoBulkAll ds ≤ 1048576)
def OpenSpec.upto (s : _root_.Go.ChangeSpec) : _root_.Go.OpenSpec := { _root_.Go.OpenSpec.ofChange s with cond := some uptoSmall }

/-- 'laws.FnTableOf', WHERE WHAT IT READS IS OF BULK AT MOST 1048576: true; the input reads as it did. -/
def fnTableOfUptoRow : OpenClaim := { program := "ytigkmppgbaoafaa", sum := "eb18a7ba7014166fa3fbb2e485b2e2088c49364293b10cd16e9a7e19c0ac8dc2", func := "loop.example/tellersandliars/laws.FnTableOf", spec := "fnTableOf", unfollowed := true, recurses := true, apart := false, narrowed := true }
def FnTableOfUptoSaid : Prop := fnTableOfUptoRow.holds Try.pinned (OpenSpec.upto fnTableOfSpec)

/-- 'laws.FnCountGrows', WHERE WHAT IT READS IS OF BULK AT MOST 1048576: true; the input reads as it did. -/
def fnCountGrowsUptoRow : OpenClaim := { program := "ytigkmppgbaoafaa", sum := "eb18a7ba7014166fa3fbb2e485b2e2088c49364293b10cd16e9a7e19c0ac8dc2", func := "loop.example/tellersandliars/laws.FnCountGrows", spec := "fnCountGrows", unfollowed := true, recurses := true, apart := false, narrowed := true }
def FnCountGrowsUptoSaid : Prop := fnCountGrowsUptoRow.holds Try.pinned (OpenSpec.upto fnCountGrowsSpec)

/-- 'laws.FnExactHoldsIn', WHERE WHAT IT READS IS OF BULK AT MOST 1048576: true; the input reads as it did. -/
def fnExactHoldsInUptoRow : OpenClaim := { program := "ytigkmppgbaoafaa", sum := "eb18a7ba7014166fa3fbb2e485b2e2088c49364293b10cd16e9a7e19c0ac8dc2", func := "loop.example/tellersandliars/laws.FnExactHoldsIn", spec := "fnExactHoldsIn", recurses := true, apart := false, narrowed := true }
def FnExactHoldsInUptoSaid : Prop := fnExactHoldsInUptoRow.holds Try.pinned (OpenSpec.upto fnExactHoldsInSpec)

/-- 'laws.FnNotEither', WHERE WHAT IT READS IS OF BULK AT MOST 1048576: true; the input reads as it did. -/
def fnNotEitherUptoRow : OpenClaim := { program := "ytigkmppgbaoafaa", sum := "eb18a7ba7014166fa3fbb2e485b2e2088c49364293b10cd16e9a7e19c0ac8dc2", func := "loop.example/tellersandliars/laws.FnNotEither", spec := "fnNotEither", unfollowed := true, recurses := true, apart := false, narrowed := true }
def FnNotEitherUptoSaid : Prop := fnNotEitherUptoRow.holds Try.pinned (OpenSpec.upto fnNotEitherSpec)

/-- 'laws.FnExactMatterIn', WHERE WHAT IT READS IS OF BULK AT MOST 1048576: true; the input reads as it did. -/
def fnExactMatterInUptoRow : OpenClaim := { program := "ytigkmppgbaoafaa", sum := "eb18a7ba7014166fa3fbb2e485b2e2088c49364293b10cd16e9a7e19c0ac8dc2", func := "loop.example/tellersandliars/laws.FnExactMatterIn", spec := "fnExactMatterIn", recurses := true, apart := false, narrowed := true }
def FnExactMatterInUptoSaid : Prop := fnExactMatterInUptoRow.holds Try.pinned (OpenSpec.upto fnExactMatterInSpec)

/-- 'laws.FnExactTableOf', WHERE WHAT IT READS IS OF BULK AT MOST 1048576: true; the input reads as it did. -/
def fnExactTableOfUptoRow : OpenClaim := { program := "ytigkmppgbaoafaa", sum := "eb18a7ba7014166fa3fbb2e485b2e2088c49364293b10cd16e9a7e19c0ac8dc2", func := "loop.example/tellersandliars/laws.FnExactTableOf", spec := "fnExactTableOf", unfollowed := true, recurses := true, apart := false, narrowed := true }
def FnExactTableOfUptoSaid : Prop := fnExactTableOfUptoRow.holds Try.pinned (OpenSpec.upto fnExactTableOfSpec)

/-- 'laws.FnExactAlwaysOk', WHERE WHAT IT READS IS OF BULK AT MOST 1048576: true; the input reads as it did. -/
def fnExactAlwaysOkUptoRow : OpenClaim := { program := "ytigkmppgbaoafaa", sum := "eb18a7ba7014166fa3fbb2e485b2e2088c49364293b10cd16e9a7e19c0ac8dc2", func := "loop.example/tellersandliars/laws.FnExactAlwaysOk", spec := "fnExactAlwaysOk", unfollowed := true, recurses := true, apart := false, narrowed := true }
def FnExactAlwaysOkUptoSaid : Prop := fnExactAlwaysOkUptoRow.holds Try.pinned (OpenSpec.upto fnExactAlwaysOkSpec)

/-- 'laws.FnExactFollowsOk', WHERE WHAT IT READS IS OF BULK AT MOST 1048576: true; the input reads as it did. -/
def fnExactFollowsOkUptoRow : OpenClaim := { program := "ytigkmppgbaoafaa", sum := "eb18a7ba7014166fa3fbb2e485b2e2088c49364293b10cd16e9a7e19c0ac8dc2", func := "loop.example/tellersandliars/laws.FnExactFollowsOk", spec := "fnExactFollowsOk", unfollowed := true, recurses := true, apart := false, narrowed := true }
def FnExactFollowsOkUptoSaid : Prop := fnExactFollowsOkUptoRow.holds Try.pinned (OpenSpec.upto fnExactFollowsOkSpec)

/-- 'laws.FnExactSameOk', WHERE WHAT IT READS IS OF BULK AT MOST 1048576: true; the input reads as it did. -/
def fnExactSameOkUptoRow : OpenClaim := { program := "ytigkmppgbaoafaa", sum := "eb18a7ba7014166fa3fbb2e485b2e2088c49364293b10cd16e9a7e19c0ac8dc2", func := "loop.example/tellersandliars/laws.FnExactSameOk", spec := "fnExactSameOk", unfollowed := true, recurses := true, apart := false, narrowed := true }
def FnExactSameOkUptoSaid : Prop := fnExactSameOkUptoRow.holds Try.pinned (OpenSpec.upto fnExactSameOkSpec)

/-- 'laws.FnHoldsIn', WHERE WHAT IT READS IS OF BULK AT MOST 1048576: true; the input reads as it did. -/
def fnHoldsInUptoRow : OpenClaim := { program := "ytigkmppgbaoafaa", sum := "eb18a7ba7014166fa3fbb2e485b2e2088c49364293b10cd16e9a7e19c0ac8dc2", func := "loop.example/tellersandliars/laws.FnHoldsIn", spec := "fnHoldsIn", recurses := true, apart := false, narrowed := true }
def FnHoldsInUptoSaid : Prop := fnHoldsInUptoRow.holds Try.pinned (OpenSpec.upto fnHoldsInSpec)

/-- 'laws.FnFollowsOk', WHERE WHAT IT READS IS OF BULK AT MOST 1048576: true; the input reads as it did. -/
def fnFollowsOkUptoRow : OpenClaim := { program := "ytigkmppgbaoafaa", sum := "eb18a7ba7014166fa3fbb2e485b2e2088c49364293b10cd16e9a7e19c0ac8dc2", func := "loop.example/tellersandliars/laws.FnFollowsOk", spec := "fnFollowsOk", unfollowed := true, recurses := true, apart := false, narrowed := true }
def FnFollowsOkUptoSaid : Prop := fnFollowsOkUptoRow.holds Try.pinned (OpenSpec.upto fnFollowsOkSpec)

/-- 'laws.FnSameOk', WHERE WHAT IT READS IS OF BULK AT MOST 1048576: true; the input reads as it did. -/
def fnSameOkUptoRow : OpenClaim := { program := "ytigkmppgbaoafaa", sum := "eb18a7ba7014166fa3fbb2e485b2e2088c49364293b10cd16e9a7e19c0ac8dc2", func := "loop.example/tellersandliars/laws.FnSameOk", spec := "fnSameOk", unfollowed := true, recurses := true, apart := false, narrowed := true }
def FnSameOkUptoSaid : Prop := fnSameOkUptoRow.holds Try.pinned (OpenSpec.upto fnSameOkSpec)

/-- 'laws.FnAlwaysOk', WHERE WHAT IT READS IS OF BULK AT MOST 1048576: true; the input reads as it did. -/
def fnAlwaysOkUptoRow : OpenClaim := { program := "ytigkmppgbaoafaa", sum := "eb18a7ba7014166fa3fbb2e485b2e2088c49364293b10cd16e9a7e19c0ac8dc2", func := "loop.example/tellersandliars/laws.FnAlwaysOk", spec := "fnAlwaysOk", unfollowed := true, recurses := true, apart := false, narrowed := true }
def FnAlwaysOkUptoSaid : Prop := fnAlwaysOkUptoRow.holds Try.pinned (OpenSpec.upto fnAlwaysOkSpec)

/-- 'laws.FnMatterIn', WHERE WHAT IT READS IS OF BULK AT MOST 1048576: true; the input reads as it did. -/
def fnMatterInUptoRow : OpenClaim := { program := "ytigkmppgbaoafaa", sum := "eb18a7ba7014166fa3fbb2e485b2e2088c49364293b10cd16e9a7e19c0ac8dc2", func := "loop.example/tellersandliars/laws.FnMatterIn", spec := "fnMatterIn", recurses := true, apart := false, narrowed := true }
def FnMatterInUptoSaid : Prop := fnMatterInUptoRow.holds Try.pinned (OpenSpec.upto fnMatterInSpec)

end Rows
end Go.Proofs.Ytigkmppgbaoafaa
