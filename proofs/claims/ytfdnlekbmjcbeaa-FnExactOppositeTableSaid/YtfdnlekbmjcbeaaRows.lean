/-
  No cell of these rows narrows 'for every input' (looked for: loops, veiled, ifaces, maps, wideKeys, modest, calm, conditions, laid).
  DERIVED. THE GIVEN ROWS OF THIS SEAT. 12 by the template 'for every input the law returns true; each argument reads behind the call as it read before'; 0 by the template 'total and deterministic' (their statements: YtfdnlekbmjcbeaaTotals.lean).
  GIVEN WITH THE SEED: the statements are not yours to turn. If you find one false, say at which input.
  Laid BY PROGRAM, IN A SANDBOX (cutbox-rows.mjs): the forced cells as the released guide's own fill.sh prints them over the translation 2a207266cbf1cf60… (all of the seat's roots in one cut). By AI agents, Wed Nov 11 2026. No macro, syntax, notation, axiom, sorry.
-/
import Derived.Test.YtfdnlekbmjcbeaaChecked
import GoSem.Claim
import GoSem.ClaimJoined
import GoSem.ClaimMapViews
import Derived.JoinedTies
import Derived.KernelRfl
namespace Go.Proofs.Ytfdnlekbmjcbeaa
/- THE CELL 'sum', in the pinned program and in every row, IS THE sha256 OF THE DUMP (.gsa) THAT YtfdnlekbmjcbeaaProg.lean LOADS. Nothing in Lean hashes anything: it is a label: what it is worth is what the hold of that sum in a sandbox is worth. -/
noncomputable def Try.pinned : Pinned := { name := "ytfdnlekbmjcbeaa", sum := "2a207266cbf1cf60e8775e44620699e320bbe6805eec4f50ce79f096a7c5603f", checked := Try.checked }
namespace Rows
def none {H : Type} : Left H := { results := [], args := [] }

/-- 'laws.FnExactConstants': WHATEVER THE INPUT: true; the input reads as it did. -/
def fnExactConstantsSpec : ChangeSpec := { name := "fnExactConstants", fn := fun _ => fun
  | [] => { results := [.lit (.bool true)], args := [] }
  | _ => none }
def fnExactConstantsRow : OpenClaim := { program := "ytfdnlekbmjcbeaa", sum := "2a207266cbf1cf60e8775e44620699e320bbe6805eec4f50ce79f096a7c5603f", func := "loop.example/tellersandliars/laws.FnExactConstants", spec := "fnExactConstants", apart := false }
def FnExactConstantsSaid : Prop := fnExactConstantsRow.holds Try.pinned (OpenSpec.ofChange fnExactConstantsSpec)

/-- ITS FALSE NEIGHBOUR: 'it returns false'. Refute it at one input. -/
def fnExactConstantsWrong : ChangeSpec := { name := "fnExactConstants", fn := fun _ => fun
  | [] => { results := [.lit (.bool false)], args := [] }
  | _ => none }
def FnExactConstantsWrongFalsely : Prop := fnExactConstantsRow.holds Try.pinned (OpenSpec.ofChange fnExactConstantsWrong)

/-- 'laws.FnExactTableOk': WHATEVER THE INPUT: true; the input reads as it did. -/
def fnExactTableOkSpec : ChangeSpec := { name := "fnExactTableOk", fn := fun _ => fun
  | [d1, d2] => { results := [.lit (.bool true)], args := [d1, d2] }
  | _ => none }
def fnExactTableOkRow : OpenClaim := { program := "ytfdnlekbmjcbeaa", sum := "2a207266cbf1cf60e8775e44620699e320bbe6805eec4f50ce79f096a7c5603f", func := "loop.example/tellersandliars/laws.FnExactTableOk", spec := "fnExactTableOk", apart := false }
def FnExactTableOkSaid : Prop := fnExactTableOkRow.holds Try.pinned (OpenSpec.ofChange fnExactTableOkSpec)

/-- ITS FALSE NEIGHBOUR: 'it returns false'. Refute it at one input. -/
def fnExactTableOkWrong : ChangeSpec := { name := "fnExactTableOk", fn := fun _ => fun
  | [d1, d2] => { results := [.lit (.bool false)], args := [d1, d2] }
  | _ => none }
def FnExactTableOkWrongFalsely : Prop := fnExactTableOkRow.holds Try.pinned (OpenSpec.ofChange fnExactTableOkWrong)

/-- 'laws.FnExactWorldOk': WHATEVER THE INPUT: true; the input reads as it did. -/
def fnExactWorldOkSpec : ChangeSpec := { name := "fnExactWorldOk", fn := fun _ => fun
  | [d1, d2] => { results := [.lit (.bool true)], args := [d1, d2] }
  | _ => none }
def fnExactWorldOkRow : OpenClaim := { program := "ytfdnlekbmjcbeaa", sum := "2a207266cbf1cf60e8775e44620699e320bbe6805eec4f50ce79f096a7c5603f", func := "loop.example/tellersandliars/laws.FnExactWorldOk", spec := "fnExactWorldOk", apart := false }
def FnExactWorldOkSaid : Prop := fnExactWorldOkRow.holds Try.pinned (OpenSpec.ofChange fnExactWorldOkSpec)

/-- ITS FALSE NEIGHBOUR: 'it returns false'. Refute it at one input. -/
def fnExactWorldOkWrong : ChangeSpec := { name := "fnExactWorldOk", fn := fun _ => fun
  | [d1, d2] => { results := [.lit (.bool false)], args := [d1, d2] }
  | _ => none }
def FnExactWorldOkWrongFalsely : Prop := fnExactWorldOkRow.holds Try.pinned (OpenSpec.ofChange fnExactWorldOkWrong)

/-- 'laws.FnExactOppositeWorld': WHATEVER THE INPUT: true; the input reads as it did. -/
def fnExactOppositeWorldSpec : ChangeSpec := { name := "fnExactOppositeWorld", fn := fun _ => fun
  | [d1, d2] => { results := [.lit (.bool true)], args := [d1, d2] }
  | _ => none }
def fnExactOppositeWorldRow : OpenClaim := { program := "ytfdnlekbmjcbeaa", sum := "2a207266cbf1cf60e8775e44620699e320bbe6805eec4f50ce79f096a7c5603f", func := "loop.example/tellersandliars/laws.FnExactOppositeWorld", spec := "fnExactOppositeWorld", apart := false }
def FnExactOppositeWorldSaid : Prop := fnExactOppositeWorldRow.holds Try.pinned (OpenSpec.ofChange fnExactOppositeWorldSpec)

/-- ITS FALSE NEIGHBOUR: 'it returns false'. Refute it at one input. -/
def fnExactOppositeWorldWrong : ChangeSpec := { name := "fnExactOppositeWorld", fn := fun _ => fun
  | [d1, d2] => { results := [.lit (.bool false)], args := [d1, d2] }
  | _ => none }
def FnExactOppositeWorldWrongFalsely : Prop := fnExactOppositeWorldRow.holds Try.pinned (OpenSpec.ofChange fnExactOppositeWorldWrong)

/-- 'laws.FnWorldOk': WHATEVER THE INPUT: true; the input reads as it did. -/
def fnWorldOkSpec : ChangeSpec := { name := "fnWorldOk", fn := fun _ => fun
  | [d] => { results := [.lit (.bool true)], args := [d] }
  | _ => none }
def fnWorldOkRow : OpenClaim := { program := "ytfdnlekbmjcbeaa", sum := "2a207266cbf1cf60e8775e44620699e320bbe6805eec4f50ce79f096a7c5603f", func := "loop.example/tellersandliars/laws.FnWorldOk", spec := "fnWorldOk", apart := false }
def FnWorldOkSaid : Prop := fnWorldOkRow.holds Try.pinned (OpenSpec.ofChange fnWorldOkSpec)

/-- ITS FALSE NEIGHBOUR: 'it returns false'. Refute it at one input. -/
def fnWorldOkWrong : ChangeSpec := { name := "fnWorldOk", fn := fun _ => fun
  | [d] => { results := [.lit (.bool false)], args := [d] }
  | _ => none }
def FnWorldOkWrongFalsely : Prop := fnWorldOkRow.holds Try.pinned (OpenSpec.ofChange fnWorldOkWrong)

/-- 'laws.FnTermText': WHATEVER THE INPUT: true; the input reads as it did. -/
def fnTermTextSpec : ChangeSpec := { name := "fnTermText", fn := fun _ => fun
  | [d] => { results := [.lit (.bool true)], args := [d] }
  | _ => none }
def fnTermTextRow : OpenClaim := { program := "ytfdnlekbmjcbeaa", sum := "2a207266cbf1cf60e8775e44620699e320bbe6805eec4f50ce79f096a7c5603f", func := "loop.example/tellersandliars/laws.FnTermText", spec := "fnTermText", unfollowed := true, recurses := true, apart := false }
def FnTermTextSaid : Prop := fnTermTextRow.holds Try.pinned (OpenSpec.ofChange fnTermTextSpec)

/-- ITS FALSE NEIGHBOUR: 'it returns false'. Refute it at one input. -/
def fnTermTextWrong : ChangeSpec := { name := "fnTermText", fn := fun _ => fun
  | [d] => { results := [.lit (.bool false)], args := [d] }
  | _ => none }
def FnTermTextWrongFalsely : Prop := fnTermTextRow.holds Try.pinned (OpenSpec.ofChange fnTermTextWrong)

/-- 'laws.FnExactOppositeTable': WHATEVER THE INPUT: true; the input reads as it did. -/
def fnExactOppositeTableSpec : ChangeSpec := { name := "fnExactOppositeTable", fn := fun _ => fun
  | [d1, d2] => { results := [.lit (.bool true)], args := [d1, d2] }
  | _ => none }
def fnExactOppositeTableRow : OpenClaim := { program := "ytfdnlekbmjcbeaa", sum := "2a207266cbf1cf60e8775e44620699e320bbe6805eec4f50ce79f096a7c5603f", func := "loop.example/tellersandliars/laws.FnExactOppositeTable", spec := "fnExactOppositeTable", unfollowed := true, recurses := true, apart := false }
def FnExactOppositeTableSaid : Prop := fnExactOppositeTableRow.holds Try.pinned (OpenSpec.ofChange fnExactOppositeTableSpec)

/-- ITS FALSE NEIGHBOUR: 'it returns false'. Refute it at one input. -/
def fnExactOppositeTableWrong : ChangeSpec := { name := "fnExactOppositeTable", fn := fun _ => fun
  | [d1, d2] => { results := [.lit (.bool false)], args := [d1, d2] }
  | _ => none }
def FnExactOppositeTableWrongFalsely : Prop := fnExactOppositeTableRow.holds Try.pinned (OpenSpec.ofChange fnExactOppositeTableWrong)

/-- 'laws.FnTableOk': WHATEVER THE INPUT: true; the input reads as it did. -/
def fnTableOkSpec : ChangeSpec := { name := "fnTableOk", fn := fun _ => fun
  | [d] => { results := [.lit (.bool true)], args := [d] }
  | _ => none }
def fnTableOkRow : OpenClaim := { program := "ytfdnlekbmjcbeaa", sum := "2a207266cbf1cf60e8775e44620699e320bbe6805eec4f50ce79f096a7c5603f", func := "loop.example/tellersandliars/laws.FnTableOk", spec := "fnTableOk", apart := false }
def FnTableOkSaid : Prop := fnTableOkRow.holds Try.pinned (OpenSpec.ofChange fnTableOkSpec)

/-- ITS FALSE NEIGHBOUR: 'it returns false'. Refute it at one input. -/
def fnTableOkWrong : ChangeSpec := { name := "fnTableOk", fn := fun _ => fun
  | [d] => { results := [.lit (.bool false)], args := [d] }
  | _ => none }
def FnTableOkWrongFalsely : Prop := fnTableOkRow.holds Try.pinned (OpenSpec.ofChange fnTableOkWrong)

/-- 'laws.FnOppositeWorld': WHATEVER THE INPUT: true; the input reads as it did. -/
def fnOppositeWorldSpec : ChangeSpec := { name := "fnOppositeWorld", fn := fun _ => fun
  | [d] => { results := [.lit (.bool true)], args := [d] }
  | _ => none }
def fnOppositeWorldRow : OpenClaim := { program := "ytfdnlekbmjcbeaa", sum := "2a207266cbf1cf60e8775e44620699e320bbe6805eec4f50ce79f096a7c5603f", func := "loop.example/tellersandliars/laws.FnOppositeWorld", spec := "fnOppositeWorld", apart := false }
def FnOppositeWorldSaid : Prop := fnOppositeWorldRow.holds Try.pinned (OpenSpec.ofChange fnOppositeWorldSpec)

/-- ITS FALSE NEIGHBOUR: 'it returns false'. Refute it at one input. -/
def fnOppositeWorldWrong : ChangeSpec := { name := "fnOppositeWorld", fn := fun _ => fun
  | [d] => { results := [.lit (.bool false)], args := [d] }
  | _ => none }
def FnOppositeWorldWrongFalsely : Prop := fnOppositeWorldRow.holds Try.pinned (OpenSpec.ofChange fnOppositeWorldWrong)

/-- 'laws.FnExactTableOfWorlds': WHATEVER THE INPUT: true; the input reads as it did. -/
def fnExactTableOfWorldsSpec : ChangeSpec := { name := "fnExactTableOfWorlds", fn := fun _ => fun
  | [d1, d2] => { results := [.lit (.bool true)], args := [d1, d2] }
  | _ => none }
def fnExactTableOfWorldsRow : OpenClaim := { program := "ytfdnlekbmjcbeaa", sum := "2a207266cbf1cf60e8775e44620699e320bbe6805eec4f50ce79f096a7c5603f", func := "loop.example/tellersandliars/laws.FnExactTableOfWorlds", spec := "fnExactTableOfWorlds", apart := false }
def FnExactTableOfWorldsSaid : Prop := fnExactTableOfWorldsRow.holds Try.pinned (OpenSpec.ofChange fnExactTableOfWorldsSpec)

/-- ITS FALSE NEIGHBOUR: 'it returns false'. Refute it at one input. -/
def fnExactTableOfWorldsWrong : ChangeSpec := { name := "fnExactTableOfWorlds", fn := fun _ => fun
  | [d1, d2] => { results := [.lit (.bool false)], args := [d1, d2] }
  | _ => none }
def FnExactTableOfWorldsWrongFalsely : Prop := fnExactTableOfWorldsRow.holds Try.pinned (OpenSpec.ofChange fnExactTableOfWorldsWrong)

/-- 'laws.FnExactWorldsIn': WHATEVER THE INPUT: true; the input reads as it did. -/
def fnExactWorldsInSpec : ChangeSpec := { name := "fnExactWorldsIn", fn := fun _ => fun
  | [d1, d2] => { results := [.lit (.bool true)], args := [d1, d2] }
  | _ => none }
def fnExactWorldsInRow : OpenClaim := { program := "ytfdnlekbmjcbeaa", sum := "2a207266cbf1cf60e8775e44620699e320bbe6805eec4f50ce79f096a7c5603f", func := "loop.example/tellersandliars/laws.FnExactWorldsIn", spec := "fnExactWorldsIn", apart := false }
def FnExactWorldsInSaid : Prop := fnExactWorldsInRow.holds Try.pinned (OpenSpec.ofChange fnExactWorldsInSpec)

/-- ITS FALSE NEIGHBOUR: 'it returns false'. Refute it at one input. -/
def fnExactWorldsInWrong : ChangeSpec := { name := "fnExactWorldsIn", fn := fun _ => fun
  | [d1, d2] => { results := [.lit (.bool false)], args := [d1, d2] }
  | _ => none }
def FnExactWorldsInWrongFalsely : Prop := fnExactWorldsInRow.holds Try.pinned (OpenSpec.ofChange fnExactWorldsInWrong)

/-- 'laws.FnExactTellersIn': WHATEVER THE INPUT: true; the input reads as it did. -/
def fnExactTellersInSpec : ChangeSpec := { name := "fnExactTellersIn", fn := fun _ => fun
  | [d1, d2] => { results := [.lit (.bool true)], args := [d1, d2] }
  | _ => none }
def fnExactTellersInRow : OpenClaim := { program := "ytfdnlekbmjcbeaa", sum := "2a207266cbf1cf60e8775e44620699e320bbe6805eec4f50ce79f096a7c5603f", func := "loop.example/tellersandliars/laws.FnExactTellersIn", spec := "fnExactTellersIn", apart := false }
def FnExactTellersInSaid : Prop := fnExactTellersInRow.holds Try.pinned (OpenSpec.ofChange fnExactTellersInSpec)

/-- ITS FALSE NEIGHBOUR: 'it returns false'. Refute it at one input. -/
def fnExactTellersInWrong : ChangeSpec := { name := "fnExactTellersIn", fn := fun _ => fun
  | [d1, d2] => { results := [.lit (.bool false)], args := [d1, d2] }
  | _ => none }
def FnExactTellersInWrongFalsely : Prop := fnExactTellersInRow.holds Try.pinned (OpenSpec.ofChange fnExactTellersInWrong)

/- THE SECOND FORM. 'bulk': how many values and letters a reading holds, each counted each time it is reached (what is shared counts as often as it is met; a slice's spare places count too). A statement '..UptoSaid' is the law's where the arguments, and the package variables that the reading takes, are together of bulk at most 1048576: NARROWER than '..Said'. Prove '..Said' where nothing that the law and all that it calls make is longer than what came in: it says more and counts as full. Else prove '..UptoSaid'. A law counts once. -/
mutual
def uptoBulk {H : Type} : DataW H → Nat
  | .lit (.string bytes) => bytes.length + 1
  | .lit _ => 1
  | .nil => 1
  | .ptr d => uptoBulk d + 1
  | .slice elems spare => uptoBulkAll elems + uptoBulkAll spare + 1
  | .agg parts => uptoBulkAll parts + 1
  | .iface _ d => uptoBulk d + 1
  | .map entries => uptoBulkEntries entries + 1
  | .held _ => 1
def uptoBulkAll {H : Type} : List (DataW H) → Nat
  | [] => 0
  | d :: r => uptoBulk d + uptoBulkAll r
def uptoBulkEntries {H : Type} : List (Lit × DataW H) → Nat
  | [] => 0
  | x :: r => uptoBulkEntry x + uptoBulkEntries r
def uptoBulkEntry {H : Type} : Lit × DataW H → Nat
  | (.string bytes, d) => bytes.length + uptoBulk d + 1
  | (_, d) => uptoBulk d + 1
 end
def uptoSmall : (H : Type) → List (DataW H) → Bool := fun _ ds => decide (uptoBulkAll ds ≤ 1048576)
def OpenSpec.upto (s : _root_.Go.ChangeSpec) : _root_.Go.OpenSpec := { _root_.Go.OpenSpec.ofChange s with cond := some uptoSmall }

/-- 'laws.FnExactConstants', WHERE WHAT IT READS IS OF BULK AT MOST 1048576: true; the input reads as it did. -/
def fnExactConstantsUptoRow : OpenClaim := { program := "ytfdnlekbmjcbeaa", sum := "2a207266cbf1cf60e8775e44620699e320bbe6805eec4f50ce79f096a7c5603f", func := "loop.example/tellersandliars/laws.FnExactConstants", spec := "fnExactConstants", apart := false, narrowed := true }
def FnExactConstantsUptoSaid : Prop := fnExactConstantsUptoRow.holds Try.pinned (OpenSpec.upto fnExactConstantsSpec)

/-- 'laws.FnExactTableOk', WHERE WHAT IT READS IS OF BULK AT MOST 1048576: true; the input reads as it did. -/
def fnExactTableOkUptoRow : OpenClaim := { program := "ytfdnlekbmjcbeaa", sum := "2a207266cbf1cf60e8775e44620699e320bbe6805eec4f50ce79f096a7c5603f", func := "loop.example/tellersandliars/laws.FnExactTableOk", spec := "fnExactTableOk", apart := false, narrowed := true }
def FnExactTableOkUptoSaid : Prop := fnExactTableOkUptoRow.holds Try.pinned (OpenSpec.upto fnExactTableOkSpec)

/-- 'laws.FnExactWorldOk', WHERE WHAT IT READS IS OF BULK AT MOST 1048576: true; the input reads as it did. -/
def fnExactWorldOkUptoRow : OpenClaim := { program := "ytfdnlekbmjcbeaa", sum := "2a207266cbf1cf60e8775e44620699e320bbe6805eec4f50ce79f096a7c5603f", func := "loop.example/tellersandliars/laws.FnExactWorldOk", spec := "fnExactWorldOk", apart := false, narrowed := true }
def FnExactWorldOkUptoSaid : Prop := fnExactWorldOkUptoRow.holds Try.pinned (OpenSpec.upto fnExactWorldOkSpec)

/-- 'laws.FnExactOppositeWorld', WHERE WHAT IT READS IS OF BULK AT MOST 1048576: true; the input reads as it did. -/
def fnExactOppositeWorldUptoRow : OpenClaim := { program := "ytfdnlekbmjcbeaa", sum := "2a207266cbf1cf60e8775e44620699e320bbe6805eec4f50ce79f096a7c5603f", func := "loop.example/tellersandliars/laws.FnExactOppositeWorld", spec := "fnExactOppositeWorld", apart := false, narrowed := true }
def FnExactOppositeWorldUptoSaid : Prop := fnExactOppositeWorldUptoRow.holds Try.pinned (OpenSpec.upto fnExactOppositeWorldSpec)

/-- 'laws.FnWorldOk', WHERE WHAT IT READS IS OF BULK AT MOST 1048576: true; the input reads as it did. -/
def fnWorldOkUptoRow : OpenClaim := { program := "ytfdnlekbmjcbeaa", sum := "2a207266cbf1cf60e8775e44620699e320bbe6805eec4f50ce79f096a7c5603f", func := "loop.example/tellersandliars/laws.FnWorldOk", spec := "fnWorldOk", apart := false, narrowed := true }
def FnWorldOkUptoSaid : Prop := fnWorldOkUptoRow.holds Try.pinned (OpenSpec.upto fnWorldOkSpec)

/-- 'laws.FnTermText', WHERE WHAT IT READS IS OF BULK AT MOST 1048576: true; the input reads as it did. -/
def fnTermTextUptoRow : OpenClaim := { program := "ytfdnlekbmjcbeaa", sum := "2a207266cbf1cf60e8775e44620699e320bbe6805eec4f50ce79f096a7c5603f", func := "loop.example/tellersandliars/laws.FnTermText", spec := "fnTermText", unfollowed := true, recurses := true, apart := false, narrowed := true }
def FnTermTextUptoSaid : Prop := fnTermTextUptoRow.holds Try.pinned (OpenSpec.upto fnTermTextSpec)

/-- 'laws.FnExactOppositeTable', WHERE WHAT IT READS IS OF BULK AT MOST 1048576: true; the input reads as it did. -/
def fnExactOppositeTableUptoRow : OpenClaim := { program := "ytfdnlekbmjcbeaa", sum := "2a207266cbf1cf60e8775e44620699e320bbe6805eec4f50ce79f096a7c5603f", func := "loop.example/tellersandliars/laws.FnExactOppositeTable", spec := "fnExactOppositeTable", unfollowed := true, recurses := true, apart := false, narrowed := true }
def FnExactOppositeTableUptoSaid : Prop := fnExactOppositeTableUptoRow.holds Try.pinned (OpenSpec.upto fnExactOppositeTableSpec)

/-- 'laws.FnTableOk', WHERE WHAT IT READS IS OF BULK AT MOST 1048576: true; the input reads as it did. -/
def fnTableOkUptoRow : OpenClaim := { program := "ytfdnlekbmjcbeaa", sum := "2a207266cbf1cf60e8775e44620699e320bbe6805eec4f50ce79f096a7c5603f", func := "loop.example/tellersandliars/laws.FnTableOk", spec := "fnTableOk", apart := false, narrowed := true }
def FnTableOkUptoSaid : Prop := fnTableOkUptoRow.holds Try.pinned (OpenSpec.upto fnTableOkSpec)

/-- 'laws.FnOppositeWorld', WHERE WHAT IT READS IS OF BULK AT MOST 1048576: true; the input reads as it did. -/
def fnOppositeWorldUptoRow : OpenClaim := { program := "ytfdnlekbmjcbeaa", sum := "2a207266cbf1cf60e8775e44620699e320bbe6805eec4f50ce79f096a7c5603f", func := "loop.example/tellersandliars/laws.FnOppositeWorld", spec := "fnOppositeWorld", apart := false, narrowed := true }
def FnOppositeWorldUptoSaid : Prop := fnOppositeWorldUptoRow.holds Try.pinned (OpenSpec.upto fnOppositeWorldSpec)

/-- 'laws.FnExactTableOfWorlds', WHERE WHAT IT READS IS OF BULK AT MOST 1048576: true; the input reads as it did. -/
def fnExactTableOfWorldsUptoRow : OpenClaim := { program := "ytfdnlekbmjcbeaa", sum := "2a207266cbf1cf60e8775e44620699e320bbe6805eec4f50ce79f096a7c5603f", func := "loop.example/tellersandliars/laws.FnExactTableOfWorlds", spec := "fnExactTableOfWorlds", apart := false, narrowed := true }
def FnExactTableOfWorldsUptoSaid : Prop := fnExactTableOfWorldsUptoRow.holds Try.pinned (OpenSpec.upto fnExactTableOfWorldsSpec)

/-- 'laws.FnExactWorldsIn', WHERE WHAT IT READS IS OF BULK AT MOST 1048576: true; the input reads as it did. -/
def fnExactWorldsInUptoRow : OpenClaim := { program := "ytfdnlekbmjcbeaa", sum := "2a207266cbf1cf60e8775e44620699e320bbe6805eec4f50ce79f096a7c5603f", func := "loop.example/tellersandliars/laws.FnExactWorldsIn", spec := "fnExactWorldsIn", apart := false, narrowed := true }
def FnExactWorldsInUptoSaid : Prop := fnExactWorldsInUptoRow.holds Try.pinned (OpenSpec.upto fnExactWorldsInSpec)

/-- 'laws.FnExactTellersIn', WHERE WHAT IT READS IS OF BULK AT MOST 1048576: true; the input reads as it did. -/
def fnExactTellersInUptoRow : OpenClaim := { program := "ytfdnlekbmjcbeaa", sum := "2a207266cbf1cf60e8775e44620699e320bbe6805eec4f50ce79f096a7c5603f", func := "loop.example/tellersandliars/laws.FnExactTellersIn", spec := "fnExactTellersIn", apart := false, narrowed := true }
def FnExactTellersInUptoSaid : Prop := fnExactTellersInUptoRow.holds Try.pinned (OpenSpec.upto fnExactTellersInSpec)

end Rows
end Go.Proofs.Ytfdnlekbmjcbeaa
