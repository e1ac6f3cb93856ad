/-
  No cell of these rows narrows 'for every input' (looked for: loops, veiled, ifaces, maps, wideKeys, modest, calm, conditions, laid).
  DERIVED. THE GIVEN ROWS OF THIS SEAT. 12 by the template 'for every input the law returns true; each argument reads behind the call as it read before'; 0 by the template 'total and deterministic' (their statements: YtpnjanaggkmbaaaTotals.lean).
  GIVEN WITH THE SEED: the statements are not yours to turn. If you find one false, say at which input.
  Laid BY PROGRAM, IN A SANDBOX (cutbox-rows.mjs): the forced cells as the released guide's own fill.sh prints them over the translation daa55818f06c06fd… (all of the seat's roots in one cut). By AI agents, Wed Nov 11 2026. No macro, syntax, notation, axiom, sorry.
-/
import Derived.Test.YtpnjanaggkmbaaaChecked
import GoSem.Claim
import GoSem.ClaimJoined
import GoSem.ClaimMapViews
import Derived.JoinedTies
import Derived.KernelRfl
namespace Go.Proofs.Ytpnjanaggkmbaaa
/- THE CELL 'sum', in the pinned program and in every row, IS THE sha256 OF THE DUMP (.gsa) THAT YtpnjanaggkmbaaaProg.lean LOADS. Nothing in Lean hashes anything: it is a label: what it is worth is what the hold of that sum in a sandbox is worth. -/
noncomputable def Try.pinned : Pinned := { name := "ytpnjanaggkmbaaa", sum := "daa55818f06c06fda8708af4f5e5125515022d9085f71f96376a49bee738c045", checked := Try.checked }
namespace Rows
def none {H : Type} : Left H := { results := [], args := [] }

/-- 'laws.FnTableOfWorlds': WHATEVER THE INPUT: true; the input reads as it did. -/
def fnTableOfWorldsSpec : ChangeSpec := { name := "fnTableOfWorlds", fn := fun _ => fun
  | [d] => { results := [.lit (.bool true)], args := [d] }
  | _ => none }
def fnTableOfWorldsRow : OpenClaim := { program := "ytpnjanaggkmbaaa", sum := "daa55818f06c06fda8708af4f5e5125515022d9085f71f96376a49bee738c045", func := "loop.example/tellersandliars/laws.FnTableOfWorlds", spec := "fnTableOfWorlds", apart := false }
def FnTableOfWorldsSaid : Prop := fnTableOfWorldsRow.holds Try.pinned (OpenSpec.ofChange fnTableOfWorldsSpec)

/-- ITS FALSE NEIGHBOUR: 'it returns false'. Refute it at one input. -/
def fnTableOfWorldsWrong : ChangeSpec := { name := "fnTableOfWorlds", fn := fun _ => fun
  | [d] => { results := [.lit (.bool false)], args := [d] }
  | _ => none }
def FnTableOfWorldsWrongFalsely : Prop := fnTableOfWorldsRow.holds Try.pinned (OpenSpec.ofChange fnTableOfWorldsWrong)

/-- 'laws.FnBothTables': WHATEVER THE INPUT: true; the input reads as it did. -/
def fnBothTablesSpec : ChangeSpec := { name := "fnBothTables", fn := fun _ => fun
  | [d] => { results := [.lit (.bool true)], args := [d] }
  | _ => none }
def fnBothTablesRow : OpenClaim := { program := "ytpnjanaggkmbaaa", sum := "daa55818f06c06fda8708af4f5e5125515022d9085f71f96376a49bee738c045", func := "loop.example/tellersandliars/laws.FnBothTables", spec := "fnBothTables", unfollowed := true, recurses := true, apart := false }
def FnBothTablesSaid : Prop := fnBothTablesRow.holds Try.pinned (OpenSpec.ofChange fnBothTablesSpec)

/-- ITS FALSE NEIGHBOUR: 'it returns false'. Refute it at one input. -/
def fnBothTablesWrong : ChangeSpec := { name := "fnBothTables", fn := fun _ => fun
  | [d] => { results := [.lit (.bool false)], args := [d] }
  | _ => none }
def FnBothTablesWrongFalsely : Prop := fnBothTablesRow.holds Try.pinned (OpenSpec.ofChange fnBothTablesWrong)

/-- 'laws.FnWorldsIn': WHATEVER THE INPUT: true; the input reads as it did. -/
def fnWorldsInSpec : ChangeSpec := { name := "fnWorldsIn", fn := fun _ => fun
  | [d] => { results := [.lit (.bool true)], args := [d] }
  | _ => none }
def fnWorldsInRow : OpenClaim := { program := "ytpnjanaggkmbaaa", sum := "daa55818f06c06fda8708af4f5e5125515022d9085f71f96376a49bee738c045", func := "loop.example/tellersandliars/laws.FnWorldsIn", spec := "fnWorldsIn", apart := false }
def FnWorldsInSaid : Prop := fnWorldsInRow.holds Try.pinned (OpenSpec.ofChange fnWorldsInSpec)

/-- ITS FALSE NEIGHBOUR: 'it returns false'. Refute it at one input. -/
def fnWorldsInWrong : ChangeSpec := { name := "fnWorldsIn", fn := fun _ => fun
  | [d] => { results := [.lit (.bool false)], args := [d] }
  | _ => none }
def FnWorldsInWrongFalsely : Prop := fnWorldsInRow.holds Try.pinned (OpenSpec.ofChange fnWorldsInWrong)

/-- 'laws.FnTellersIn': WHATEVER THE INPUT: true; the input reads as it did. -/
def fnTellersInSpec : ChangeSpec := { name := "fnTellersIn", fn := fun _ => fun
  | [d] => { results := [.lit (.bool true)], args := [d] }
  | _ => none }
def fnTellersInRow : OpenClaim := { program := "ytpnjanaggkmbaaa", sum := "daa55818f06c06fda8708af4f5e5125515022d9085f71f96376a49bee738c045", func := "loop.example/tellersandliars/laws.FnTellersIn", spec := "fnTellersIn", apart := false }
def FnTellersInSaid : Prop := fnTellersInRow.holds Try.pinned (OpenSpec.ofChange fnTellersInSpec)

/-- ITS FALSE NEIGHBOUR: 'it returns false'. Refute it at one input. -/
def fnTellersInWrong : ChangeSpec := { name := "fnTellersIn", fn := fun _ => fun
  | [d] => { results := [.lit (.bool false)], args := [d] }
  | _ => none }
def FnTellersInWrongFalsely : Prop := fnTellersInRow.holds Try.pinned (OpenSpec.ofChange fnTellersInWrong)

/-- 'laws.FnOppositeTable': WHATEVER THE INPUT: true; the input reads as it did. -/
def fnOppositeTableSpec : ChangeSpec := { name := "fnOppositeTable", fn := fun _ => fun
  | [d] => { results := [.lit (.bool true)], args := [d] }
  | _ => none }
def fnOppositeTableRow : OpenClaim := { program := "ytpnjanaggkmbaaa", sum := "daa55818f06c06fda8708af4f5e5125515022d9085f71f96376a49bee738c045", func := "loop.example/tellersandliars/laws.FnOppositeTable", spec := "fnOppositeTable", unfollowed := true, recurses := true, apart := false }
def FnOppositeTableSaid : Prop := fnOppositeTableRow.holds Try.pinned (OpenSpec.ofChange fnOppositeTableSpec)

/-- ITS FALSE NEIGHBOUR: 'it returns false'. Refute it at one input. -/
def fnOppositeTableWrong : ChangeSpec := { name := "fnOppositeTable", fn := fun _ => fun
  | [d] => { results := [.lit (.bool false)], args := [d] }
  | _ => none }
def FnOppositeTableWrongFalsely : Prop := fnOppositeTableRow.holds Try.pinned (OpenSpec.ofChange fnOppositeTableWrong)

/-- 'laws.FnExactTermOk': WHATEVER THE INPUT: true; the input reads as it did. -/
def fnExactTermOkSpec : ChangeSpec := { name := "fnExactTermOk", fn := fun _ => fun
  | [d1, d2] => { results := [.lit (.bool true)], args := [d1, d2] }
  | _ => none }
def fnExactTermOkRow : OpenClaim := { program := "ytpnjanaggkmbaaa", sum := "daa55818f06c06fda8708af4f5e5125515022d9085f71f96376a49bee738c045", func := "loop.example/tellersandliars/laws.FnExactTermOk", spec := "fnExactTermOk", apart := false }
def FnExactTermOkSaid : Prop := fnExactTermOkRow.holds Try.pinned (OpenSpec.ofChange fnExactTermOkSpec)

/-- ITS FALSE NEIGHBOUR: 'it returns false'. Refute it at one input. -/
def fnExactTermOkWrong : ChangeSpec := { name := "fnExactTermOk", fn := fun _ => fun
  | [d1, d2] => { results := [.lit (.bool false)], args := [d1, d2] }
  | _ => none }
def FnExactTermOkWrongFalsely : Prop := fnExactTermOkRow.holds Try.pinned (OpenSpec.ofChange fnExactTermOkWrong)

/-- 'laws.FnExactPeopleRead': WHATEVER THE INPUT: true; the input reads as it did. -/
def fnExactPeopleReadSpec : ChangeSpec := { name := "fnExactPeopleRead", fn := fun _ => fun
  | [d1, d2] => { results := [.lit (.bool true)], args := [d1, d2] }
  | _ => none }
def fnExactPeopleReadRow : OpenClaim := { program := "ytpnjanaggkmbaaa", sum := "daa55818f06c06fda8708af4f5e5125515022d9085f71f96376a49bee738c045", func := "loop.example/tellersandliars/laws.FnExactPeopleRead", spec := "fnExactPeopleRead", apart := false }
def FnExactPeopleReadSaid : Prop := fnExactPeopleReadRow.holds Try.pinned (OpenSpec.ofChange fnExactPeopleReadSpec)

/-- ITS FALSE NEIGHBOUR: 'it returns false'. Refute it at one input. -/
def fnExactPeopleReadWrong : ChangeSpec := { name := "fnExactPeopleRead", fn := fun _ => fun
  | [d1, d2] => { results := [.lit (.bool false)], args := [d1, d2] }
  | _ => none }
def FnExactPeopleReadWrongFalsely : Prop := fnExactPeopleReadRow.holds Try.pinned (OpenSpec.ofChange fnExactPeopleReadWrong)

/-- 'laws.FnTermOk': WHATEVER THE INPUT: true; the input reads as it did. -/
def fnTermOkSpec : ChangeSpec := { name := "fnTermOk", fn := fun _ => fun
  | [d] => { results := [.lit (.bool true)], args := [d] }
  | _ => none }
def fnTermOkRow : OpenClaim := { program := "ytpnjanaggkmbaaa", sum := "daa55818f06c06fda8708af4f5e5125515022d9085f71f96376a49bee738c045", func := "loop.example/tellersandliars/laws.FnTermOk", spec := "fnTermOk", apart := false }
def FnTermOkSaid : Prop := fnTermOkRow.holds Try.pinned (OpenSpec.ofChange fnTermOkSpec)

/-- ITS FALSE NEIGHBOUR: 'it returns false'. Refute it at one input. -/
def fnTermOkWrong : ChangeSpec := { name := "fnTermOk", fn := fun _ => fun
  | [d] => { results := [.lit (.bool false)], args := [d] }
  | _ => none }
def FnTermOkWrongFalsely : Prop := fnTermOkRow.holds Try.pinned (OpenSpec.ofChange fnTermOkWrong)

/-- 'laws.FnExactMirrorTerm': WHATEVER THE INPUT: true; the input reads as it did. -/
def fnExactMirrorTermSpec : ChangeSpec := { name := "fnExactMirrorTerm", fn := fun _ => fun
  | [d1, d2] => { results := [.lit (.bool true)], args := [d1, d2] }
  | _ => none }
def fnExactMirrorTermRow : OpenClaim := { program := "ytpnjanaggkmbaaa", sum := "daa55818f06c06fda8708af4f5e5125515022d9085f71f96376a49bee738c045", func := "loop.example/tellersandliars/laws.FnExactMirrorTerm", spec := "fnExactMirrorTerm", apart := false }
def FnExactMirrorTermSaid : Prop := fnExactMirrorTermRow.holds Try.pinned (OpenSpec.ofChange fnExactMirrorTermSpec)

/-- ITS FALSE NEIGHBOUR: 'it returns false'. Refute it at one input. -/
def fnExactMirrorTermWrong : ChangeSpec := { name := "fnExactMirrorTerm", fn := fun _ => fun
  | [d1, d2] => { results := [.lit (.bool false)], args := [d1, d2] }
  | _ => none }
def FnExactMirrorTermWrongFalsely : Prop := fnExactMirrorTermRow.holds Try.pinned (OpenSpec.ofChange fnExactMirrorTermWrong)

/-- 'laws.FnMirrorTerm': WHATEVER THE INPUT: true; the input reads as it did. -/
def fnMirrorTermSpec : ChangeSpec := { name := "fnMirrorTerm", fn := fun _ => fun
  | [d] => { results := [.lit (.bool true)], args := [d] }
  | _ => none }
def fnMirrorTermRow : OpenClaim := { program := "ytpnjanaggkmbaaa", sum := "daa55818f06c06fda8708af4f5e5125515022d9085f71f96376a49bee738c045", func := "loop.example/tellersandliars/laws.FnMirrorTerm", spec := "fnMirrorTerm", apart := false }
def FnMirrorTermSaid : Prop := fnMirrorTermRow.holds Try.pinned (OpenSpec.ofChange fnMirrorTermSpec)

/-- ITS FALSE NEIGHBOUR: 'it returns false'. Refute it at one input. -/
def fnMirrorTermWrong : ChangeSpec := { name := "fnMirrorTerm", fn := fun _ => fun
  | [d] => { results := [.lit (.bool false)], args := [d] }
  | _ => none }
def FnMirrorTermWrongFalsely : Prop := fnMirrorTermRow.holds Try.pinned (OpenSpec.ofChange fnMirrorTermWrong)

/-- 'laws.FnExactClaimOk': WHATEVER THE INPUT: true; the input reads as it did. -/
def fnExactClaimOkSpec : ChangeSpec := { name := "fnExactClaimOk", fn := fun _ => fun
  | [d1, d2] => { results := [.lit (.bool true)], args := [d1, d2] }
  | _ => none }
def fnExactClaimOkRow : OpenClaim := { program := "ytpnjanaggkmbaaa", sum := "daa55818f06c06fda8708af4f5e5125515022d9085f71f96376a49bee738c045", func := "loop.example/tellersandliars/laws.FnExactClaimOk", spec := "fnExactClaimOk", apart := false }
def FnExactClaimOkSaid : Prop := fnExactClaimOkRow.holds Try.pinned (OpenSpec.ofChange fnExactClaimOkSpec)

/-- ITS FALSE NEIGHBOUR: 'it returns false'. Refute it at one input. -/
def fnExactClaimOkWrong : ChangeSpec := { name := "fnExactClaimOk", fn := fun _ => fun
  | [d1, d2] => { results := [.lit (.bool false)], args := [d1, d2] }
  | _ => none }
def FnExactClaimOkWrongFalsely : Prop := fnExactClaimOkRow.holds Try.pinned (OpenSpec.ofChange fnExactClaimOkWrong)

/-- 'laws.FnClaimOk': WHATEVER THE INPUT: true; the input reads as it did. -/
def fnClaimOkSpec : ChangeSpec := { name := "fnClaimOk", fn := fun _ => fun
  | [d] => { results := [.lit (.bool true)], args := [d] }
  | _ => none }
def fnClaimOkRow : OpenClaim := { program := "ytpnjanaggkmbaaa", sum := "daa55818f06c06fda8708af4f5e5125515022d9085f71f96376a49bee738c045", func := "loop.example/tellersandliars/laws.FnClaimOk", spec := "fnClaimOk", apart := false }
def FnClaimOkSaid : Prop := fnClaimOkRow.holds Try.pinned (OpenSpec.ofChange fnClaimOkSpec)

/-- ITS FALSE NEIGHBOUR: 'it returns false'. Refute it at one input. -/
def fnClaimOkWrong : ChangeSpec := { name := "fnClaimOk", fn := fun _ => fun
  | [d] => { results := [.lit (.bool false)], args := [d] }
  | _ => none }
def FnClaimOkWrongFalsely : Prop := fnClaimOkRow.holds Try.pinned (OpenSpec.ofChange fnClaimOkWrong)

/- THE SECOND FORM. 'bulk': how many values and letters a reading holds, each counted each time it is reached (what is shared counts as often as it is met; a slice's spare places count too). A statement '..UptoSaid' is the law's where the arguments, and the package variables that the reading takes, are together of bulk at most 1048576: NARROWER than '..Said'. Prove '..Said' where nothing that the law and all that it calls make is longer than what came in: it says more and counts as full. Else prove '..UptoSaid'. A law counts once. -/
mutual
def uptoBulk {H : Type} : DataW H → Nat
  | .lit (.string bytes) => bytes.length + 1
  | .lit _ => 1
  | .nil => 1
  | .ptr d => uptoBulk d + 1
  | .slice elems spare => uptoBulkAll elems + uptoBulkAll spare + 1
  | .agg parts => uptoBulkAll parts + 1
  | .iface _ d => uptoBulk d + 1
  | .map entries => uptoBulkEntries entries + 1
  | .held _ => 1
def uptoBulkAll {H : Type} : List (DataW H) → Nat
  | [] => 0
  | d :: r => uptoBulk d + uptoBulkAll r
def uptoBulkEntries {H : Type} : List (Lit × DataW H) → Nat
  | [] => 0
  | x :: r => uptoBulkEntry x + uptoBulkEntries r
def uptoBulkEntry {H : Type} : Lit × DataW H → Nat
  | (.string bytes, d) => bytes.length + uptoBulk d + 1
  | (_, d) => uptoBulk d + 1
 end
def uptoSmall : (H : Type) → List (DataW H) → Bool := fun _ ds => decide (uptoBulkAll ds ≤ 1048576)
def OpenSpec.upto (s : _root_.Go.ChangeSpec) : _root_.Go.OpenSpec := { _root_.Go.OpenSpec.ofChange s with cond := some uptoSmall }

/-- 'laws.FnTableOfWorlds', WHERE WHAT IT READS IS OF BULK AT MOST 1048576: true; the input reads as it did. -/
def fnTableOfWorldsUptoRow : OpenClaim := { program := "ytpnjanaggkmbaaa", sum := "daa55818f06c06fda8708af4f5e5125515022d9085f71f96376a49bee738c045", func := "loop.example/tellersandliars/laws.FnTableOfWorlds", spec := "fnTableOfWorlds", apart := false, narrowed := true }
def FnTableOfWorldsUptoSaid : Prop := fnTableOfWorldsUptoRow.holds Try.pinned (OpenSpec.upto fnTableOfWorldsSpec)

/-- 'laws.FnBothTables', WHERE WHAT IT READS IS OF BULK AT MOST 1048576: true; the input reads as it did. -/
def fnBothTablesUptoRow : OpenClaim := { program := "ytpnjanaggkmbaaa", sum := "daa55818f06c06fda8708af4f5e5125515022d9085f71f96376a49bee738c045", func := "loop.example/tellersandliars/laws.FnBothTables", spec := "fnBothTables", unfollowed := true, recurses := true, apart := false, narrowed := true }
def FnBothTablesUptoSaid : Prop := fnBothTablesUptoRow.holds Try.pinned (OpenSpec.upto fnBothTablesSpec)

/-- 'laws.FnWorldsIn', WHERE WHAT IT READS IS OF BULK AT MOST 1048576: true; the input reads as it did. -/
def fnWorldsInUptoRow : OpenClaim := { program := "ytpnjanaggkmbaaa", sum := "daa55818f06c06fda8708af4f5e5125515022d9085f71f96376a49bee738c045", func := "loop.example/tellersandliars/laws.FnWorldsIn", spec := "fnWorldsIn", apart := false, narrowed := true }
def FnWorldsInUptoSaid : Prop := fnWorldsInUptoRow.holds Try.pinned (OpenSpec.upto fnWorldsInSpec)

/-- 'laws.FnTellersIn', WHERE WHAT IT READS IS OF BULK AT MOST 1048576: true; the input reads as it did. -/
def fnTellersInUptoRow : OpenClaim := { program := "ytpnjanaggkmbaaa", sum := "daa55818f06c06fda8708af4f5e5125515022d9085f71f96376a49bee738c045", func := "loop.example/tellersandliars/laws.FnTellersIn", spec := "fnTellersIn", apart := false, narrowed := true }
def FnTellersInUptoSaid : Prop := fnTellersInUptoRow.holds Try.pinned (OpenSpec.upto fnTellersInSpec)

/-- 'laws.FnOppositeTable', WHERE WHAT IT READS IS OF BULK AT MOST 1048576: true; the input reads as it did. -/
def fnOppositeTableUptoRow : OpenClaim := { program := "ytpnjanaggkmbaaa", sum := "daa55818f06c06fda8708af4f5e5125515022d9085f71f96376a49bee738c045", func := "loop.example/tellersandliars/laws.FnOppositeTable", spec := "fnOppositeTable", unfollowed := true, recurses := true, apart := false, narrowed := true }
def FnOppositeTableUptoSaid : Prop := fnOppositeTableUptoRow.holds Try.pinned (OpenSpec.upto fnOppositeTableSpec)

/-- 'laws.FnExactTermOk', WHERE WHAT IT READS IS OF BULK AT MOST 1048576: true; the input reads as it did. -/
def fnExactTermOkUptoRow : OpenClaim := { program := "ytpnjanaggkmbaaa", sum := "daa55818f06c06fda8708af4f5e5125515022d9085f71f96376a49bee738c045", func := "loop.example/tellersandliars/laws.FnExactTermOk", spec := "fnExactTermOk", apart := false, narrowed := true }
def FnExactTermOkUptoSaid : Prop := fnExactTermOkUptoRow.holds Try.pinned (OpenSpec.upto fnExactTermOkSpec)

/-- 'laws.FnExactPeopleRead', WHERE WHAT IT READS IS OF BULK AT MOST 1048576: true; the input reads as it did. -/
def fnExactPeopleReadUptoRow : OpenClaim := { program := "ytpnjanaggkmbaaa", sum := "daa55818f06c06fda8708af4f5e5125515022d9085f71f96376a49bee738c045", func := "loop.example/tellersandliars/laws.FnExactPeopleRead", spec := "fnExactPeopleRead", apart := false, narrowed := true }
def FnExactPeopleReadUptoSaid : Prop := fnExactPeopleReadUptoRow.holds Try.pinned (OpenSpec.upto fnExactPeopleReadSpec)

/-- 'laws.FnTermOk', WHERE WHAT IT READS IS OF BULK AT MOST 1048576: true; the input reads as it did. -/
def fnTermOkUptoRow : OpenClaim := { program := "ytpnjanaggkmbaaa", sum := "daa55818f06c06fda8708af4f5e5125515022d9085f71f96376a49bee738c045", func := "loop.example/tellersandliars/laws.FnTermOk", spec := "fnTermOk", apart := false, narrowed := true }
def FnTermOkUptoSaid : Prop := fnTermOkUptoRow.holds Try.pinned (OpenSpec.upto fnTermOkSpec)

/-- 'laws.FnExactMirrorTerm', WHERE WHAT IT READS IS OF BULK AT MOST 1048576: true; the input reads as it did. -/
def fnExactMirrorTermUptoRow : OpenClaim := { program := "ytpnjanaggkmbaaa", sum := "daa55818f06c06fda8708af4f5e5125515022d9085f71f96376a49bee738c045", func := "loop.example/tellersandliars/laws.FnExactMirrorTerm", spec := "fnExactMirrorTerm", apart := false, narrowed := true }
def FnExactMirrorTermUptoSaid : Prop := fnExactMirrorTermUptoRow.holds Try.pinned (OpenSpec.upto fnExactMirrorTermSpec)

/-- 'laws.FnMirrorTerm', WHERE WHAT IT READS IS OF BULK AT MOST 1048576: true; the input reads as it did. -/
def fnMirrorTermUptoRow : OpenClaim := { program := "ytpnjanaggkmbaaa", sum := "daa55818f06c06fda8708af4f5e5125515022d9085f71f96376a49bee738c045", func := "loop.example/tellersandliars/laws.FnMirrorTerm", spec := "fnMirrorTerm", apart := false, narrowed := true }
def FnMirrorTermUptoSaid : Prop := fnMirrorTermUptoRow.holds Try.pinned (OpenSpec.upto fnMirrorTermSpec)

/-- 'laws.FnExactClaimOk', WHERE WHAT IT READS IS OF BULK AT MOST 1048576: true; the input reads as it did. -/
def fnExactClaimOkUptoRow : OpenClaim := { program := "ytpnjanaggkmbaaa", sum := "daa55818f06c06fda8708af4f5e5125515022d9085f71f96376a49bee738c045", func := "loop.example/tellersandliars/laws.FnExactClaimOk", spec := "fnExactClaimOk", apart := false, narrowed := true }
def FnExactClaimOkUptoSaid : Prop := fnExactClaimOkUptoRow.holds Try.pinned (OpenSpec.upto fnExactClaimOkSpec)

/-- 'laws.FnClaimOk', WHERE WHAT IT READS IS OF BULK AT MOST 1048576: true; the input reads as it did. -/
def fnClaimOkUptoRow : OpenClaim := { program := "ytpnjanaggkmbaaa", sum := "daa55818f06c06fda8708af4f5e5125515022d9085f71f96376a49bee738c045", func := "loop.example/tellersandliars/laws.FnClaimOk", spec := "fnClaimOk", apart := false, narrowed := true }
def FnClaimOkUptoSaid : Prop := fnClaimOkUptoRow.holds Try.pinned (OpenSpec.upto fnClaimOkSpec)

end Rows
end Go.Proofs.Ytpnjanaggkmbaaa
