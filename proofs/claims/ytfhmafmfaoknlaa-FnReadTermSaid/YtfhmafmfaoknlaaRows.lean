/-
  No cell of these rows narrows 'for every input' (looked for: loops, veiled, ifaces, maps, wideKeys, modest, calm, conditions, laid).
  DERIVED. THE GIVEN ROWS OF THIS SEAT. 12 by the template 'for every input the law returns true; each argument reads behind the call as it read before'; 0 by the template 'total and deterministic' (their statements: YtfhmafmfaoknlaaTotals.lean).
  GIVEN WITH THE SEED: the statements are not yours to turn. If you find one false, say at which input.
  Laid BY PROGRAM, IN A SANDBOX (cutbox-rows.mjs): the forced cells as the released guide's own fill.sh prints them over the translation 35d77e9e22acedc5… (all of the seat's roots in one cut). By AI agents, Wed Nov 11 2026. No macro, syntax, notation, axiom, sorry.
-/
import Derived.Test.YtfhmafmfaoknlaaChecked
import GoSem.Claim
import GoSem.ClaimJoined
import GoSem.ClaimMapViews
import Derived.JoinedTies
import Derived.KernelRfl
namespace Go.Proofs.Ytfhmafmfaoknlaa
/- THE CELL 'sum', in the pinned program and in every row, IS THE sha256 OF THE DUMP (.gsa) THAT YtfhmafmfaoknlaaProg.lean LOADS. Nothing in Lean hashes anything: it is a label: what it is worth is what the hold of that sum in a sandbox is worth. -/
noncomputable def Try.pinned : Pinned := { name := "ytfhmafmfaoknlaa", sum := "35d77e9e22acedc5d632a316554b24be559b2503e65facd4622ab68bbe7c3132", checked := Try.checked }
namespace Rows
def none {H : Type} : Left H := { results := [], args := [] }

/-- 'laws.FnReadTerm': WHATEVER THE INPUT: true; the input reads as it did. -/
def fnReadTermSpec : ChangeSpec := { name := "fnReadTerm", fn := fun _ => fun
  | [d] => { results := [.lit (.bool true)], args := [d] }
  | _ => none }
def fnReadTermRow : OpenClaim := { program := "ytfhmafmfaoknlaa", sum := "35d77e9e22acedc5d632a316554b24be559b2503e65facd4622ab68bbe7c3132", func := "loop.example/tellersandliars/laws.FnReadTerm", spec := "fnReadTerm", unfollowed := true, recurses := true, apart := false }
def FnReadTermSaid : Prop := fnReadTermRow.holds Try.pinned (OpenSpec.ofChange fnReadTermSpec)

/-- ITS FALSE NEIGHBOUR: 'it returns false'. Refute it at one input. -/
def fnReadTermWrong : ChangeSpec := { name := "fnReadTerm", fn := fun _ => fun
  | [d] => { results := [.lit (.bool false)], args := [d] }
  | _ => none }
def FnReadTermWrongFalsely : Prop := fnReadTermRow.holds Try.pinned (OpenSpec.ofChange fnReadTermWrong)

/-- 'laws.FnExactTermText': WHATEVER THE INPUT: true; the input reads as it did. -/
def fnExactTermTextSpec : ChangeSpec := { name := "fnExactTermText", fn := fun _ => fun
  | [d1, d2] => { results := [.lit (.bool true)], args := [d1, d2] }
  | _ => none }
def fnExactTermTextRow : OpenClaim := { program := "ytfhmafmfaoknlaa", sum := "35d77e9e22acedc5d632a316554b24be559b2503e65facd4622ab68bbe7c3132", func := "loop.example/tellersandliars/laws.FnExactTermText", spec := "fnExactTermText", recurses := true, apart := false }
def FnExactTermTextSaid : Prop := fnExactTermTextRow.holds Try.pinned (OpenSpec.ofChange fnExactTermTextSpec)

/-- ITS FALSE NEIGHBOUR: 'it returns false'. Refute it at one input. -/
def fnExactTermTextWrong : ChangeSpec := { name := "fnExactTermText", fn := fun _ => fun
  | [d1, d2] => { results := [.lit (.bool false)], args := [d1, d2] }
  | _ => none }
def FnExactTermTextWrongFalsely : Prop := fnExactTermTextRow.holds Try.pinned (OpenSpec.ofChange fnExactTermTextWrong)

/-- 'laws.FnPeopleRead': WHATEVER THE INPUT: true; the input reads as it did. -/
def fnPeopleReadSpec : ChangeSpec := { name := "fnPeopleRead", fn := fun _ => fun
  | [d] => { results := [.lit (.bool true)], args := [d] }
  | _ => none }
def fnPeopleReadRow : OpenClaim := { program := "ytfhmafmfaoknlaa", sum := "35d77e9e22acedc5d632a316554b24be559b2503e65facd4622ab68bbe7c3132", func := "loop.example/tellersandliars/laws.FnPeopleRead", spec := "fnPeopleRead", recurses := true, apart := false }
def FnPeopleReadSaid : Prop := fnPeopleReadRow.holds Try.pinned (OpenSpec.ofChange fnPeopleReadSpec)

/-- ITS FALSE NEIGHBOUR: 'it returns false'. Refute it at one input. -/
def fnPeopleReadWrong : ChangeSpec := { name := "fnPeopleRead", fn := fun _ => fun
  | [d] => { results := [.lit (.bool false)], args := [d] }
  | _ => none }
def FnPeopleReadWrongFalsely : Prop := fnPeopleReadRow.holds Try.pinned (OpenSpec.ofChange fnPeopleReadWrong)

/-- 'laws.FnExactReadTerm': WHATEVER THE INPUT: true; the input reads as it did. -/
def fnExactReadTermSpec : ChangeSpec := { name := "fnExactReadTerm", fn := fun _ => fun
  | [d1, d2] => { results := [.lit (.bool true)], args := [d1, d2] }
  | _ => none }
def fnExactReadTermRow : OpenClaim := { program := "ytfhmafmfaoknlaa", sum := "35d77e9e22acedc5d632a316554b24be559b2503e65facd4622ab68bbe7c3132", func := "loop.example/tellersandliars/laws.FnExactReadTerm", spec := "fnExactReadTerm", unfollowed := true, recurses := true, apart := false }
def FnExactReadTermSaid : Prop := fnExactReadTermRow.holds Try.pinned (OpenSpec.ofChange fnExactReadTermSpec)

/-- ITS FALSE NEIGHBOUR: 'it returns false'. Refute it at one input. -/
def fnExactReadTermWrong : ChangeSpec := { name := "fnExactReadTerm", fn := fun _ => fun
  | [d1, d2] => { results := [.lit (.bool false)], args := [d1, d2] }
  | _ => none }
def FnExactReadTermWrongFalsely : Prop := fnExactReadTermRow.holds Try.pinned (OpenSpec.ofChange fnExactReadTermWrong)

/-- 'laws.FnExactClaimTerm': WHATEVER THE INPUT: true; the input reads as it did. -/
def fnExactClaimTermSpec : ChangeSpec := { name := "fnExactClaimTerm", fn := fun _ => fun
  | [d1, d2] => { results := [.lit (.bool true)], args := [d1, d2] }
  | _ => none }
def fnExactClaimTermRow : OpenClaim := { program := "ytfhmafmfaoknlaa", sum := "35d77e9e22acedc5d632a316554b24be559b2503e65facd4622ab68bbe7c3132", func := "loop.example/tellersandliars/laws.FnExactClaimTerm", spec := "fnExactClaimTerm", apart := false }
def FnExactClaimTermSaid : Prop := fnExactClaimTermRow.holds Try.pinned (OpenSpec.ofChange fnExactClaimTermSpec)

/-- ITS FALSE NEIGHBOUR: 'it returns false'. Refute it at one input. -/
def fnExactClaimTermWrong : ChangeSpec := { name := "fnExactClaimTerm", fn := fun _ => fun
  | [d1, d2] => { results := [.lit (.bool false)], args := [d1, d2] }
  | _ => none }
def FnExactClaimTermWrongFalsely : Prop := fnExactClaimTermRow.holds Try.pinned (OpenSpec.ofChange fnExactClaimTermWrong)

/-- 'laws.FnExactStoryOk': WHATEVER THE INPUT: true; the input reads as it did. -/
def fnExactStoryOkSpec : ChangeSpec := { name := "fnExactStoryOk", fn := fun _ => fun
  | [d1, d2] => { results := [.lit (.bool true)], args := [d1, d2] }
  | _ => none }
def fnExactStoryOkRow : OpenClaim := { program := "ytfhmafmfaoknlaa", sum := "35d77e9e22acedc5d632a316554b24be559b2503e65facd4622ab68bbe7c3132", func := "loop.example/tellersandliars/laws.FnExactStoryOk", spec := "fnExactStoryOk", apart := false }
def FnExactStoryOkSaid : Prop := fnExactStoryOkRow.holds Try.pinned (OpenSpec.ofChange fnExactStoryOkSpec)

/-- ITS FALSE NEIGHBOUR: 'it returns false'. Refute it at one input. -/
def fnExactStoryOkWrong : ChangeSpec := { name := "fnExactStoryOk", fn := fun _ => fun
  | [d1, d2] => { results := [.lit (.bool false)], args := [d1, d2] }
  | _ => none }
def FnExactStoryOkWrongFalsely : Prop := fnExactStoryOkRow.holds Try.pinned (OpenSpec.ofChange fnExactStoryOkWrong)

/-- 'laws.FnOwnKind': WHATEVER THE INPUT: true; the input reads as it did. -/
def fnOwnKindSpec : ChangeSpec := { name := "fnOwnKind", fn := fun _ => fun
  | [d] => { results := [.lit (.bool true)], args := [d] }
  | _ => none }
def fnOwnKindRow : OpenClaim := { program := "ytfhmafmfaoknlaa", sum := "35d77e9e22acedc5d632a316554b24be559b2503e65facd4622ab68bbe7c3132", func := "loop.example/tellersandliars/laws.FnOwnKind", spec := "fnOwnKind", unfollowed := true, recurses := true, apart := false }
def FnOwnKindSaid : Prop := fnOwnKindRow.holds Try.pinned (OpenSpec.ofChange fnOwnKindSpec)

/-- ITS FALSE NEIGHBOUR: 'it returns false'. Refute it at one input. -/
def fnOwnKindWrong : ChangeSpec := { name := "fnOwnKind", fn := fun _ => fun
  | [d] => { results := [.lit (.bool false)], args := [d] }
  | _ => none }
def FnOwnKindWrongFalsely : Prop := fnOwnKindRow.holds Try.pinned (OpenSpec.ofChange fnOwnKindWrong)

/-- 'laws.FnExactDenyClaim': WHATEVER THE INPUT: true; the input reads as it did. -/
def fnExactDenyClaimSpec : ChangeSpec := { name := "fnExactDenyClaim", fn := fun _ => fun
  | [d1, d2] => { results := [.lit (.bool true)], args := [d1, d2] }
  | _ => none }
def fnExactDenyClaimRow : OpenClaim := { program := "ytfhmafmfaoknlaa", sum := "35d77e9e22acedc5d632a316554b24be559b2503e65facd4622ab68bbe7c3132", func := "loop.example/tellersandliars/laws.FnExactDenyClaim", spec := "fnExactDenyClaim", apart := false }
def FnExactDenyClaimSaid : Prop := fnExactDenyClaimRow.holds Try.pinned (OpenSpec.ofChange fnExactDenyClaimSpec)

/-- ITS FALSE NEIGHBOUR: 'it returns false'. Refute it at one input. -/
def fnExactDenyClaimWrong : ChangeSpec := { name := "fnExactDenyClaim", fn := fun _ => fun
  | [d1, d2] => { results := [.lit (.bool false)], args := [d1, d2] }
  | _ => none }
def FnExactDenyClaimWrongFalsely : Prop := fnExactDenyClaimRow.holds Try.pinned (OpenSpec.ofChange fnExactDenyClaimWrong)

/-- 'laws.FnStoryOk': WHATEVER THE INPUT: true; the input reads as it did. -/
def fnStoryOkSpec : ChangeSpec := { name := "fnStoryOk", fn := fun _ => fun
  | [d] => { results := [.lit (.bool true)], args := [d] }
  | _ => none }
def fnStoryOkRow : OpenClaim := { program := "ytfhmafmfaoknlaa", sum := "35d77e9e22acedc5d632a316554b24be559b2503e65facd4622ab68bbe7c3132", func := "loop.example/tellersandliars/laws.FnStoryOk", spec := "fnStoryOk", apart := false }
def FnStoryOkSaid : Prop := fnStoryOkRow.holds Try.pinned (OpenSpec.ofChange fnStoryOkSpec)

/-- ITS FALSE NEIGHBOUR: 'it returns false'. Refute it at one input. -/
def fnStoryOkWrong : ChangeSpec := { name := "fnStoryOk", fn := fun _ => fun
  | [d] => { results := [.lit (.bool false)], args := [d] }
  | _ => none }
def FnStoryOkWrongFalsely : Prop := fnStoryOkRow.holds Try.pinned (OpenSpec.ofChange fnStoryOkWrong)

/-- 'laws.FnClaimTerm': WHATEVER THE INPUT: true; the input reads as it did. -/
def fnClaimTermSpec : ChangeSpec := { name := "fnClaimTerm", fn := fun _ => fun
  | [d] => { results := [.lit (.bool true)], args := [d] }
  | _ => none }
def fnClaimTermRow : OpenClaim := { program := "ytfhmafmfaoknlaa", sum := "35d77e9e22acedc5d632a316554b24be559b2503e65facd4622ab68bbe7c3132", func := "loop.example/tellersandliars/laws.FnClaimTerm", spec := "fnClaimTerm", apart := false }
def FnClaimTermSaid : Prop := fnClaimTermRow.holds Try.pinned (OpenSpec.ofChange fnClaimTermSpec)

/-- ITS FALSE NEIGHBOUR: 'it returns false'. Refute it at one input. -/
def fnClaimTermWrong : ChangeSpec := { name := "fnClaimTerm", fn := fun _ => fun
  | [d] => { results := [.lit (.bool false)], args := [d] }
  | _ => none }
def FnClaimTermWrongFalsely : Prop := fnClaimTermRow.holds Try.pinned (OpenSpec.ofChange fnClaimTermWrong)

/-- 'laws.FnExactMaySay': WHATEVER THE INPUT: true; the input reads as it did. -/
def fnExactMaySaySpec : ChangeSpec := { name := "fnExactMaySay", fn := fun _ => fun
  | [d1, d2, d3] => { results := [.lit (.bool true)], args := [d1, d2, d3] }
  | _ => none }
def fnExactMaySayRow : OpenClaim := { program := "ytfhmafmfaoknlaa", sum := "35d77e9e22acedc5d632a316554b24be559b2503e65facd4622ab68bbe7c3132", func := "loop.example/tellersandliars/laws.FnExactMaySay", spec := "fnExactMaySay", recurses := true, apart := false }
def FnExactMaySaySaid : Prop := fnExactMaySayRow.holds Try.pinned (OpenSpec.ofChange fnExactMaySaySpec)

/-- ITS FALSE NEIGHBOUR: 'it returns false'. Refute it at one input. -/
def fnExactMaySayWrong : ChangeSpec := { name := "fnExactMaySay", fn := fun _ => fun
  | [d1, d2, d3] => { results := [.lit (.bool false)], args := [d1, d2, d3] }
  | _ => none }
def FnExactMaySayWrongFalsely : Prop := fnExactMaySayRow.holds Try.pinned (OpenSpec.ofChange fnExactMaySayWrong)

/-- 'laws.FnMirrorStory': WHATEVER THE INPUT: true; the input reads as it did. -/
def fnMirrorStorySpec : ChangeSpec := { name := "fnMirrorStory", fn := fun _ => fun
  | [d] => { results := [.lit (.bool true)], args := [d] }
  | _ => none }
def fnMirrorStoryRow : OpenClaim := { program := "ytfhmafmfaoknlaa", sum := "35d77e9e22acedc5d632a316554b24be559b2503e65facd4622ab68bbe7c3132", func := "loop.example/tellersandliars/laws.FnMirrorStory", spec := "fnMirrorStory", unfollowed := true, recurses := true, apart := false }
def FnMirrorStorySaid : Prop := fnMirrorStoryRow.holds Try.pinned (OpenSpec.ofChange fnMirrorStorySpec)

/-- ITS FALSE NEIGHBOUR: 'it returns false'. Refute it at one input. -/
def fnMirrorStoryWrong : ChangeSpec := { name := "fnMirrorStory", fn := fun _ => fun
  | [d] => { results := [.lit (.bool false)], args := [d] }
  | _ => none }
def FnMirrorStoryWrongFalsely : Prop := fnMirrorStoryRow.holds Try.pinned (OpenSpec.ofChange fnMirrorStoryWrong)

/- THE SECOND FORM. 'bulk': how many values and letters a reading holds, each counted each time it is reached (what is shared counts as often as it is met; a slice's spare places count too). A statement '..UptoSaid' is the law's where the arguments, and the package variables that the reading takes, are together of bulk at most 1048576: NARROWER than '..Said'. Prove '..Said' where nothing that the law and all that it calls make is longer than what came in: it says more and counts as full. Else prove '..UptoSaid'. A law counts once. -/
mutual
def uptoBulk {H : Type} : DataW H → Nat
  | .lit (.string bytes) => bytes.length + 1
  | .lit _ => 1
  | .nil => 1
  | .ptr d => uptoBulk d + 1
  | .slice elems spare => uptoBulkAll elems + uptoBulkAll spare + 1
  | .agg parts => uptoBulkAll parts + 1
  | .iface _ d => uptoBulk d + 1
  | .map entries => uptoBulkEntries entries + 1
  | .held _ => 1
def uptoBulkAll {H : Type} : List (DataW H) → Nat
  | [] => 0
  | d :: r => uptoBulk d + uptoBulkAll r
def uptoBulkEntries {H : Type} : List (Lit × DataW H) → Nat
  | [] => 0
  | x :: r => uptoBulkEntry x + uptoBulkEntries r
def uptoBulkEntry {H : Type} : Lit × DataW H → Nat
  | (.string bytes, d) => bytes.length + uptoBulk d + 1
  | (_, d) => uptoBulk d + 1
 end
def uptoSmall : (H : Type) → List (DataW H) → Bool := fun _ ds => decide (uptoBulkAll ds ≤ 1048576)
def OpenSpec.upto (s : _root_.Go.ChangeSpec) : _root_.Go.OpenSpec := { _root_.Go.OpenSpec.ofChange s with cond := some uptoSmall }

/-- 'laws.FnReadTerm', WHERE WHAT IT READS IS OF BULK AT MOST 1048576: true; the input reads as it did. -/
def fnReadTermUptoRow : OpenClaim := { program := "ytfhmafmfaoknlaa", sum := "35d77e9e22acedc5d632a316554b24be559b2503e65facd4622ab68bbe7c3132", func := "loop.example/tellersandliars/laws.FnReadTerm", spec := "fnReadTerm", unfollowed := true, recurses := true, apart := false, narrowed := true }
def FnReadTermUptoSaid : Prop := fnReadTermUptoRow.holds Try.pinned (OpenSpec.upto fnReadTermSpec)

/-- 'laws.FnExactTermText', WHERE WHAT IT READS IS OF BULK AT MOST 1048576: true; the input reads as it did. -/
def fnExactTermTextUptoRow : OpenClaim := { program := "ytfhmafmfaoknlaa", sum := "35d77e9e22acedc5d632a316554b24be559b2503e65facd4622ab68bbe7c3132", func := "loop.example/tellersandliars/laws.FnExactTermText", spec := "fnExactTermText", recurses := true, apart := false, narrowed := true }
def FnExactTermTextUptoSaid : Prop := fnExactTermTextUptoRow.holds Try.pinned (OpenSpec.upto fnExactTermTextSpec)

/-- 'laws.FnPeopleRead', WHERE WHAT IT READS IS OF BULK AT MOST 1048576: true; the input reads as it did. -/
def fnPeopleReadUptoRow : OpenClaim := { program := "ytfhmafmfaoknlaa", sum := "35d77e9e22acedc5d632a316554b24be559b2503e65facd4622ab68bbe7c3132", func := "loop.example/tellersandliars/laws.FnPeopleRead", spec := "fnPeopleRead", recurses := true, apart := false, narrowed := true }
def FnPeopleReadUptoSaid : Prop := fnPeopleReadUptoRow.holds Try.pinned (OpenSpec.upto fnPeopleReadSpec)

/-- 'laws.FnExactReadTerm', WHERE WHAT IT READS IS OF BULK AT MOST 1048576: true; the input reads as it did. -/
def fnExactReadTermUptoRow : OpenClaim := { program := "ytfhmafmfaoknlaa", sum := "35d77e9e22acedc5d632a316554b24be559b2503e65facd4622ab68bbe7c3132", func := "loop.example/tellersandliars/laws.FnExactReadTerm", spec := "fnExactReadTerm", unfollowed := true, recurses := true, apart := false, narrowed := true }
def FnExactReadTermUptoSaid : Prop := fnExactReadTermUptoRow.holds Try.pinned (OpenSpec.upto fnExactReadTermSpec)

/-- 'laws.FnExactClaimTerm', WHERE WHAT IT READS IS OF BULK AT MOST 1048576: true; the input reads as it did. -/
def fnExactClaimTermUptoRow : OpenClaim := { program := "ytfhmafmfaoknlaa", sum := "35d77e9e22acedc5d632a316554b24be559b2503e65facd4622ab68bbe7c3132", func := "loop.example/tellersandliars/laws.FnExactClaimTerm", spec := "fnExactClaimTerm", apart := false, narrowed := true }
def FnExactClaimTermUptoSaid : Prop := fnExactClaimTermUptoRow.holds Try.pinned (OpenSpec.upto fnExactClaimTermSpec)

/-- 'laws.FnExactStoryOk', WHERE WHAT IT READS IS OF BULK AT MOST 1048576: true; the input reads as it did. -/
def fnExactStoryOkUptoRow : OpenClaim := { program := "ytfhmafmfaoknlaa", sum := "35d77e9e22acedc5d632a316554b24be559b2503e65facd4622ab68bbe7c3132", func := "loop.example/tellersandliars/laws.FnExactStoryOk", spec := "fnExactStoryOk", apart := false, narrowed := true }
def FnExactStoryOkUptoSaid : Prop := fnExactStoryOkUptoRow.holds Try.pinned (OpenSpec.upto fnExactStoryOkSpec)

/-- 'laws.FnOwnKind', WHERE WHAT IT READS IS OF BULK AT MOST 1048576: true; the input reads as it did. -/
def fnOwnKindUptoRow : OpenClaim := { program := "ytfhmafmfaoknlaa", sum := "35d77e9e22acedc5d632a316554b24be559b2503e65facd4622ab68bbe7c3132", func := "loop.example/tellersandliars/laws.FnOwnKind", spec := "fnOwnKind", unfollowed := true, recurses := true, apart := false, narrowed := true }
def FnOwnKindUptoSaid : Prop := fnOwnKindUptoRow.holds Try.pinned (OpenSpec.upto fnOwnKindSpec)

/-- 'laws.FnExactDenyClaim', WHERE WHAT IT READS IS OF BULK AT MOST 1048576: true; the input reads as it did. -/
def fnExactDenyClaimUptoRow : OpenClaim := { program := "ytfhmafmfaoknlaa", sum := "35d77e9e22acedc5d632a316554b24be559b2503e65facd4622ab68bbe7c3132", func := "loop.example/tellersandliars/laws.FnExactDenyClaim", spec := "fnExactDenyClaim", apart := false, narrowed := true }
def FnExactDenyClaimUptoSaid : Prop := fnExactDenyClaimUptoRow.holds Try.pinned (OpenSpec.upto fnExactDenyClaimSpec)

/-- 'laws.FnStoryOk', WHERE WHAT IT READS IS OF BULK AT MOST 1048576: true; the input reads as it did. -/
def fnStoryOkUptoRow : OpenClaim := { program := "ytfhmafmfaoknlaa", sum := "35d77e9e22acedc5d632a316554b24be559b2503e65facd4622ab68bbe7c3132", func := "loop.example/tellersandliars/laws.FnStoryOk", spec := "fnStoryOk", apart := false, narrowed := true }
def FnStoryOkUptoSaid : Prop := fnStoryOkUptoRow.holds Try.pinned (OpenSpec.upto fnStoryOkSpec)

/-- 'laws.FnClaimTerm', WHERE WHAT IT READS IS OF BULK AT MOST 1048576: true; the input reads as it did. -/
def fnClaimTermUptoRow : OpenClaim := { program := "ytfhmafmfaoknlaa", sum := "35d77e9e22acedc5d632a316554b24be559b2503e65facd4622ab68bbe7c3132", func := "loop.example/tellersandliars/laws.FnClaimTerm", spec := "fnClaimTerm", apart := false, narrowed := true }
def FnClaimTermUptoSaid : Prop := fnClaimTermUptoRow.holds Try.pinned (OpenSpec.upto fnClaimTermSpec)

/-- 'laws.FnExactMaySay', WHERE WHAT IT READS IS OF BULK AT MOST 1048576: true; the input reads as it did. -/
def fnExactMaySayUptoRow : OpenClaim := { program := "ytfhmafmfaoknlaa", sum := "35d77e9e22acedc5d632a316554b24be559b2503e65facd4622ab68bbe7c3132", func := "loop.example/tellersandliars/laws.FnExactMaySay", spec := "fnExactMaySay", recurses := true, apart := false, narrowed := true }
def FnExactMaySayUptoSaid : Prop := fnExactMaySayUptoRow.holds Try.pinned (OpenSpec.upto fnExactMaySaySpec)

/-- 'laws.FnMirrorStory', WHERE WHAT IT READS IS OF BULK AT MOST 1048576: true; the input reads as it did. -/
def fnMirrorStoryUptoRow : OpenClaim := { program := "ytfhmafmfaoknlaa", sum := "35d77e9e22acedc5d632a316554b24be559b2503e65facd4622ab68bbe7c3132", func := "loop.example/tellersandliars/laws.FnMirrorStory", spec := "fnMirrorStory", unfollowed := true, recurses := true, apart := false, narrowed := true }
def FnMirrorStoryUptoSaid : Prop := fnMirrorStoryUptoRow.holds Try.pinned (OpenSpec.upto fnMirrorStorySpec)

end Rows
end Go.Proofs.Ytfhmafmfaoknlaa
