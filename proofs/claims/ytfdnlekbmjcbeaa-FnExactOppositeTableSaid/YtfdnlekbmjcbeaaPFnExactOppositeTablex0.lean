-- Made by a program of this session (wip/tools/patchprint.py), not by the kit itself.
import Derived.Test.YtfdnlekbmjcbeaaProg
import Derived.Below
import Derived.Deep.Draws
import Derived.Deep.AppendLies
import Derived.Maps.AppendAt
import Derived.OwnWalk
import Derived.Laws.BytesArg
import Derived.Laws.MakeOwn
import Derived.Laws.OwnMore
import Derived.Deep.OwnRows
import Derived.Tactics
import Derived.Lib.ConvBytes
import Derived.Laws.Slices
import Derived.WalkKit
import Derived.KernelRfl
import Derived.RowKit3
import Derived.Deep.LoopGhost
import Derived.Deep.QuietTactic
import Derived.BigQuiet
import Derived.WideLaws
import Derived.Deep.DeepCutAuto
import Derived.Deep.CutBlock
import Derived.Deep.RegionHeld3
import Derived.Laws.Rows
import Derived.Lib.AppendStr
import Derived.ArgAppend
import Derived.Laws.IdiomCopy
import Derived.OrdersHeld
import Derived.Laws.BitsLemmas
import Derived.RowKit
import Derived.Test.YtfdnlekbmjcbeaaWWords
import Derived.Test.YtfdnlekbmjcbeaaWLast
import Derived.Test.YtfdnlekbmjcbeaaWTab
import Derived.Test.YtfdnlekbmjcbeaaWFour
import Derived.Test.YtfdnlekbmjcbeaaWQPut
import Derived.Test.YtfdnlekbmjcbeaaWApart
import Derived.Test.YtfdnlekbmjcbeaaWArr
import Derived.Test.YtfdnlekbmjcbeaaWZeros
import Derived.Test.YtfdnlekbmjcbeaaWFoot
import Derived.Test.YtfdnlekbmjcbeaaWKept
import Derived.Test.YtfdnlekbmjcbeaaWShare
import Derived.Test.YtfdnlekbmjcbeaaWN
import Derived.Test.YtfdnlekbmjcbeaaWFootNe
import Derived.Test.YtfdnlekbmjcbeaaWAt
import Derived.Test.YtfdnlekbmjcbeaaWEqStruct
import Derived.Test.YtfdnlekbmjcbeaaWRepsOne
import Derived.Test.YtfdnlekbmjcbeaaWInv
import Derived.Test.YtfdnlekbmjcbeaaWInvWords
import Derived.Test.YtfdnlekbmjcbeaaWGuard
import Derived.Test.YtfdnlekbmjcbeaaWNEv
import Derived.Test.YtfdnlekbmjcbeaaWMore
namespace Go.Proofs.Ytfdnlekbmjcbeaa.PFnExactOppositeTable
open Go.RowKit Go.Proofs.YtfdnlekbmjcbeaaW.PrintWords Go.Proofs.YtfdnlekbmjcbeaaW.PrintLast Go.Proofs.YtfdnlekbmjcbeaaW.PrintMore
attribute [local go_sem] max2_int min2_int max_two min_two max_three min_three max_four min_four   -- for this text's walks alone
set_option linter.unusedVariables false
set_option linter.unusedSimpArgs false



def errW : Option Int → Value
  | none => .nilIface
  | some c => .iface 0 (.int .i64 c)
theorem errW_none : errW none = .nilIface := rfl
theorem errW_some (c : Int) : errW (some c) = .iface 0 (.int .i64 c) := rfl

theorem setCell_isSome (w : World) (a b : Addr) (v : Value) : ((w.setCell a v).cell? b).isSome = (w.cell? b).isSome := by
  simp only [World.setCell, World.cell?, Array.getElem?_modify]
  by_cases hb : a.block = b.block
  · simp only [hb, if_true]
    cases hh : w.heap[b.block]? with
    | none => simp
    | some x =>
      cases x with
      | cells c e f =>
        simp only [Option.map_some]
        by_cases h1 : b.spot.isSome = true
        · simp [h1]
        · by_cases h2 : a.spot.isSome = true
          · simp [h1, h2]
          · simp only [h1, h2]
            by_cases h3 : a.off = b.off
            · by_cases h4 : b.off < c.size <;> simp [h3, h4]
            · simp [h3]
      | _ => simp
  · simp [hb]

-- the values' own types

end Go.Proofs.Ytfdnlekbmjcbeaa.PFnExactOppositeTable
