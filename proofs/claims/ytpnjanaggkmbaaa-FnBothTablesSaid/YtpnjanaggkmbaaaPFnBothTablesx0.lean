-- Made by a program of this session (wip/tools/patchprint.py), not by the kit itself.
import Derived.Test.YtpnjanaggkmbaaaProg
import Derived.Below
import Derived.Deep.Draws
import Derived.Deep.AppendLies
import Derived.Maps.AppendAt
import Derived.OwnWalk
import Derived.Laws.BytesArg
import Derived.Laws.MakeOwn
import Derived.Laws.OwnMore
import Derived.Deep.OwnRows
import Derived.Tactics
import Derived.Lib.ConvBytes
import Derived.Laws.Slices
import Derived.WalkKit
import Derived.KernelRfl
import Derived.RowKit3
import Derived.Deep.LoopGhost
import Derived.Deep.QuietTactic
import Derived.BigQuiet
import Derived.WideLaws
import Derived.Deep.DeepCutAuto
import Derived.Deep.CutBlock
import Derived.Deep.RegionHeld3
import Derived.Laws.Rows
import Derived.Lib.AppendStr
import Derived.ArgAppend
import Derived.Laws.IdiomCopy
import Derived.OrdersHeld
import Derived.Laws.BitsLemmas
import Derived.RowKit
import Derived.Test.YtpnjanaggkmbaaaWWords
import Derived.Test.YtpnjanaggkmbaaaWLast
import Derived.Test.YtpnjanaggkmbaaaWTab
import Derived.Test.YtpnjanaggkmbaaaWFour
import Derived.Test.YtpnjanaggkmbaaaWQPut
import Derived.Test.YtpnjanaggkmbaaaWApart
import Derived.Test.YtpnjanaggkmbaaaWArr
import Derived.Test.YtpnjanaggkmbaaaWZeros
import Derived.Test.YtpnjanaggkmbaaaWFoot
import Derived.Test.YtpnjanaggkmbaaaWKept
import Derived.Test.YtpnjanaggkmbaaaWShare
import Derived.Test.YtpnjanaggkmbaaaWN
import Derived.Test.YtpnjanaggkmbaaaWFootNe
import Derived.Test.YtpnjanaggkmbaaaWAt
import Derived.Test.YtpnjanaggkmbaaaWEqStruct
import Derived.Test.YtpnjanaggkmbaaaWRepsOne
import Derived.Test.YtpnjanaggkmbaaaWInv
import Derived.Test.YtpnjanaggkmbaaaWInvWords
import Derived.Test.YtpnjanaggkmbaaaWGuard
import Derived.Test.YtpnjanaggkmbaaaWNEv
import Derived.Test.YtpnjanaggkmbaaaWMore
namespace Go.Proofs.Ytpnjanaggkmbaaa.PFnBothTables
open Go.RowKit Go.Proofs.YtpnjanaggkmbaaaW.PrintWords Go.Proofs.YtpnjanaggkmbaaaW.PrintLast Go.Proofs.YtpnjanaggkmbaaaW.PrintMore
attribute [local go_sem] max2_int min2_int max_two min_two max_three min_three max_four min_four   -- for this text's walks alone
set_option linter.unusedVariables false
set_option linter.unusedSimpArgs false



def errW : Option Int → Value
  | none => .nilIface
  | some c => .iface 0 (.int .i64 c)
theorem errW_none : errW none = .nilIface := rfl
theorem errW_some (c : Int) : errW (some c) = .iface 0 (.int .i64 c) := rfl

theorem setCell_isSome (w : World) (a b : Addr) (v : Value) : ((w.setCell a v).cell? b).isSome = (w.cell? b).isSome := by
  simp only [World.setCell, World.cell?, Array.getElem?_modify]
  by_cases hb : a.block = b.block
  · simp only [hb, if_true]
    cases hh : w.heap[b.block]? with
    | none => simp
    | some x =>
      cases x with
      | cells c e f =>
        simp only [Option.map_some]
        by_cases h1 : b.spot.isSome = true
        · simp [h1]
        · by_cases h2 : a.spot.isSome = true
          · simp [h1, h2]
          · simp only [h1, h2]
            by_cases h3 : a.off = b.off
            · by_cases h4 : b.off < c.size <;> simp [h3, h4]
            · simp [h3]
      | _ => simp
  · simp [hb]

theorem info3 : (Try.prog.info? 3).map (fun i => (i.zero, i.size, i.bytes)) = some (some (.int .i64 0), 1, 8) := by kernel_rfl
theorem info5 : (Try.prog.info? 5).map (fun i => (i.zero, i.size, i.bytes)) = some (some (.int .u8 0), 1, 1) := by kernel_rfl
-- the values' own types

end Go.Proofs.Ytpnjanaggkmbaaa.PFnBothTables
