/- Functions of the program as plain Lean functions, and proofs that its calls come to just their answers, where they tell one (written by a program of this session). -/
import Derived.Test.YtgogccjfoclakaaProg
import Derived.Below
import Derived.Deep.Draws
import Derived.Deep.AppendLies
import Derived.Maps.AppendAt
import Derived.OwnWalk
import Derived.Laws.BytesArg
import Derived.Laws.MakeOwn
import Derived.Laws.OwnMore
import Derived.Deep.OwnRows
import Derived.Tactics
import Derived.Lib.ConvBytes
import Derived.Laws.Slices
import Derived.WalkKit
import Derived.KernelRfl
import Derived.RowKit3
import Derived.Deep.LoopGhost
import Derived.Deep.QuietTactic
import Derived.BigQuiet
import Derived.WideLaws
import Derived.Deep.DeepCutAuto
import Derived.Deep.CutBlock
import Derived.Deep.RegionHeld3
import Derived.Laws.Rows
import Derived.Lib.AppendStr
import Derived.ArgAppend
import Derived.Laws.IdiomCopy
import Derived.OrdersHeld
import Derived.Laws.BitsLemmas
import Derived.RowKit
import Derived.Test.YtgogccjfoclakaaWWords
import Derived.Test.YtgogccjfoclakaaWLast
import Derived.Test.YtgogccjfoclakaaWTab
import Derived.Test.YtgogccjfoclakaaWFour
import Derived.Test.YtgogccjfoclakaaWQPut
import Derived.Test.YtgogccjfoclakaaWApart
import Derived.Test.YtgogccjfoclakaaWArr
import Derived.Test.YtgogccjfoclakaaWZeros
import Derived.Test.YtgogccjfoclakaaWFoot
import Derived.Test.YtgogccjfoclakaaWKept
import Derived.Test.YtgogccjfoclakaaWShare
import Derived.Test.YtgogccjfoclakaaWN
import Derived.Test.YtgogccjfoclakaaWFootNe
import Derived.Test.YtgogccjfoclakaaWAt
import Derived.Test.YtgogccjfoclakaaWEqStruct
import Derived.Test.YtgogccjfoclakaaWRepsOne
import Derived.Test.YtgogccjfoclakaaWInv
import Derived.Test.YtgogccjfoclakaaWInvWords
import Derived.Test.YtgogccjfoclakaaWGuard
import Derived.Test.YtgogccjfoclakaaWNEv
import Derived.Test.YtgogccjfoclakaaWMore
namespace Go.Proofs.Ytgogccjfoclakaa.P
open Go.RowKit Go.Proofs.YtgogccjfoclakaaW.PrintWords Go.Proofs.YtgogccjfoclakaaW.PrintLast Go.Proofs.YtgogccjfoclakaaW.PrintMore
attribute [local go_sem] max2_int min2_int max_two min_two max_three min_three max_four min_four   -- for this text's walks alone
set_option linter.unusedVariables false
set_option linter.unusedSimpArgs false



def errW : Option Int → Value
  | none => .nilIface
  | some c => .iface 0 (.int .i64 c)
theorem errW_none : errW none = .nilIface := rfl
theorem errW_some (c : Int) : errW (some c) = .iface 0 (.int .i64 c) := rfl

theorem info3 : (Try.prog.info? 3).map (fun i => (i.zero, i.size, i.bytes)) = some (some (.int .i64 0), 1, 8) := by kernel_rfl
-- the values' own types

end Go.Proofs.Ytgogccjfoclakaa.P
