-- WRITTEN BY xprint.py, a program of this session over the kit's printer: by nobody's hand
import Derived.Test.YtioemnmabbdfgaaProg
import Derived.Below
import Derived.Deep.Draws
import Derived.Deep.AppendLies
import Derived.Maps.AppendAt
import Derived.OwnWalk
import Derived.Laws.BytesArg
import Derived.Laws.MakeOwn
import Derived.Laws.OwnMore
import Derived.Deep.OwnRows
import Derived.Tactics
import Derived.Lib.ConvBytes
import Derived.Laws.Slices
import Derived.WalkKit
import Derived.KernelRfl
import Derived.RowKit3
import Derived.Deep.LoopGhost
import Derived.Deep.QuietTactic
import Derived.BigQuiet
import Derived.WideLaws
import Derived.Deep.DeepCutAuto
import Derived.Deep.CutBlock
import Derived.Deep.RegionHeld3
import Derived.Laws.Rows
import Derived.Lib.AppendStr
import Derived.ArgAppend
import Derived.Laws.IdiomCopy
import Derived.OrdersHeld
import Derived.Laws.BitsLemmas
import Derived.RowKit
import Derived.LoopTactic
import Derived.Lib.Bytealg
import Derived.Laws.Externs
import Derived.Test.YtioemnmabbdfgaaWWords
import Derived.Test.YtioemnmabbdfgaaWLast
import Derived.Test.YtioemnmabbdfgaaWTab
import Derived.Test.YtioemnmabbdfgaaWFour
import Derived.Test.YtioemnmabbdfgaaWQPut
import Derived.Test.YtioemnmabbdfgaaWApart
import Derived.Test.YtioemnmabbdfgaaWArr
import Derived.Test.YtioemnmabbdfgaaWZeros
import Derived.Test.YtioemnmabbdfgaaWFoot
import Derived.Test.YtioemnmabbdfgaaWKept
import Derived.Test.YtioemnmabbdfgaaWShare
import Derived.Test.YtioemnmabbdfgaaWN
import Derived.Test.YtioemnmabbdfgaaWFootNe
import Derived.Test.YtioemnmabbdfgaaWAt
import Derived.Test.YtioemnmabbdfgaaWEqStruct
import Derived.Test.YtioemnmabbdfgaaWRepsOne
import Derived.Test.YtioemnmabbdfgaaWInv
import Derived.Test.YtioemnmabbdfgaaWInvWords
import Derived.Test.YtioemnmabbdfgaaWGuard
import Derived.Test.YtioemnmabbdfgaaWNEv
import Derived.Test.YtioemnmabbdfgaaWMore
import Derived.Test.YtioemnmabbdfgaaAid
namespace Go.Proofs.Ytioemnmabbdfgaa.PFnExactNameOk
open Go.RowKit Go.Proofs.YtioemnmabbdfgaaW.PrintWords Go.Proofs.YtioemnmabbdfgaaW.PrintLast Go.Proofs.YtioemnmabbdfgaaW.PrintMore
attribute [local go_sem] max2_int min2_int max_two min_two max_three min_three max_four min_four   -- for this text's walks alone
set_option linter.unusedVariables false
set_option linter.unusedSimpArgs false



def errW : Option Int → Value
  | none => .nilIface
  | some c => .iface 0 (.int .i64 c)
theorem errW_none : errW none = .nilIface := rfl
theorem errW_some (c : Int) : errW (some c) = .iface 0 (.int .i64 c) := rfl

-- the values' own types

end Go.Proofs.Ytioemnmabbdfgaa.PFnExactNameOk
