-- WRITTEN BY xprint.py, a program of this session over the kit's printer: by nobody's hand
-- PRESSED
import Derived.Test.YtmkllhkhiefbnaaDoorPress
import Derived.Test.YtmkllhkhiefbnaaDoorProg
import Derived.Below
import Derived.Deep.Draws
import Derived.Deep.AppendLies
import Derived.Maps.AppendAt
import Derived.OwnWalk
import Derived.Laws.BytesArg
import Derived.Laws.MakeOwn
import Derived.Laws.OwnMore
import Derived.Deep.OwnRows
import Derived.Tactics
import Derived.Lib.ConvBytes
import Derived.Laws.Slices
import Derived.WalkKit
import Derived.KernelRfl
import Derived.RowKit3
import Derived.Deep.LoopGhost
import Derived.Deep.QuietTactic
import Derived.BigQuiet
import Derived.WideLaws
import Derived.Deep.DeepCutAuto
import Derived.Deep.CutBlock
import Derived.Deep.RegionHeld3
import Derived.Laws.Rows
import Derived.Lib.AppendStr
import Derived.ArgAppend
import Derived.Laws.IdiomCopy
import Derived.OrdersHeld
import Derived.Laws.BitsLemmas
import Derived.RowKit
import Derived.LoopTactic
import Derived.Lib.Bytealg
import Derived.Laws.Externs
import Derived.Test.YtmkllhkhiefbnaaDoorWWords
import Derived.Test.YtmkllhkhiefbnaaDoorWLast
import Derived.Test.YtmkllhkhiefbnaaDoorWTab
import Derived.Test.YtmkllhkhiefbnaaDoorWApart
import Derived.Test.YtmkllhkhiefbnaaDoorWEqStruct
import Derived.Test.YtmkllhkhiefbnaaDoorWRepsOne
import Derived.Test.YtmkllhkhiefbnaaDoorWGuard
import Derived.Test.YtmkllhkhiefbnaaDoorSlim
import Derived.Test.YtmkllhkhiefbnaaDoorAid2
import Derived.Test.YtmkllhkhiefbnaaDoorShelf
namespace Go.Proofs.YtmkllhkhiefbnaaDoor.PFnExactValueText
open Go.RowKit Go.Proofs.YtmkllhkhiefbnaaDoorW.PrintWords Go.Proofs.YtmkllhkhiefbnaaDoorW.PrintLast Go.Proofs.YtmkllhkhiefbnaaDoorW.PrintMore
set_option linter.unusedVariables false
set_option linter.unusedSimpArgs false



def errW : Option Int → Value
 | none => .nilIface
 | some c => .iface 0 (.int .i64 c)
theorem errW_none : errW none = .nilIface := rfl
theorem errW_some (c : Int) : errW (some c) = .iface 0 (.int .i64 c) := rfl

-- the values' own types

end Go.Proofs.YtmkllhkhiefbnaaDoor.PFnExactValueText
