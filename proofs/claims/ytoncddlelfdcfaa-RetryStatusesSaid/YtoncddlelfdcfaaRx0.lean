-- Written by a program (the kit's printer, called by this session's myprint.sh), then mended by this session.
import Derived.Test.YtoncddlelfdcfaaProg
import Derived.Below
import Derived.Deep.Draws
import Derived.Deep.AppendLies
import Derived.Maps.AppendAt
import Derived.OwnWalk
import Derived.Laws.BytesArg
import Derived.Laws.MakeOwn
import Derived.Laws.OwnMore
import Derived.Deep.OwnRows
import Derived.Tactics
import Derived.Lib.ConvBytes
import Derived.Laws.Slices
import Derived.WalkKit
import Derived.KernelRfl
import Derived.RowKit3
import Derived.Deep.LoopGhost
import Derived.Deep.QuietTactic
import Derived.BigQuiet
import Derived.WideLaws
import Derived.Deep.DeepCutAuto
import Derived.Deep.CutBlock
import Derived.Deep.RegionHeld3
import Derived.Laws.Rows
import Derived.Lib.AppendStr
import Derived.ArgAppend
import Derived.Laws.IdiomCopy
import Derived.OrdersHeld
import Derived.Laws.BitsLemmas
import Derived.RowKit
import Derived.Test.YtoncddlelfdcfaaWWords
import Derived.Test.YtoncddlelfdcfaaWLast
import Derived.Test.YtoncddlelfdcfaaWTab
import Derived.Test.YtoncddlelfdcfaaWFour
import Derived.Test.YtoncddlelfdcfaaWQPut
import Derived.Test.YtoncddlelfdcfaaWApart
import Derived.Test.YtoncddlelfdcfaaWArr
import Derived.Test.YtoncddlelfdcfaaWZeros
import Derived.Test.YtoncddlelfdcfaaWFoot
import Derived.Test.YtoncddlelfdcfaaWKept
import Derived.Test.YtoncddlelfdcfaaWShare
import Derived.Test.YtoncddlelfdcfaaWN
import Derived.Test.YtoncddlelfdcfaaWFootNe
import Derived.Test.YtoncddlelfdcfaaWAt
import Derived.Test.YtoncddlelfdcfaaWEqStruct
import Derived.Test.YtoncddlelfdcfaaWRepsOne
import Derived.Test.YtoncddlelfdcfaaWInv
import Derived.Test.YtoncddlelfdcfaaWInvWords
import Derived.Test.YtoncddlelfdcfaaWGuard
import Derived.Test.YtoncddlelfdcfaaWNEv
import Derived.Test.YtoncddlelfdcfaaWMore
namespace Go.Proofs.Ytoncddlelfdcfaa.R
open Go.RowKit Go.Proofs.YtoncddlelfdcfaaW.PrintWords Go.Proofs.YtoncddlelfdcfaaW.PrintLast Go.Proofs.YtoncddlelfdcfaaW.PrintMore
attribute [local go_sem] max2_int min2_int max_two min_two max_three min_three max_four min_four   -- for this text's walks alone
set_option linter.unusedVariables false
set_option linter.unusedSimpArgs false



def errW : Option Int → Value
  | none => .nilIface
  | some c => .iface 0 (.int .i64 c)
theorem errW_none : errW none = .nilIface := rfl
theorem errW_some (c : Int) : errW (some c) = .iface 0 (.int .i64 c) := rfl

-- the values' own types

end Go.Proofs.Ytoncddlelfdcfaa.R
