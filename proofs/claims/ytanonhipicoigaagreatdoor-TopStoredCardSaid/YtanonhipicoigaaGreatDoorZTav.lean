import Derived.Test.YtanonhipicoigaaGreatDoorRows
import Derived.Test.YtanonhipicoigaaGreatDoorZTal
import Derived.ProofKit
import Derived.LaidMore
import Derived.LaidLaws
import Derived.MakeChecks
import Derived.Stop.Joined
import Derived.Test.YtanonhipicoigaaGreatDoorZTag
set_option linter.unusedVariables false
set_option linter.unusedSimpArgs false
set_option maxRecDepth 100000
namespace Go.Proofs.U
open Go.Proofs.YtanonhipicoigaaGreatDoor
open Go.ChangeShapes Go.WideShapes Go.ChangeAt Go.WideMaps Go.WideElems Go.RowKit
theorem g7 : Tryz.prog.globalNamed "math/bits.deBruijn64tab" = some 7 := by kernel_rfl
theorem g5 : Tryz.prog.globalNamed "strconv.ErrRange" = some 5 := by kernel_rfl
theorem g4 : Tryz.prog.globalNamed "strconv.ErrSyntax" = some 4 := by kernel_rfl
theorem t7 : (Tryz.prog.globals[7]?).map (·.type) = some 286 := by kernel_rfl
theorem t5 : (Tryz.prog.globals[5]?).map (·.type) = some 214 := by kernel_rfl
theorem t4 : (Tryz.prog.globals[4]?).map (·.type) = some 214 := by kernel_rfl
end Go.Proofs.U
