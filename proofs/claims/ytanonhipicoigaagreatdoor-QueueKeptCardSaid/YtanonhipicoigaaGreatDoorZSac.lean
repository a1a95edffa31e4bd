import Derived.Test.YtanonhipicoigaaGreatDoorRows
import Derived.JoinedOf
set_option linter.unusedVariables false
set_option linter.unusedSimpArgs false
set_option maxRecDepth 100000
namespace Go.Proofs.YtanonhipicoigaaGreatDoor
open Go
theorem BK : (fun (P : Program) (f : FuncId) (fn : Func) (s : ChangeSpec) (c : OpenClaim) => ((c.recurses == P.recurses f))) Tryz.pinned.checked.prog 16 Tryz.f16 Rows.queueKeptSpec Rows.queueKeptRow = true := by kernel_rfl
end Go.Proofs.YtanonhipicoigaaGreatDoor
