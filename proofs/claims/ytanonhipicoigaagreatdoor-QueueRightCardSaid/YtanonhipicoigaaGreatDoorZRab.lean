import Derived.Test.YtanonhipicoigaaGreatDoorRows
import Derived.JoinedOf
set_option linter.unusedVariables false
set_option linter.unusedSimpArgs false
set_option maxRecDepth 100000
namespace Go.Proofs.YtanonhipicoigaaGreatDoor
open Go
theorem yZ : (fun (P : Program) (f : FuncId) (fn : Func) (s : ChangeSpec) (c : OpenClaim) => ((c.unfollowed == P.unfollowed f))) Tryz.pinned.checked.prog 15 Tryz.f15 Rows.queueRightSpec Rows.queueRightRow = true := by kernel_rfl
end Go.Proofs.YtanonhipicoigaaGreatDoor
