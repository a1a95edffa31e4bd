import Derived.Test.YtanonhipicoigaaGreatDoorRows
import Derived.JoinedOf
set_option linter.unusedVariables false
set_option linter.unusedSimpArgs false
namespace Go.Proofs.YtanonhipicoigaaGreatDoor
open Go
theorem EG : (fun (P : Program) (f : FuncId) (fn : Func) (s : ChangeSpec) (c : OpenClaim) => ((c.recurses == P.recurses f))) Tryz.pinned.checked.prog 10 Tryz.f10 Rows.queueOrderSpec Rows.queueOrderRow = true := by kernel_rfl
end Go.Proofs.YtanonhipicoigaaGreatDoor
