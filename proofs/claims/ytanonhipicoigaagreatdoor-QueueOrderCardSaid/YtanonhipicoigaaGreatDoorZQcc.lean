import Derived.Test.YtanonhipicoigaaGreatDoorRows
import Derived.JoinedOf
set_option linter.unusedVariables false
set_option linter.unusedSimpArgs false
namespace Go.Proofs.YtanonhipicoigaaGreatDoor
open Go
theorem JF : (fun (P : Program) (f : FuncId) (fn : Func) (s : ChangeSpec) (c : OpenClaim) => ((c.inPlace == P.inPlace f))) Tryz.pinned.checked.prog 10 Tryz.f10 Rows.queueOrderSpec Rows.queueOrderRow = true := by kernel_rfl
end Go.Proofs.YtanonhipicoigaaGreatDoor
