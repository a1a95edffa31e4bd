import Derived.Test.YtanonhipicoigaaGreatDoorRows
import Derived.JoinedOf
set_option linter.unusedVariables false
set_option linter.unusedSimpArgs false
namespace Go.Proofs.YtanonhipicoigaaGreatDoor
open Go
theorem KL : (fun (P : Program) (f : FuncId) (fn : Func) (s : ChangeSpec) (c : OpenClaim) => ((c.inPlace == P.inPlace f))) Tryz.pinned.checked.prog 11 Tryz.f11 Rows.queueFullSpec Rows.queueFullRow = true := by kernel_rfl
end Go.Proofs.YtanonhipicoigaaGreatDoor
