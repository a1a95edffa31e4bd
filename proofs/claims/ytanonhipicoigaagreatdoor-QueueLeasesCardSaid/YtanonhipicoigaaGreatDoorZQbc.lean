import Derived.Test.YtanonhipicoigaaGreatDoorRows
import Derived.JoinedOf
set_option linter.unusedVariables false
set_option linter.unusedSimpArgs false
namespace Go.Proofs.YtanonhipicoigaaGreatDoor
open Go
theorem DX : (fun (P : Program) (f : FuncId) (fn : Func) (s : ChangeSpec) (c : OpenClaim) => ((c.inPlace == P.inPlace f))) Tryz.pinned.checked.prog 12 Tryz.f12 Rows.queueLeasesSpec Rows.queueLeasesRow = true := by kernel_rfl
end Go.Proofs.YtanonhipicoigaaGreatDoor
