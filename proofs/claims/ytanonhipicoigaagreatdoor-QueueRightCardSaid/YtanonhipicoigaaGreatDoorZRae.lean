import Derived.Test.YtanonhipicoigaaGreatDoorRows
import Derived.JoinedOf
set_option linter.unusedVariables false
set_option linter.unusedSimpArgs false
set_option maxRecDepth 100000
namespace Go.Proofs.YtanonhipicoigaaGreatDoor
open Go
theorem BK : (fun (P : Program) (f : FuncId) (fn : Func) (s : ChangeSpec) (c : OpenClaim) => (c.wf (OpenSpec.ofChange s))) Tryz.pinned.checked.prog 15 Tryz.f15 Rows.queueRightSpec Rows.queueRightRow = true := by kernel_rfl
theorem BM : (fun (P : Program) (f : FuncId) (fn : Func) (s : ChangeSpec) (c : OpenClaim) => (laidOutB P)) Tryz.pinned.checked.prog 15 Tryz.f15 Rows.queueRightSpec Rows.queueRightRow = true := by kernel_rfl
theorem BN : (fun (P : Program) (f : FuncId) (fn : Func) (s : ChangeSpec) (c : OpenClaim) => (mapsRowed P)) Tryz.pinned.checked.prog 15 Tryz.f15 Rows.queueRightSpec Rows.queueRightRow = true := by kernel_rfl
theorem BO : (fun (P : Program) (f : FuncId) (fn : Func) (s : ChangeSpec) (c : OpenClaim) => (fn.params.all (P.readableRec ·))) Tryz.pinned.checked.prog 15 Tryz.f15 Rows.queueRightSpec Rows.queueRightRow = true := by kernel_rfl
theorem BP : (fun (P : Program) (f : FuncId) (fn : Func) (s : ChangeSpec) (c : OpenClaim) => (namedTie P c.named s.vars)) Tryz.pinned.checked.prog 15 Tryz.f15 Rows.queueRightSpec Rows.queueRightRow = true := by kernel_rfl
theorem BQ : (fun (P : Program) (f : FuncId) (fn : Func) (s : ChangeSpec) (c : OpenClaim) => ((c.stops == []))) Tryz.pinned.checked.prog 15 Tryz.f15 Rows.queueRightSpec Rows.queueRightRow = true := by kernel_rfl
theorem BR : (fun (P : Program) (f : FuncId) (fn : Func) (s : ChangeSpec) (c : OpenClaim) => ((P.stops == []))) Tryz.pinned.checked.prog 15 Tryz.f15 Rows.queueRightSpec Rows.queueRightRow = true := by kernel_rfl
theorem BU : (fun (P : Program) (f : FuncId) (fn : Func) (s : ChangeSpec) (c : OpenClaim) => ((c.knobs == []))) Tryz.pinned.checked.prog 15 Tryz.f15 Rows.queueRightSpec Rows.queueRightRow = true := by kernel_rfl
theorem BX : (fun (P : Program) (f : FuncId) (fn : Func) (s : ChangeSpec) (c : OpenClaim) => ((P.stopKnobs == []))) Tryz.pinned.checked.prog 15 Tryz.f15 Rows.queueRightSpec Rows.queueRightRow = true := by kernel_rfl
theorem y8 : (fun (P : Program) (f : FuncId) (fn : Func) (s : ChangeSpec) (c : OpenClaim) => ((c.maps == (fn.params.toList ++ s.plain.varTypes P).any (P.mapsRec ·)))) Tryz.pinned.checked.prog 15 Tryz.f15 Rows.queueRightSpec Rows.queueRightRow = true := by kernel_rfl
theorem y9 : (fun (P : Program) (f : FuncId) (fn : Func) (s : ChangeSpec) (c : OpenClaim) => ((c.ifaces == (fn.params.toList ++ s.plain.varTypes P).any (P.ifacesRec ·)))) Tryz.pinned.checked.prog 15 Tryz.f15 Rows.queueRightSpec Rows.queueRightRow = true := by kernel_rfl
theorem zB : (fun (P : Program) (f : FuncId) (fn : Func) (s : ChangeSpec) (c : OpenClaim) => ((c.mapsOut == P.mapsAmong fn.resultTypes.toList))) Tryz.pinned.checked.prog 15 Tryz.f15 Rows.queueRightSpec Rows.queueRightRow = true := by kernel_rfl
theorem zC : (fun (P : Program) (f : FuncId) (fn : Func) (s : ChangeSpec) (c : OpenClaim) => ((c.loops == (fn.params.toList ++ s.plain.varTypes P).any (P.loopsFrom ·)))) Tryz.pinned.checked.prog 15 Tryz.f15 Rows.queueRightSpec Rows.queueRightRow = true := by kernel_rfl
theorem zD : (fun (P : Program) (f : FuncId) (fn : Func) (s : ChangeSpec) (c : OpenClaim) => ((c.wideKeys == (fn.params.toList ++ s.plain.varTypes P ++ fn.resultTypes.toList).any (P.wideKeysFrom ·)))) Tryz.pinned.checked.prog 15 Tryz.f15 Rows.queueRightSpec Rows.queueRightRow = true := by kernel_rfl
theorem zF : (fun (P : Program) (f : FuncId) (fn : Func) (s : ChangeSpec) (c : OpenClaim) => (s.vars.all (P.varReadable ·))) Tryz.pinned.checked.prog 15 Tryz.f15 Rows.queueRightSpec Rows.queueRightRow = true := by kernel_rfl
theorem zG : (fun (P : Program) (f : FuncId) (fn : Func) (s : ChangeSpec) (c : OpenClaim) => (fn.resultTypes.all (fun t => P.readableRec t && decide (t < P.types.size)))) Tryz.pinned.checked.prog 15 Tryz.f15 Rows.queueRightSpec Rows.queueRightRow = true := by kernel_rfl
theorem zH : (fun (P : Program) (f : FuncId) (fn : Func) (s : ChangeSpec) (c : OpenClaim) => ((c.ifacesOut == fn.resultTypes.toList.any (P.ifacesRec ·)))) Tryz.pinned.checked.prog 15 Tryz.f15 Rows.queueRightSpec Rows.queueRightRow = true := by kernel_rfl
theorem zI : (fun (P : Program) (f : FuncId) (fn : Func) (s : ChangeSpec) (c : OpenClaim) => ((c.loopsOut == fn.resultTypes.toList.any (P.loopsFrom ·)))) Tryz.pinned.checked.prog 15 Tryz.f15 Rows.queueRightSpec Rows.queueRightRow = true := by kernel_rfl
theorem zJ : (fun (P : Program) (f : FuncId) (fn : Func) (s : ChangeSpec) (c : OpenClaim) => ((c.plainKeys == P.plainKeys))) Tryz.pinned.checked.prog 15 Tryz.f15 Rows.queueRightSpec Rows.queueRightRow = true := by kernel_rfl
theorem zK : (fun (P : Program) (f : FuncId) (fn : Func) (s : ChangeSpec) (c : OpenClaim) => (c.shortTexts.isNone)) Tryz.pinned.checked.prog 15 Tryz.f15 Rows.queueRightSpec Rows.queueRightRow = true := by kernel_rfl
theorem zL : (fun (P : Program) (f : FuncId) (fn : Func) (s : ChangeSpec) (c : OpenClaim) => (P.stopsHeard)) Tryz.pinned.checked.prog 15 Tryz.f15 Rows.queueRightSpec Rows.queueRightRow = true := by kernel_rfl
theorem zM : (fun (P : Program) (f : FuncId) (fn : Func) (s : ChangeSpec) (c : OpenClaim) => (P.mayEnter)) Tryz.pinned.checked.prog 15 Tryz.f15 Rows.queueRightSpec Rows.queueRightRow = true := by kernel_rfl
theorem zN : (fun (P : Program) (f : FuncId) (fn : Func) (s : ChangeSpec) (c : OpenClaim) => ((c.lifted == P.liftsFinal))) Tryz.pinned.checked.prog 15 Tryz.f15 Rows.queueRightSpec Rows.queueRightRow = true := by kernel_rfl
theorem zO : (fun (P : Program) (f : FuncId) (fn : Func) (s : ChangeSpec) (c : OpenClaim) => ((P.make == some c.make))) Tryz.pinned.checked.prog 15 Tryz.f15 Rows.queueRightSpec Rows.queueRightRow = true := by kernel_rfl
theorem zQ : (fun (P : Program) (f : FuncId) (fn : Func) (s : ChangeSpec) (c : OpenClaim) => ((c.kinds == (if c.domain.isEmpty then [] else fn.params.toList.map fun t => match P.underlying t with | some (.int k) => some k | _ => none)))) Tryz.pinned.checked.prog 15 Tryz.f15 Rows.queueRightSpec Rows.queueRightRow = true := by kernel_rfl
theorem zT : (fun (P : Program) (f : FuncId) (fn : Func) (s : ChangeSpec) (c : OpenClaim) => ((c.pinned == c.pinnedBy))) Tryz.pinned.checked.prog 15 Tryz.f15 Rows.queueRightSpec Rows.queueRightRow = true := by kernel_rfl
theorem zU : (fun (P : Program) (f : FuncId) (fn : Func) (s : ChangeSpec) (c : OpenClaim) => ((c.veiled == (fn.params.toList ++ s.plain.varTypes P ++ fn.resultTypes.toList).any (P.veiledRec ·)))) Tryz.pinned.checked.prog 15 Tryz.f15 Rows.queueRightSpec Rows.queueRightRow = true := by kernel_rfl
theorem zV : (fun (P : Program) (f : FuncId) (fn : Func) (s : ChangeSpec) (c : OpenClaim) => (c.veiledFits P fn.params.toList (fn.params.toList ++ s.plain.varTypes P ++ fn.resultTypes.toList))) Tryz.pinned.checked.prog 15 Tryz.f15 Rows.queueRightSpec Rows.queueRightRow = true := by kernel_rfl
end Go.Proofs.YtanonhipicoigaaGreatDoor
