import Derived.Test.YtanonhipicoigaaGreatDoorRows
import Derived.JoinedOf
set_option linter.unusedVariables false
set_option linter.unusedSimpArgs false
namespace Go.Proofs.YtanonhipicoigaaGreatDoor
open Go
theorem JG : (fun (P : Program) (f : FuncId) (fn : Func) (s : ChangeSpec) (c : OpenClaim) => (c.wf (OpenSpec.ofChange s))) Tryz.pinned.checked.prog 10 Tryz.f10 Rows.queueOrderSpec Rows.queueOrderRow = true := by kernel_rfl
theorem JH : (fun (P : Program) (f : FuncId) (fn : Func) (s : ChangeSpec) (c : OpenClaim) => (laidOutB P)) Tryz.pinned.checked.prog 10 Tryz.f10 Rows.queueOrderSpec Rows.queueOrderRow = true := by kernel_rfl
theorem JI : (fun (P : Program) (f : FuncId) (fn : Func) (s : ChangeSpec) (c : OpenClaim) => (mapsRowed P)) Tryz.pinned.checked.prog 10 Tryz.f10 Rows.queueOrderSpec Rows.queueOrderRow = true := by kernel_rfl
theorem JJ : (fun (P : Program) (f : FuncId) (fn : Func) (s : ChangeSpec) (c : OpenClaim) => (fn.params.all (P.readableRec ·))) Tryz.pinned.checked.prog 10 Tryz.f10 Rows.queueOrderSpec Rows.queueOrderRow = true := by kernel_rfl
theorem JK : (fun (P : Program) (f : FuncId) (fn : Func) (s : ChangeSpec) (c : OpenClaim) => (namedTie P c.named s.vars)) Tryz.pinned.checked.prog 10 Tryz.f10 Rows.queueOrderSpec Rows.queueOrderRow = true := by kernel_rfl
theorem JL : (fun (P : Program) (f : FuncId) (fn : Func) (s : ChangeSpec) (c : OpenClaim) => ((c.stops == []))) Tryz.pinned.checked.prog 10 Tryz.f10 Rows.queueOrderSpec Rows.queueOrderRow = true := by kernel_rfl
theorem JM : (fun (P : Program) (f : FuncId) (fn : Func) (s : ChangeSpec) (c : OpenClaim) => ((P.stops == []))) Tryz.pinned.checked.prog 10 Tryz.f10 Rows.queueOrderSpec Rows.queueOrderRow = true := by kernel_rfl
theorem JO : (fun (P : Program) (f : FuncId) (fn : Func) (s : ChangeSpec) (c : OpenClaim) => ((c.knobs == []))) Tryz.pinned.checked.prog 10 Tryz.f10 Rows.queueOrderSpec Rows.queueOrderRow = true := by kernel_rfl
theorem JQ : (fun (P : Program) (f : FuncId) (fn : Func) (s : ChangeSpec) (c : OpenClaim) => ((P.stopKnobs == []))) Tryz.pinned.checked.prog 10 Tryz.f10 Rows.queueOrderSpec Rows.queueOrderRow = true := by kernel_rfl
theorem EI : (fun (P : Program) (f : FuncId) (fn : Func) (s : ChangeSpec) (c : OpenClaim) => ((c.maps == (fn.params.toList ++ s.plain.varTypes P).any (P.mapsRec ·)))) Tryz.pinned.checked.prog 10 Tryz.f10 Rows.queueOrderSpec Rows.queueOrderRow = true := by kernel_rfl
theorem EJ : (fun (P : Program) (f : FuncId) (fn : Func) (s : ChangeSpec) (c : OpenClaim) => ((c.ifaces == (fn.params.toList ++ s.plain.varTypes P).any (P.ifacesRec ·)))) Tryz.pinned.checked.prog 10 Tryz.f10 Rows.queueOrderSpec Rows.queueOrderRow = true := by kernel_rfl
theorem EK : (fun (P : Program) (f : FuncId) (fn : Func) (s : ChangeSpec) (c : OpenClaim) => ((c.mapsOut == P.mapsAmong fn.resultTypes.toList))) Tryz.pinned.checked.prog 10 Tryz.f10 Rows.queueOrderSpec Rows.queueOrderRow = true := by kernel_rfl
theorem EL : (fun (P : Program) (f : FuncId) (fn : Func) (s : ChangeSpec) (c : OpenClaim) => ((c.loops == (fn.params.toList ++ s.plain.varTypes P).any (P.loopsFrom ·)))) Tryz.pinned.checked.prog 10 Tryz.f10 Rows.queueOrderSpec Rows.queueOrderRow = true := by kernel_rfl
theorem EM : (fun (P : Program) (f : FuncId) (fn : Func) (s : ChangeSpec) (c : OpenClaim) => ((c.wideKeys == (fn.params.toList ++ s.plain.varTypes P ++ fn.resultTypes.toList).any (P.wideKeysFrom ·)))) Tryz.pinned.checked.prog 10 Tryz.f10 Rows.queueOrderSpec Rows.queueOrderRow = true := by kernel_rfl
theorem EN : (fun (P : Program) (f : FuncId) (fn : Func) (s : ChangeSpec) (c : OpenClaim) => (s.vars.all (P.varReadable ·))) Tryz.pinned.checked.prog 10 Tryz.f10 Rows.queueOrderSpec Rows.queueOrderRow = true := by kernel_rfl
theorem EO : (fun (P : Program) (f : FuncId) (fn : Func) (s : ChangeSpec) (c : OpenClaim) => (fn.resultTypes.all (fun t => P.readableRec t && decide (t < P.types.size)))) Tryz.pinned.checked.prog 10 Tryz.f10 Rows.queueOrderSpec Rows.queueOrderRow = true := by kernel_rfl
theorem EP : (fun (P : Program) (f : FuncId) (fn : Func) (s : ChangeSpec) (c : OpenClaim) => ((c.ifacesOut == fn.resultTypes.toList.any (P.ifacesRec ·)))) Tryz.pinned.checked.prog 10 Tryz.f10 Rows.queueOrderSpec Rows.queueOrderRow = true := by kernel_rfl
theorem ER : (fun (P : Program) (f : FuncId) (fn : Func) (s : ChangeSpec) (c : OpenClaim) => ((c.loopsOut == fn.resultTypes.toList.any (P.loopsFrom ·)))) Tryz.pinned.checked.prog 10 Tryz.f10 Rows.queueOrderSpec Rows.queueOrderRow = true := by kernel_rfl
theorem ES : (fun (P : Program) (f : FuncId) (fn : Func) (s : ChangeSpec) (c : OpenClaim) => ((c.plainKeys == P.plainKeys))) Tryz.pinned.checked.prog 10 Tryz.f10 Rows.queueOrderSpec Rows.queueOrderRow = true := by kernel_rfl
theorem ET : (fun (P : Program) (f : FuncId) (fn : Func) (s : ChangeSpec) (c : OpenClaim) => (c.shortTexts.isNone)) Tryz.pinned.checked.prog 10 Tryz.f10 Rows.queueOrderSpec Rows.queueOrderRow = true := by kernel_rfl
theorem EU : (fun (P : Program) (f : FuncId) (fn : Func) (s : ChangeSpec) (c : OpenClaim) => (P.stopsHeard)) Tryz.pinned.checked.prog 10 Tryz.f10 Rows.queueOrderSpec Rows.queueOrderRow = true := by kernel_rfl
theorem EW : (fun (P : Program) (f : FuncId) (fn : Func) (s : ChangeSpec) (c : OpenClaim) => (P.mayEnter)) Tryz.pinned.checked.prog 10 Tryz.f10 Rows.queueOrderSpec Rows.queueOrderRow = true := by kernel_rfl
theorem EX : (fun (P : Program) (f : FuncId) (fn : Func) (s : ChangeSpec) (c : OpenClaim) => ((c.lifted == P.liftsFinal))) Tryz.pinned.checked.prog 10 Tryz.f10 Rows.queueOrderSpec Rows.queueOrderRow = true := by kernel_rfl
theorem EY : (fun (P : Program) (f : FuncId) (fn : Func) (s : ChangeSpec) (c : OpenClaim) => ((P.make == some c.make))) Tryz.pinned.checked.prog 10 Tryz.f10 Rows.queueOrderSpec Rows.queueOrderRow = true := by kernel_rfl
theorem EZ : (fun (P : Program) (f : FuncId) (fn : Func) (s : ChangeSpec) (c : OpenClaim) => ((c.kinds == (if c.domain.isEmpty then [] else fn.params.toList.map fun t => match P.underlying t with | some (.int k) => some k | _ => none)))) Tryz.pinned.checked.prog 10 Tryz.f10 Rows.queueOrderSpec Rows.queueOrderRow = true := by kernel_rfl
theorem E8 : (fun (P : Program) (f : FuncId) (fn : Func) (s : ChangeSpec) (c : OpenClaim) => ((c.pinned == c.pinnedBy))) Tryz.pinned.checked.prog 10 Tryz.f10 Rows.queueOrderSpec Rows.queueOrderRow = true := by kernel_rfl
theorem FC : (fun (P : Program) (f : FuncId) (fn : Func) (s : ChangeSpec) (c : OpenClaim) => ((c.veiled == (fn.params.toList ++ s.plain.varTypes P ++ fn.resultTypes.toList).any (P.veiledRec ·)))) Tryz.pinned.checked.prog 10 Tryz.f10 Rows.queueOrderSpec Rows.queueOrderRow = true := by kernel_rfl
theorem FD : (fun (P : Program) (f : FuncId) (fn : Func) (s : ChangeSpec) (c : OpenClaim) => (c.veiledFits P fn.params.toList (fn.params.toList ++ s.plain.varTypes P ++ fn.resultTypes.toList))) Tryz.pinned.checked.prog 10 Tryz.f10 Rows.queueOrderSpec Rows.queueOrderRow = true := by kernel_rfl
end Go.Proofs.YtanonhipicoigaaGreatDoor
