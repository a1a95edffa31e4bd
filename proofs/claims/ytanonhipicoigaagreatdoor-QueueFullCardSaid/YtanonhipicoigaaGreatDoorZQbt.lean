import Derived.Test.YtanonhipicoigaaGreatDoorRows
import Derived.JoinedOf
set_option linter.unusedVariables false
set_option linter.unusedSimpArgs false
namespace Go.Proofs.YtanonhipicoigaaGreatDoor
open Go
theorem KN : (fun (P : Program) (f : FuncId) (fn : Func) (s : ChangeSpec) (c : OpenClaim) => (c.wf (OpenSpec.ofChange s))) Tryz.pinned.checked.prog 11 Tryz.f11 Rows.queueFullSpec Rows.queueFullRow = true := by kernel_rfl
theorem KO : (fun (P : Program) (f : FuncId) (fn : Func) (s : ChangeSpec) (c : OpenClaim) => (laidOutB P)) Tryz.pinned.checked.prog 11 Tryz.f11 Rows.queueFullSpec Rows.queueFullRow = true := by kernel_rfl
theorem KP : (fun (P : Program) (f : FuncId) (fn : Func) (s : ChangeSpec) (c : OpenClaim) => (mapsRowed P)) Tryz.pinned.checked.prog 11 Tryz.f11 Rows.queueFullSpec Rows.queueFullRow = true := by kernel_rfl
theorem KQ : (fun (P : Program) (f : FuncId) (fn : Func) (s : ChangeSpec) (c : OpenClaim) => (fn.params.all (P.readableRec ·))) Tryz.pinned.checked.prog 11 Tryz.f11 Rows.queueFullSpec Rows.queueFullRow = true := by kernel_rfl
theorem KR : (fun (P : Program) (f : FuncId) (fn : Func) (s : ChangeSpec) (c : OpenClaim) => (namedTie P c.named s.vars)) Tryz.pinned.checked.prog 11 Tryz.f11 Rows.queueFullSpec Rows.queueFullRow = true := by kernel_rfl
theorem KT : (fun (P : Program) (f : FuncId) (fn : Func) (s : ChangeSpec) (c : OpenClaim) => ((c.stops == []))) Tryz.pinned.checked.prog 11 Tryz.f11 Rows.queueFullSpec Rows.queueFullRow = true := by kernel_rfl
theorem KU : (fun (P : Program) (f : FuncId) (fn : Func) (s : ChangeSpec) (c : OpenClaim) => ((P.stops == []))) Tryz.pinned.checked.prog 11 Tryz.f11 Rows.queueFullSpec Rows.queueFullRow = true := by kernel_rfl
theorem KW : (fun (P : Program) (f : FuncId) (fn : Func) (s : ChangeSpec) (c : OpenClaim) => ((c.knobs == []))) Tryz.pinned.checked.prog 11 Tryz.f11 Rows.queueFullSpec Rows.queueFullRow = true := by kernel_rfl
theorem KX : (fun (P : Program) (f : FuncId) (fn : Func) (s : ChangeSpec) (c : OpenClaim) => ((P.stopKnobs == []))) Tryz.pinned.checked.prog 11 Tryz.f11 Rows.queueFullSpec Rows.queueFullRow = true := by kernel_rfl
theorem IK : (fun (P : Program) (f : FuncId) (fn : Func) (s : ChangeSpec) (c : OpenClaim) => ((c.maps == (fn.params.toList ++ s.plain.varTypes P).any (P.mapsRec ·)))) Tryz.pinned.checked.prog 11 Tryz.f11 Rows.queueFullSpec Rows.queueFullRow = true := by kernel_rfl
theorem IL : (fun (P : Program) (f : FuncId) (fn : Func) (s : ChangeSpec) (c : OpenClaim) => ((c.ifaces == (fn.params.toList ++ s.plain.varTypes P).any (P.ifacesRec ·)))) Tryz.pinned.checked.prog 11 Tryz.f11 Rows.queueFullSpec Rows.queueFullRow = true := by kernel_rfl
theorem IQ : (fun (P : Program) (f : FuncId) (fn : Func) (s : ChangeSpec) (c : OpenClaim) => ((c.mapsOut == P.mapsAmong fn.resultTypes.toList))) Tryz.pinned.checked.prog 11 Tryz.f11 Rows.queueFullSpec Rows.queueFullRow = true := by kernel_rfl
theorem IU : (fun (P : Program) (f : FuncId) (fn : Func) (s : ChangeSpec) (c : OpenClaim) => ((c.loops == (fn.params.toList ++ s.plain.varTypes P).any (P.loopsFrom ·)))) Tryz.pinned.checked.prog 11 Tryz.f11 Rows.queueFullSpec Rows.queueFullRow = true := by kernel_rfl
theorem IV : (fun (P : Program) (f : FuncId) (fn : Func) (s : ChangeSpec) (c : OpenClaim) => ((c.wideKeys == (fn.params.toList ++ s.plain.varTypes P ++ fn.resultTypes.toList).any (P.wideKeysFrom ·)))) Tryz.pinned.checked.prog 11 Tryz.f11 Rows.queueFullSpec Rows.queueFullRow = true := by kernel_rfl
theorem IW : (fun (P : Program) (f : FuncId) (fn : Func) (s : ChangeSpec) (c : OpenClaim) => (s.vars.all (P.varReadable ·))) Tryz.pinned.checked.prog 11 Tryz.f11 Rows.queueFullSpec Rows.queueFullRow = true := by kernel_rfl
theorem IX : (fun (P : Program) (f : FuncId) (fn : Func) (s : ChangeSpec) (c : OpenClaim) => (fn.resultTypes.all (fun t => P.readableRec t && decide (t < P.types.size)))) Tryz.pinned.checked.prog 11 Tryz.f11 Rows.queueFullSpec Rows.queueFullRow = true := by kernel_rfl
theorem IY : (fun (P : Program) (f : FuncId) (fn : Func) (s : ChangeSpec) (c : OpenClaim) => ((c.ifacesOut == fn.resultTypes.toList.any (P.ifacesRec ·)))) Tryz.pinned.checked.prog 11 Tryz.f11 Rows.queueFullSpec Rows.queueFullRow = true := by kernel_rfl
theorem IZ : (fun (P : Program) (f : FuncId) (fn : Func) (s : ChangeSpec) (c : OpenClaim) => ((c.loopsOut == fn.resultTypes.toList.any (P.loopsFrom ·)))) Tryz.pinned.checked.prog 11 Tryz.f11 Rows.queueFullSpec Rows.queueFullRow = true := by kernel_rfl
theorem I4 : (fun (P : Program) (f : FuncId) (fn : Func) (s : ChangeSpec) (c : OpenClaim) => ((c.plainKeys == P.plainKeys))) Tryz.pinned.checked.prog 11 Tryz.f11 Rows.queueFullSpec Rows.queueFullRow = true := by kernel_rfl
theorem I5 : (fun (P : Program) (f : FuncId) (fn : Func) (s : ChangeSpec) (c : OpenClaim) => (c.shortTexts.isNone)) Tryz.pinned.checked.prog 11 Tryz.f11 Rows.queueFullSpec Rows.queueFullRow = true := by kernel_rfl
theorem I7 : (fun (P : Program) (f : FuncId) (fn : Func) (s : ChangeSpec) (c : OpenClaim) => (P.stopsHeard)) Tryz.pinned.checked.prog 11 Tryz.f11 Rows.queueFullSpec Rows.queueFullRow = true := by kernel_rfl
theorem I8 : (fun (P : Program) (f : FuncId) (fn : Func) (s : ChangeSpec) (c : OpenClaim) => (P.mayEnter)) Tryz.pinned.checked.prog 11 Tryz.f11 Rows.queueFullSpec Rows.queueFullRow = true := by kernel_rfl
theorem I9 : (fun (P : Program) (f : FuncId) (fn : Func) (s : ChangeSpec) (c : OpenClaim) => ((c.lifted == P.liftsFinal))) Tryz.pinned.checked.prog 11 Tryz.f11 Rows.queueFullSpec Rows.queueFullRow = true := by kernel_rfl
theorem JA : (fun (P : Program) (f : FuncId) (fn : Func) (s : ChangeSpec) (c : OpenClaim) => ((P.make == some c.make))) Tryz.pinned.checked.prog 11 Tryz.f11 Rows.queueFullSpec Rows.queueFullRow = true := by kernel_rfl
theorem JB : (fun (P : Program) (f : FuncId) (fn : Func) (s : ChangeSpec) (c : OpenClaim) => ((c.kinds == (if c.domain.isEmpty then [] else fn.params.toList.map fun t => match P.underlying t with | some (.int k) => some k | _ => none)))) Tryz.pinned.checked.prog 11 Tryz.f11 Rows.queueFullSpec Rows.queueFullRow = true := by kernel_rfl
theorem JC : (fun (P : Program) (f : FuncId) (fn : Func) (s : ChangeSpec) (c : OpenClaim) => ((c.pinned == c.pinnedBy))) Tryz.pinned.checked.prog 11 Tryz.f11 Rows.queueFullSpec Rows.queueFullRow = true := by kernel_rfl
theorem JD : (fun (P : Program) (f : FuncId) (fn : Func) (s : ChangeSpec) (c : OpenClaim) => ((c.veiled == (fn.params.toList ++ s.plain.varTypes P ++ fn.resultTypes.toList).any (P.veiledRec ·)))) Tryz.pinned.checked.prog 11 Tryz.f11 Rows.queueFullSpec Rows.queueFullRow = true := by kernel_rfl
theorem JE : (fun (P : Program) (f : FuncId) (fn : Func) (s : ChangeSpec) (c : OpenClaim) => (c.veiledFits P fn.params.toList (fn.params.toList ++ s.plain.varTypes P ++ fn.resultTypes.toList))) Tryz.pinned.checked.prog 11 Tryz.f11 Rows.queueFullSpec Rows.queueFullRow = true := by kernel_rfl
end Go.Proofs.YtanonhipicoigaaGreatDoor
