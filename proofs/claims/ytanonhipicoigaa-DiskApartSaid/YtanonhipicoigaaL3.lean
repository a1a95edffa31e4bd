import Derived.Test.YtanonhipicoigaaL2
import Derived.Test.YtanonhipicoigaaTx13
namespace Go.Proofs.Ytanonhipicoigaa.T
open Go.RowKit Go.Proofs.YtanonhipicoigaaW.PrintWords Go.Proofs.YtanonhipicoigaaW.PrintLast Go.Proofs.YtanonhipicoigaaW.PrintMore
set_option linter.unusedVariables false
set_option linter.unusedSimpArgs false

theorem DiskApart_true (l : List S43) (dn : Bool) (fu fa k : Int) (s d : ByteArray) (n : Int) (t : ByteArray) : penstocklaw09_DiskApart.f l dn fu fa k s d n t = some true := by
  have hc := came_do l dn fu fa k s d n
  unfold penstocklaw09_DiskApart.f lives.f
  simp only [Option.bind_some, disk_Do_eq, disk_Read_eq, if_true]
  by_cases ht : t.toList = s.toList
  · rw [if_pos ht]
  · rw [if_neg ht]
    revert hc
    generalize doF l dn fu fa k s d n = R
    intro hc
    cases hc with
    | wrong h => simp
    | down h hd => simp
    | refused e h h1 h2 h3 => simp [h1]
    | fault h hd hf => simp
    | fuse l' fa' h hd hf hu hl hg he => simp
    | done l' fu' fa' h hd hf hu hg h1 h2 => simp [read_apart h hg ht]
end Go.Proofs.Ytanonhipicoigaa.T
