import Derived.Test.YtanonhipicoigaaTx0
import Derived.Test.YtanonhipicoigaaSp0
import Derived.Test.YtanonhipicoigaaG6
namespace Go.Proofs.Ytanonhipicoigaa.T
open Go.RowKit Go.Proofs.YtanonhipicoigaaW.PrintWords Go.Proofs.YtanonhipicoigaaW.PrintLast Go.Proofs.YtanonhipicoigaaW.PrintMore Go.Proofs.Ytanonhipicoigaa.Sp
set_option linter.unusedVariables false
set_option linter.unusedSimpArgs false

theorem k43_flat {W : World} {ok1 ok2 : Nat → Prop} {x : S43} {cs : List Value} (h : k43.M W 0 ok1 x cs) : k43.M W 0 ok2 x cs := by
  obtain rfl := k43_openM h
  exact k43_mkM _ _ _ _
theorem at43 {W : World} {ad : Addr} {n i : Nat} {l : List S43} {x : S43} (h : Kd.C k43 W (some ad) n l) (hx : l[i]? = some x) :
    W.cell? (ad.add (i * 3)) = some (.string x.f0) ∧ W.cell? ⟨(ad.add (i * 3)).block, (ad.add (i * 3)).off + 1, none⟩ = some (.string x.f1) ∧ W.cell? ⟨(ad.add (i * 3)).block, (ad.add (i * 3)).off + 2, none⟩ = some (.int .i64 x.f2) := by
  have hi := (List.getElem?_eq_some_iff.1 hx).1
  obtain ⟨ad2, e, h0, h1, h2⟩ := at_T43 h (i : Int) (by omega) (by have := h.1; omega)
  injection e with e
  subst e
  rw [rd_get hx] at h0 h1 h2
  simp only [Int.toNat_natCast] at h0 h1 h2
  exact ⟨h0, h1, h2⟩
end Go.Proofs.Ytanonhipicoigaa.T
