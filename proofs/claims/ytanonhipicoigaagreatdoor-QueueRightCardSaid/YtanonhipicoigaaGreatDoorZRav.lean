import Derived.Test.YtanonhipicoigaaGreatDoorRows
import Derived.Test.YtanonhipicoigaaGreatDoorZRal
import Derived.ProofKit
import Derived.LaidMore
import Derived.LaidLaws
import Derived.MakeChecks
import Derived.Stop.Joined
import Derived.Test.YtanonhipicoigaaGreatDoorZRag
set_option linter.unusedVariables false
set_option linter.unusedSimpArgs false
set_option maxRecDepth 100000
namespace Go.Proofs.U
open Go.Proofs.YtanonhipicoigaaGreatDoor
open Go.ChangeShapes Go.WideShapes Go.ChangeAt Go.WideMaps Go.WideElems Go.RowKit
def DV : List (String × DataW Unit) := [("math/bits.deBruijn32tab", Rows.laid_math_bits_deBruijn32tab), ("math/bits.deBruijn64tab", Rows.laid_math_bits_deBruijn64tab), ("internal/strconv.uint64pow10", Rows.laid_internal_strconv_uint64pow10), ("strconv.ErrRange", Rows.laid_strconv_ErrRange), ("strconv.ErrSyntax", Rows.laid_strconv_ErrSyntax)]
theorem g7 : Tryz.prog.globalNamed "math/bits.deBruijn64tab" = some 7 := by kernel_rfl
theorem g5 : Tryz.prog.globalNamed "strconv.ErrRange" = some 5 := by kernel_rfl
theorem g4 : Tryz.prog.globalNamed "strconv.ErrSyntax" = some 4 := by kernel_rfl
theorem t7 : (Tryz.prog.globals[7]?).map (·.type) = some 286 := by kernel_rfl
theorem t5 : (Tryz.prog.globals[5]?).map (·.type) = some 214 := by kernel_rfl
theorem t4 : (Tryz.prog.globals[4]?).map (·.type) = some 214 := by kernel_rfl
theorem qcQ (os : Os) (args : Array Value) : laidMetH Tryz.prog DV ((World.doorLaid Tryz.prog 4000 os).forCall (fun _ _ => 0) ⟨#[], args, []⟩).memory :=
 laidMetH_of_parts3 (fuel := 8) (laidMet_of_run' 8 (by kernel_rfl) (by kernel_rfl)) (by kernel_rfl) (by kernel_rfl)
theorem VL {W : World} (h : laidMetH Tryz.prog DV W) : Gl W := by
 rw [MakeChecks.laidMetH_plain _ _ _ (by kernel_rfl)] at h
 obtain ⟨ps, ⟨g0, t0, cs0, f0, p0, q0, hg0, ht0, hv0, hd0, ⟨g1, t1, cs1, f1, p1, q1, hg1, ht1, hv1, hd1, ⟨g2, t2, cs2, f2, p2, q2, hg2, ht2, hv2, hd2, ⟨g3, t3, cs3, f3, p3, q3, hg3, ht3, hv3, hd3, ⟨g4', t4', cs4, f4, p4, q4, hg4, ht4, hv4, hd4, _, _⟩, _⟩, _⟩, _⟩, _⟩, _, _⟩ := h
 obtain rfl := Option.some.inj (g7.symm.trans hg1)
 obtain rfl := Option.some.inj (g5.symm.trans hg3)
 obtain rfl := Option.some.inj (g4.symm.trans hg4)
 obtain rfl := Option.some.inj (t7.symm.trans ht1)
 obtain rfl := Option.some.inj (t5.symm.trans ht3)
 obtain rfl := Option.some.inj (t4.symm.trans ht4)
 have sent : ∀ {g : Nat} {n : String} {cs : Array Value} {f : Nat} {nm : String} {d : DataW Unit} {p : List MemPlace}, Tryz.prog.globalNamed n = some g → W.var? Tryz.prog n = some cs →
   DataW.trod (fun _ => ()) Tryz.prog W 0 (fun _ => true) false f 214 cs.toList = some (.iface nm d, p) → ∃ ev, W.cell? ⟨g, 0, none⟩ = some ev ∧ (ev = .nilIface ∨ ∃ te pe, ev = .iface te pe) := by
  intro g n cs f nm d p hg hv hd
  obtain ⟨_, u, v, hcs, _⟩ := iface_of_trod Tryz.underlying214 hd
  have hc := World.var?_cell hg hv 0
  rw [Array.eq_one_of_toList hcs] at hc
  exact ⟨.iface u v, by simpa using hc, .inr ⟨u, v, rfl⟩⟩
 refine ⟨?_, sent hg4 hv4 hd4, sent hg3 hv3 hd3⟩
 obtain ⟨xs, m1, hx1, hx2, hlen, hn3, hel⟩ := DataW.trod_array Tryz.underlying286 hd1
 obtain ⟨L, eL, e15⟩ : ∃ L : List (DataW Unit), Rows.laid_math_bits_deBruijn64tab = .agg L ∧ L[15]? = some (.lit (.int .u8 4)) := ⟨_, rfl, rfl⟩
 have hx3 := (Prod.mk.inj hx2).1
 rw [eL] at hx3
 injection hx3 with hx3
 rw [hx3, List.getElem?_map] at e15
 obtain ⟨x15, qhU, hxe⟩ := Option.map_eq_some_iff.1 e15
 have h15 := hel 15 (by decide)
 rw [qhU, show Tryz.prog.cellsOf 5 = 1 by kernel_rfl] at h15
 obtain ⟨k, e1, e2, _⟩ := DataW.trod_int Tryz.underlying5 h15
 have hk : k = 4 := by
  rw [e2] at hxe
  simpa using hxe
 subst hk
 have hc := World.var?_cell hg1 hv1 15
 have hl : cs1.toList[15]? = some (.int .u8 4) := by
  have h := congrArg (·[0]?) e1
  simpa [List.getElem?_take, List.getElem?_drop] using h
 rw [hc]
 simpa using hl
end Go.Proofs.U
