import Derived.Test.YtanonhipicoigaaGreatDoorZTav
import Derived.Lay
import Derived.Test.YtanonhipicoigaaGreatDoorZTag
set_option linter.unusedVariables false
set_option linter.unusedSimpArgs false
set_option maxRecDepth 100000
namespace Go.Proofs.U
open Go.Proofs.YtanonhipicoigaaGreatDoor
open Go.ChangeShapes Go.WideShapes Go.ChangeAt Go.WideMaps Go.WideElems Go.RowKit
def xC : List (String × DataW Unit) := [("math/bits.deBruijn32tab", Rows.laid_math_bits_deBruijn32tab), ("math/bits.deBruijn64tab", Rows.laid_math_bits_deBruijn64tab), ("internal/strconv.uint64pow10", Rows.laid_internal_strconv_uint64pow10), ("unicode/utf8.acceptRanges", Rows.laid_unicode_utf8_acceptRanges), ("strconv.ErrRange", Rows.laid_strconv_ErrRange), ("strconv.ErrSyntax", Rows.laid_strconv_ErrSyntax), ("unicode/utf8.first", Rows.laid_unicode_utf8_first)]
theorem qdC (os : Os) (args : Array Value) : laidMetH Tryz.prog xC ((World.laidAll Tryz.prog os xC).forCall (fun _ _ => 0) ⟨#[], args, []⟩).memory := by
 rw [MakeChecks.laidMetH_plain _ _ _ (by kernel_rfl)]
 exact laidMet_laidAll _ (by kernel_rfl) (by kernel_rfl)
theorem qa1 {W : World} (h : laidMetH Tryz.prog xC W) : Gl W := by
 rw [MakeChecks.laidMetH_plain _ _ _ (by kernel_rfl)] at h
 obtain ⟨ps, ⟨G0, t0_, cs0, f0, p0, q0, hg0, ht0, hv0, hd0, ⟨G1, t1_, cs1, f1, p1, q1, hg1, ht1, hv1, hd1, ⟨G2, t2_, cs2, f2, p2, q2, hg2, ht2, hv2, hd2, ⟨G3, t3_, cs3, f3, p3, q3, hg3, ht3, hv3, hd3, ⟨G4, t4_, cs4, f4, p4, q4, hg4, ht4, hv4, hd4, ⟨G5, t5_, cs5, f5, p5, q5, hg5, ht5, hv5, hd5, ⟨G6, t6_, cs6, f6, p6, q6, hg6, ht6, hv6, hd6, _, _⟩, _⟩, _⟩, _⟩, _⟩, _⟩, _⟩, _, _⟩ := h
 obtain rfl := Option.some.inj (g7.symm.trans hg1)
 obtain rfl := Option.some.inj (g5.symm.trans hg4)
 obtain rfl := Option.some.inj (g4.symm.trans hg5)
 obtain rfl := Option.some.inj (t7.symm.trans ht1)
 obtain rfl := Option.some.inj (t5.symm.trans ht4)
 obtain rfl := Option.some.inj (t4.symm.trans ht5)
 have sent : ∀ {g : Nat} {n : String} {cs : Array Value} {f : Nat} {nm : String} {d : DataW Unit} {p : List MemPlace}, Tryz.prog.globalNamed n = some g → W.var? Tryz.prog n = some cs →
   DataW.trod (fun _ => ()) Tryz.prog W 0 (fun _ => true) false f 214 cs.toList = some (.iface nm d, p) → ∃ ev, W.cell? ⟨g, 0, none⟩ = some ev ∧ (ev = .nilIface ∨ ∃ te pe, ev = .iface te pe) := by
  intro g n cs f nm d p hg hv hd
  obtain ⟨_, u, v, hcs, _⟩ := iface_of_trod Tryz.underlying214 hd
  have hc := World.var?_cell hg hv 0
  rw [Array.eq_one_of_toList hcs] at hc
  exact ⟨.iface u v, by simpa using hc, .inr ⟨u, v, rfl⟩⟩
 refine ⟨?_, sent hg5 hv5 hd5, sent hg4 hv4 hd4⟩
 obtain ⟨xs, m1, hx1, hx2, hlen, hn3, hel⟩ := DataW.trod_array Tryz.underlying286 hd1
 obtain ⟨L, eL, e15⟩ : ∃ L : List (DataW Unit), Rows.laid_math_bits_deBruijn64tab = .agg L ∧ L[15]? = some (.lit (.int .u8 4)) := ⟨_, rfl, rfl⟩
 have hx3 := (Prod.mk.inj hx2).1
 rw [eL] at hx3
 injection hx3 with hx3
 rw [hx3, List.getElem?_map] at e15
 obtain ⟨x15, qiD, hxe⟩ := Option.map_eq_some_iff.1 e15
 have h15 := hel 15 (by decide)
 rw [qiD, show Tryz.prog.cellsOf 5 = 1 by kernel_rfl] at h15
 obtain ⟨k, e1, e2, _⟩ := DataW.trod_int Tryz.underlying5 h15
 have hk : k = 4 := by
  rw [e2] at hxe
  simpa using hxe
 subst hk
 have hc := World.var?_cell hg1 hv1 15
 have hl : cs1.toList[15]? = some (.int .u8 4) := by
  have h := congrArg (·[0]?) e1
  simpa [List.getElem?_take, List.getElem?_drop] using h
 rw [hc]
 simpa using hl
end Go.Proofs.U
