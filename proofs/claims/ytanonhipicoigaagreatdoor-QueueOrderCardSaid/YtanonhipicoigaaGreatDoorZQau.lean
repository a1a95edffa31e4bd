import Derived.Test.YtanonhipicoigaaGreatDoorZQai
import Derived.Test.YtanonhipicoigaaGreatDoorZQat
import Derived.Test.YtanonhipicoigaaGreatDoorZQas
import Derived.BigRegion
import Derived.LoopN
import Derived.Deep.DeepCutAuto
import Derived.Test.YtanonhipicoigaaGreatDoorZQaq
import Derived.Test.YtanonhipicoigaaGreatDoorZQag
set_option linter.unusedVariables false
set_option linter.unusedSimpArgs false
namespace Go.Proofs.YtanonhipicoigaaGreatDoor.U
open Go.ChangeShapes Go.WideShapes Go.Deep Go.RowKit Go.Proofs.YW.PrintWords Go.Proofs.YW.PrintLast Go.Proofs.YW.PrintMore
section
variable {H : Type} {enc : TypeId × Value → H} {w : World} {base : Nat} {held : Bool}
set_option maxRecDepth 100000 in
theorem open_entries {fuel : Nat} {v : Value} {x : DataW H × List MemPlace} (h : DataW.trod enc Tryz.prog w base (fun _ => true) held fuel 31 [v] = some x) :
  ∃ (A : Option Addr) (l : List S41) (c : Nat), v = .slice A l.length c ∧ l.length ≤ c ∧ Kd.C k41 w A l.length l := by
 rcases open_slice Tryz.underlying31 h with h0 | ⟨a, len, cap, m, n, D, Pl, hcs, hb, hl, hm, hmm, hx, hi⟩
 ·obtain ⟨h0, _⟩ := h0
  simp only [List.cons.injEq, and_true] at h0
  exact ⟨none, [], 0, h0, Nat.le_refl _, Kd.C_nil _ _⟩
 ·simp only [List.cons.injEq, and_true] at hcs
  subst hcs
  have key : ∀ i, i < len → ∃ p : S41, ∀ j u, [Value.int .u64 p.f0, Value.string p.f1, Value.bool p.f2][j]? = some u → w.cell? (a.add (i * 3 + j)) = some u := by
   intro i hi2
   obtain ⟨cs', hc, ht'⟩ := hi i (by rw [hmm]; simp; omega)
   rw [show Tryz.prog.cellsOf 41 = 3 by kernel_rfl] at hc
   obtain ⟨ys, n', hn', hy, hlen, hyl, hf⟩ := DataW.trod_struct Tryz.underlying41 ht'
   obtain ⟨_, hcl, hat⟩ := World.cells?_some hc
   match cs', hcl with
   | [c0, c1, c2], _ =>
    have e9 : Tryz.prog.cellsOf 9 = 1 := by kernel_rfl
    have e28 : Tryz.prog.cellsOf 28 = 1 := by kernel_rfl
    have e4 : Tryz.prog.cellsOf 4 = 1 := by kernel_rfl
    have h0 : DataW.trod enc Tryz.prog w base (fun _ => true) held n' 28 (List.take (Tryz.prog.cellsOf 28) (List.drop 0 [c0, c1, c2])) = ys[0]? := hf 0 _ rfl
    have h1 : DataW.trod enc Tryz.prog w base (fun _ => true) held n' 9 (List.take (Tryz.prog.cellsOf 9) (List.drop 1 [c0, c1, c2])) = ys[1]? := hf 1 _ rfl
    have h2 : DataW.trod enc Tryz.prog w base (fun _ => true) held n' 4 (List.take (Tryz.prog.cellsOf 4) (List.drop 2 [c0, c1, c2])) = ys[2]? := hf 2 _ rfl
    rw [e28] at h0
    rw [e9] at h1
    rw [e4] at h2
    have hy3 : ys.length = 3 := hyl
    rw [List.getElem?_eq_getElem (by omega)] at h0 h1 h2
    obtain ⟨s0, q0, _⟩ := DataW.trod_int Tryz.underlying28 h0
    obtain ⟨s1, q1, _⟩ := DataW.trod_string Tryz.underlying9 h1
    obtain ⟨s2, q2, _⟩ := DataW.trod_bool Tryz.underlying4 h2
    obtain rfl : c0 = .int .u64 s0 := by simpa using q0
    obtain rfl : c1 = .string s1 := by simpa using q1
    obtain rfl : c2 = .bool s2 := by simpa using q2
    refine ⟨⟨s0, s1, s2⟩, fun j u hu => ?_⟩
    have hj : j < 3 := (List.getElem?_eq_some_iff.1 hu).1
    have := hat j hj
    rw [← Go.Deep.add_add, this]
    exact hu
  obtain ⟨l, hll, hq⟩ := list_of len key
  refine ⟨some a, l, cap, by rw [hll], by omega, rfl, by unfold maxLen at hm; omega, fun _ => ⟨a, rfl, fun j p hj => ⟨_, rfl, qcY w p, ?_⟩⟩⟩
  exact hq j p hj
theorem KF {n : Int} (h : (Lit.int .u64 n).wf = true) : 0 ≤ n ∧ n < 18446744073709551616 := by
 have h2 : IntKind.u64.min ≤ n ∧ n ≤ IntKind.u64.max := by simpa [Lit.wf] using h
 have h3 : IntKind.u64.max = 18446744073709551615 := rfl
 exact ⟨h2.1, by omega⟩
theorem qgo {α : Type} : ∀ {l : List α}, l.length = 10 → ∃ c0 c1 c2 c3 c4 c5 c6 c7 c8 c9, l = [c0, c1, c2, c3, c4, c5, c6, c7, c8, c9]
 | [c0, c1, c2, c3, c4, c5, c6, c7, c8, c9], _ => ⟨c0, c1, c2, c3, c4, c5, c6, c7, c8, c9, rfl⟩
set_option maxRecDepth 100000 in
theorem P6 {r : Reach} {b0 : Nat} {v : Value} {d : DataW H} {p : List MemPlace} (hv : Value.okWide Tryz.prog w r b0 33 v) (h : DataW.Trod enc Tryz.prog w base (fun _ => true) held 33 v d p) :
  ∃ A c B e Q, v = .agg (qc A c B e Q).toArray ∧ Kd.C k67 w A Q.L.l.length Q.L.l ∧ Q.L.l.length ≤ c ∧ Kd.C k41 w B Q.es.length Q.es ∧ Q.es.length ≤ e ∧ okR Q := by
 obtain ⟨cs, rfl, hsz⟩ := okWide_struct Tryz.underlying33 hv
 rw [show Tryz.prog.cellsOf 33 = 10 by kernel_rfl] at hsz
 obtain ⟨fuel, hf⟩ := h
 obtain ⟨cs⟩ := cs
 obtain ⟨c0, c1, c2, c3, c4, c5, c6, c7, c8, c9, rfl⟩ := qgo (l := cs) (by simpa using hsz)
 have hf2 : DataW.trod enc Tryz.prog w base (fun _ => true) held fuel 33 [c0, c1, c2, c3, c4, c5, c6, c7, c8, c9] = some (d, p) := hf
 obtain ⟨ys, n, _, _, _, hyl, hfl⟩ := DataW.trod_struct Tryz.underlying33 hf2
 have hy3 : ys.length = 3 := hyl
 have e27 : Tryz.prog.cellsOf 27 = 4 := by kernel_rfl
 have e30 : Tryz.prog.cellsOf 30 = 8 := by kernel_rfl
 have e31 : Tryz.prog.cellsOf 31 = 1 := by kernel_rfl
 have e25 : Tryz.prog.cellsOf 25 = 1 := by kernel_rfl
 have e28 : Tryz.prog.cellsOf 28 = 1 := by kernel_rfl
 have e3 : Tryz.prog.cellsOf 3 = 1 := by kernel_rfl
 have e4 : Tryz.prog.cellsOf 4 = 1 := by kernel_rfl
 have a0 : DataW.trod enc Tryz.prog w base (fun _ => true) held n 30 (List.take (Tryz.prog.cellsOf 30) (List.drop 0 [c0, c1, c2, c3, c4, c5, c6, c7, c8, c9])) = ys[0]? := hfl 0 _ rfl
 have a1 : DataW.trod enc Tryz.prog w base (fun _ => true) held n 31 (List.take (Tryz.prog.cellsOf 31) (List.drop 8 [c0, c1, c2, c3, c4, c5, c6, c7, c8, c9])) = ys[1]? := hfl 1 _ rfl
 have a2 : DataW.trod enc Tryz.prog w base (fun _ => true) held n 3 (List.take (Tryz.prog.cellsOf 3) (List.drop 9 [c0, c1, c2, c3, c4, c5, c6, c7, c8, c9])) = ys[2]? := hfl 2 _ rfl
 rw [e30, List.getElem?_eq_getElem (by omega)] at a0
 rw [e31, List.getElem?_eq_getElem (by omega)] at a1
 rw [e3, List.getElem?_eq_getElem (by omega)] at a2
 have a0' : DataW.trod enc Tryz.prog w base (fun _ => true) held n 30 [c0, c1, c2, c3, c4, c5, c6, c7] = some ys[0] := a0
 have a1' : DataW.trod enc Tryz.prog w base (fun _ => true) held n 31 [c8] = some ys[1] := a1
 have a2' : DataW.trod enc Tryz.prog w base (fun _ => true) held n 3 [c9] = some ys[2] := a2
 obtain ⟨zs, m, _, _, _, hzl, hfz⟩ := DataW.trod_struct Tryz.underlying30 a0'
 have hz5 : zs.length = 5 := hzl
 have b0 : DataW.trod enc Tryz.prog w base (fun _ => true) held m 27 (List.take (Tryz.prog.cellsOf 27) (List.drop 0 [c0, c1, c2, c3, c4, c5, c6, c7])) = zs[0]? := hfz 0 _ rfl
 have b1 : DataW.trod enc Tryz.prog w base (fun _ => true) held m 3 (List.take (Tryz.prog.cellsOf 3) (List.drop 4 [c0, c1, c2, c3, c4, c5, c6, c7])) = zs[1]? := hfz 1 _ rfl
 have b2 : DataW.trod enc Tryz.prog w base (fun _ => true) held m 28 (List.take (Tryz.prog.cellsOf 28) (List.drop 5 [c0, c1, c2, c3, c4, c5, c6, c7])) = zs[2]? := hfz 2 _ rfl
 have b3 : DataW.trod enc Tryz.prog w base (fun _ => true) held m 28 (List.take (Tryz.prog.cellsOf 28) (List.drop 6 [c0, c1, c2, c3, c4, c5, c6, c7])) = zs[3]? := hfz 3 _ rfl
 have b4 : DataW.trod enc Tryz.prog w base (fun _ => true) held m 4 (List.take (Tryz.prog.cellsOf 4) (List.drop 7 [c0, c1, c2, c3, c4, c5, c6, c7])) = zs[4]? := hfz 4 _ rfl
 rw [e27, List.getElem?_eq_getElem (by omega)] at b0
 rw [e3, List.getElem?_eq_getElem (by omega)] at b1
 rw [e28, List.getElem?_eq_getElem (by omega)] at b2 b3
 rw [e4, List.getElem?_eq_getElem (by omega)] at b4
 have b0' : DataW.trod enc Tryz.prog w base (fun _ => true) held m 27 [c0, c1, c2, c3] = some zs[0] := b0
 obtain ⟨us, k, _, _, _, hul, hfu⟩ := DataW.trod_struct Tryz.underlying27 b0'
 have hu4 : us.length = 4 := hul
 have g0 : DataW.trod enc Tryz.prog w base (fun _ => true) held k 25 (List.take (Tryz.prog.cellsOf 25) (List.drop 0 [c0, c1, c2, c3])) = us[0]? := hfu 0 _ rfl
 have g1 : DataW.trod enc Tryz.prog w base (fun _ => true) held k 4 (List.take (Tryz.prog.cellsOf 4) (List.drop 1 [c0, c1, c2, c3])) = us[1]? := hfu 1 _ rfl
 have g2 : DataW.trod enc Tryz.prog w base (fun _ => true) held k 3 (List.take (Tryz.prog.cellsOf 3) (List.drop 2 [c0, c1, c2, c3])) = us[2]? := hfu 2 _ rfl
 have g3 : DataW.trod enc Tryz.prog w base (fun _ => true) held k 3 (List.take (Tryz.prog.cellsOf 3) (List.drop 3 [c0, c1, c2, c3])) = us[3]? := hfu 3 _ rfl
 rw [e25, List.getElem?_eq_getElem (by omega)] at g0
 rw [e4, List.getElem?_eq_getElem (by omega)] at g1
 rw [e3, List.getElem?_eq_getElem (by omega)] at g2 g3
 have g0' : DataW.trod enc Tryz.prog w base (fun _ => true) held k 25 [c0] = some us[0] := g0
 obtain ⟨A, l, c, rfl, hlc, hC⟩ := open_files g0'
 obtain ⟨B, es, e, rfl, hec, hE⟩ := open_entries a1'
 obtain ⟨dn, q1, _⟩ := DataW.trod_bool Tryz.underlying4 g1
 obtain ⟨fu, q2, _⟩ := DataW.trod_int Tryz.underlying3 g2
 obtain ⟨fa, q3, _⟩ := DataW.trod_int Tryz.underlying3 g3
 obtain ⟨sz, q4, _⟩ := DataW.trod_int Tryz.underlying3 b1
 obtain ⟨fr, q5, _, w5⟩ := DataW.trod_int Tryz.underlying28 b2
 obtain ⟨nx, q6, _, w6⟩ := DataW.trod_int Tryz.underlying28 b3
 obtain ⟨br, q7, _⟩ := DataW.trod_bool Tryz.underlying4 b4
 obtain ⟨mo, q9, _⟩ := DataW.trod_int Tryz.underlying3 a2'
 obtain rfl : c1 = .bool dn := by simpa using q1
 obtain rfl : c2 = .int .i64 fu := by simpa using q2
 obtain rfl : c3 = .int .i64 fa := by simpa using q3
 obtain rfl : c4 = .int .i64 sz := by simpa using q4
 obtain rfl : c5 = .int .u64 fr := by simpa using q5
 obtain rfl : c6 = .int .u64 nx := by simpa using q6
 obtain rfl : c7 = .bool br := by simpa using q7
 obtain rfl : c9 = .int .i64 mo := by simpa using q9
 exact ⟨A, c, B, e, ⟨⟨l, dn, fu, fa, sz, fr, nx, br⟩, es, mo⟩, rfl, hC, hlc, hE, hec, (KF w5).1, (KF w6).1, (KF w6).2⟩
end
end Go.Proofs.YtanonhipicoigaaGreatDoor.U
namespace Go.Proofs.YtanonhipicoigaaGreatDoor.U
open Go.RowKit Go.Proofs.YW.PrintWords Go.Proofs.YW.PrintLast Go.Proofs.YW.PrintMore
attribute [local go_sem] iJ iK jP jQ gX gY iW iY
end Go.Proofs.YtanonhipicoigaaGreatDoor.U
namespace Go.Proofs.YtanonhipicoigaaGreatDoor.U
open Go.RowKit Go.Proofs.YW.PrintWords Go.Proofs.YW.PrintLast Go.Proofs.YW.PrintMore
attribute [local go_sem] iJ iK jP jQ gX gY iW iY
theorem qha (d : Nat) (w : World) (x0 y0 : Int) (x1 y1 : ByteArray) (x2 y2 : Bool) :
  (Op.equalIn (d + 2) 41 (.agg #[.int .u64 x0, .string x1, .bool x2]) (.agg #[.int .u64 y0, .string y1, .bool y2])).run Tryz.prog w = .ok (x0 == y0 && (x1.toList == y1.toList && (x2 == y2))) w := by
 refine YE Tryz.underlying41 (by kernel_rfl) ?_
 refine wV (by rfl) (by go_simp; rfl) (by go_simp; rfl) (by go_simp) ?_
 refine wV (by rfl) (by go_simp; rfl) (by go_simp; rfl) (by go_simp) ?_
 exact N9 (by rfl) (by go_simp; rfl) (by go_simp; rfl) (by go_simp)
end Go.Proofs.YtanonhipicoigaaGreatDoor.U
namespace Go.Proofs.YtanonhipicoigaaGreatDoor.U
open Go.RowKit Go.Proofs.YW.PrintWords Go.Proofs.YW.PrintLast Go.Proofs.YW.PrintMore
attribute [local go_sem] iJ iK jP jQ gX gY iW iY
attribute [local go_sem high] qha
def bP.l0 : Nat → List (S41) → List (S41) → Int → Int → Option (Bool)
 | 0, _, _, _, _ => none
 | k + 1, x0, x1, x12, x13 => if x13 < x12 then (if 0 ≤ x13 then (if x13 < (x0.length : Int) then (if x13 < (x1.length : Int) then (if (!(((dP x0 x13).f0) == ((dP x1 x13).f0)) || (!((((dP x0 x13).f1).toList) == (((dP x1 x13).f1).toList)) || (!(((dP x0 x13).f2) == ((dP x1 x13).f2))))) = true then (some false) else (bP.l0 k x0 x1 x12 (wrap64 (x13 + 1)))) else (none)) else (none)) else (none)) else (some true)
def bP.f (k : Nat) (l0 : List (S41)) (l1 : List (S41)) : Option (Bool) := if (l0.length : Int) = (l1.length : Int) then (bP.l0 k l0 l1 (l0.length : Int) 0) else (some false)
set_option maxHeartbeats 8000000 in
set_option maxRecDepth 100000 in
theorem bP.calls (k : Nat) (A0 : Option Addr) (c0 : Nat) (l0 : List (S41)) (A1 : Option Addr) (c1 : Nat) (l1 : List (S41)) (r : Bool) (w : World) (hr0 : Kd.C k41 w A0 l0.length l0) (hc0 : l0.length ≤ c0) (hr1 : Kd.C k41 w A1 l1.length l1) (hc1 : l1.length ≤ c1) (h : bP.f k l0 l1 = some r) :
    Calls Tryz.prog 86 #[.slice A0 l0.length c0, .slice A1 l1.length c1] w fun e w' => e = .returned (.bool r) ∧ fA w w' := by
  have qjO := Tryz.underlying41
  have HR0 := aA.mk hr0
  have HC0 := aA.mk hc0
  clear hr0 hc0
  have HR1 := aA.mk hr1
  have HC1 := aA.mk hc1
  clear hr1 hc1
  have H : (if (l0.length : Int) = (l1.length : Int) then (bP.l0 k l0 l1 (l0.length : Int) 0) else (some false)) = some r := h
  clear h
  by_cases c3 : (l0.length : Int) = (l1.length : Int)
  · rw [if_pos c3] at H
    have MP : ((l0.length : Int) == (l1.length : Int)) = true := beq_iff_eq.mpr c3
    have XD : ((l0.length : Int) != (l1.length : Int)) = false := bne_eq_false_iff_eq.mpr c3
    have qhb : (l0.length == l1.length) = true := by first | simpa using c3 | (simp at c3 ⊢; omega)
    clear c3
    have H' := aA.mk H
    clear H
    go_enter Tryz.func86, Tryz.ntmps86
    go_wp2
    repeat (go_quiet (fail); try go_wp2)
    go_loopg [13] k (fun kq v13 w' => ∃ (fP : Int), v13 = .int .i64 fP ∧ aA (bP.l0 kq l0 l1 (l0.length : Int) fP = some r) ∧ aA (kq ≤ k) ∧ fA w w')
    case atStart => exact ⟨(0), (by first | rfl | (simp; done) | (simp [*]; done)), H', ⟨Nat.le_refl _⟩, by repeat (first | exact fA.refl _ | apply fA.step)⟩
    case round =>
      clear H'
      try clear c1
      try clear p2
      try clear c3
      try clear MP
      try clear XD
      try clear qhb
      obtain ⟨fP, rfl, HA, HK1, ⟨m1, rfl⟩⟩ := hrel
      cases gk with
      | zero => exact absurd HA.out (by simp [bP.l0])
      | succ k1 =>
        have H := HA.out
        clear HA
        simp only [bP.l0] at H
        by_cases c4 : fP < (l0.length : Int)
        · rw [if_pos c4] at H
          have qcn : decide (fP < (l0.length : Int)) = true := decide_eq_true c4
          clear c4
          by_cases c5 : 0 ≤ fP
          · rw [if_pos c5] at H
            have XK : decide (0 ≤ fP) = true := decide_eq_true c5
            clear c5
            by_cases c6 : fP < (l0.length : Int)
            · rw [if_pos c6] at H
              have qe7 : decide (fP < (l0.length : Int)) = true := decide_eq_true c6
              clear c6
              by_cases c7 : fP < (l1.length : Int)
              · rw [if_pos c7] at H
                have qg7 : decide (fP < (l1.length : Int)) = true := decide_eq_true c7
                clear c7
                by_cases c8 : (!(((dP l0 fP).f0) == ((dP l1 fP).f0)) || (!((((dP l0 fP).f1).toList) == (((dP l1 fP).f1).toList)) || (!(((dP l0 fP).f2) == ((dP l1 fP).f2))))) = true
                · rw [if_pos c8] at H
                  have qg8 : (!(((dP l0 fP).f0) == ((dP l1 fP).f0)) || (!((((dP l0 fP).f1).toList) == (((dP l1 fP).f1).toList)) || (!(((dP l0 fP).f2) == ((dP l1 fP).f2))))) = true := c8
                  clear c8
                  obtain rfl := Option.some.inj H
                  have Z8 : 0 ≤ (fP : Int) := of_decide_eq_true (by first | (with_reducible assumption) | assumption)
                  have Z9 : fP < (l0.length : Int) := of_decide_eq_true (by first | (with_reducible assumption) | assumption)
                  obtain ⟨qhc, e213, qff, qfg, qfh⟩ := wW HR0.out fP Z8 Z9
                  cases e213
                  replace Z8 := eq_true Z8
                  replace Z9 := eq_true Z9
                  have qaa : 0 ≤ (fP : Int) := of_decide_eq_true (by first | (with_reducible assumption) | assumption)
                  have qab : fP < (l1.length : Int) := of_decide_eq_true (by first | (with_reducible assumption) | assumption)
                  obtain ⟨qhd, e214, qfi, qfj, qfk⟩ := wW HR1.out fP qaa qab
                  cases e214
                  replace qaa := eq_true qaa
                  replace qab := eq_true qab
                  go_wp2
                  repeat (go_quiet (fail); try go_wp2)
                  go_ret
                  exact ⟨by first | rfl | (simp; done) | (simp [*]; done), by repeat (first | exact fA.refl _ | apply fA.step)⟩
                · rw [if_neg c8] at H
                  have qg8 : (!(((dP l0 fP).f0) == ((dP l1 fP).f0)) || (!((((dP l0 fP).f1).toList) == (((dP l1 fP).f1).toList)) || (!(((dP l0 fP).f2) == ((dP l1 fP).f2))))) = false := by simpa using c8
                  clear c8
                  have H' := aA.mk H
                  clear H
                  have Z8 : 0 ≤ (fP : Int) := of_decide_eq_true (by first | (with_reducible assumption) | assumption)
                  have Z9 : fP < (l0.length : Int) := of_decide_eq_true (by first | (with_reducible assumption) | assumption)
                  obtain ⟨qhc, e213, qff, qfg, qfh⟩ := wW HR0.out fP Z8 Z9
                  cases e213
                  replace Z8 := eq_true Z8
                  replace Z9 := eq_true Z9
                  have qaa : 0 ≤ (fP : Int) := of_decide_eq_true (by first | (with_reducible assumption) | assumption)
                  have qab : fP < (l1.length : Int) := of_decide_eq_true (by first | (with_reducible assumption) | assumption)
                  obtain ⟨qhd, e214, qfi, qfj, qfk⟩ := wW HR1.out fP qaa qab
                  cases e214
                  replace qaa := eq_true qaa
                  replace qab := eq_true qab
                  go_wp2
                  repeat (go_quiet (fail); try go_wp2)
                  go_roundg k1
                  case measure => have := HK1.out; omega
                  case rel => exact ⟨(wrap64 (fP + 1)), (by first | rfl | (simp; done) | (simp [*]; done)), H', ⟨by have := HK1.out; omega⟩, by repeat (first | exact fA.refl _ | apply fA.step)⟩
              · rw [if_neg c7] at H
                exact absurd H (by simp)
            · rw [if_neg c6] at H
              exact absurd H (by simp)
          · rw [if_neg c5] at H
            exact absurd H (by simp)
        · rw [if_neg c4] at H
          have qcn : decide (fP < (l0.length : Int)) = false := decide_eq_false c4
          clear c4
          obtain rfl := Option.some.inj H
          go_wp2
          repeat (go_quiet (fail); try go_wp2)
          go_ret
          exact ⟨by first | rfl | (simp; done) | (simp [*]; done), by repeat (first | exact fA.refl _ | apply fA.step)⟩
  · rw [if_neg c3] at H
    have MP : ((l0.length : Int) == (l1.length : Int)) = false := beq_eq_false_iff_ne.mpr c3
    have XD : ((l0.length : Int) != (l1.length : Int)) = true := bne_iff_ne.mpr c3
    have qhb : (l0.length == l1.length) = false := by first | simpa using c3 | (simp at c3 ⊢; omega)
    obtain rfl := Option.some.inj H
    go_enter Tryz.func86, Tryz.ntmps86
    go_wp2
    repeat (go_quiet (fail); try go_wp2)
    go_ret
    exact ⟨by first | rfl | (simp; done) | (simp [*]; done), by repeat (first | exact fA.refl _ | apply fA.step)⟩
end Go.Proofs.YtanonhipicoigaaGreatDoor.U
namespace Go.Proofs.YtanonhipicoigaaGreatDoor.U
open Go.RowKit Go.Proofs.YW.PrintWords Go.Proofs.YW.PrintLast Go.Proofs.YW.PrintMore
attribute [local go_sem] iJ iK jP jQ gX gY iW iY
end Go.Proofs.YtanonhipicoigaaGreatDoor.U
namespace Go.Proofs.YtanonhipicoigaaGreatDoor.U
open Go.RowKit Go.Proofs.YW.PrintWords Go.Proofs.YW.PrintLast Go.Proofs.YW.PrintMore
attribute [local go_sem] iJ iK jP jQ gX gY iW iY
theorem qhe (d : Nat) (w : World) (x0 y0 : Int) (x1 y1 : ByteArray) :
  (Op.equalIn (d + 2) 62 (.agg #[.int .u64 x0, .string x1]) (.agg #[.int .u64 y0, .string y1])).run Tryz.prog w = .ok (x0 == y0 && (x1.toList == y1.toList)) w := by
 refine YE Tryz.underlying62 (by kernel_rfl) ?_
 refine wV (by rfl) (by go_simp; rfl) (by go_simp; rfl) (by go_simp) ?_
 exact N9 (by rfl) (by go_simp; rfl) (by go_simp; rfl) (by go_simp)
end Go.Proofs.YtanonhipicoigaaGreatDoor.U
namespace Go.Proofs.YtanonhipicoigaaGreatDoor.U
open Go.RowKit Go.Proofs.YW.PrintWords Go.Proofs.YW.PrintLast Go.Proofs.YW.PrintMore
attribute [local go_sem] iJ iK jP jQ gX gY iW iY
attribute [local go_sem high] qhe
end Go.Proofs.YtanonhipicoigaaGreatDoor.U
namespace Go.Proofs.YtanonhipicoigaaGreatDoor.U
open Go.RowKit Go.Proofs.YW.PrintWords Go.Proofs.YW.PrintLast Go.Proofs.YW.PrintMore Go.Proofs.YtanonhipicoigaaGreatDoor.Sp Go.Proofs.YtanonhipicoigaaGreatDoor.eP
theorem MF {l : List S67} {dn : Bool} {fu fa size most : Int} {Q : Qu} (h : jH l dn fu fa size most = (Q, 0)) :
  ∃ ds n m, WF Q.L ds n m ∧ Q.es = dF (bQ ds n) ∧ Q.es.length ≤ 1024 ∧ Q.most = most ∧ 1 ≤ most ∧ most ≤ 1024 ∧ Q.L.size = size := by
 unfold jH at h
 split at h
 ·split at h
  ·cases h
  rename_i hm
  obtain ⟨R, rs, e, hO⟩ : ∃ R rs e, iP l dn fu fa size = (R, rs, e) := ⟨_, _, _, rfl⟩
  rw [hO] at h
  simp only at h
  split at h
  ·rename_i he
   subst he
   obtain ⟨ds, n, m, hw, rfl, hs⟩ := DN hO
   split at h
   ·cases h
   rename_i hl
   obtain ⟨rfl, _⟩ := Prod.mk.inj h
   exact ⟨ds, n, m, hw, rfl, by show (dF _).length ≤ 1024; omega, rfl, by omega, by omega, hs⟩
  ·rename_i he
   split at h
   ·exact absurd (Prod.mk.inj h).2 he
   ·exact absurd (Prod.mk.inj h).2 he
 ·cases h
theorem qac {l : List S67} {dn : Bool} {fu fa size most : Int} (h : (jH l dn fu fa size most).2 ≠ 0) : (jH l dn fu fa size most).1.es = [] := by
 unfold jH at h ⊢
 split
 ·rename_i h1
  rw [if_pos h1] at h
  split
  ·rfl
  ·rename_i h2
   rw [if_neg h2] at h
   split
   ·rename_i h3
    rw [if_pos h3] at h
    split
    ·rfl
    ·rename_i h4
     rw [if_neg h4] at h
     exact absurd rfl h
   ·split <;> rfl
 ·rfl
theorem XY {l : List S67} {dn : Bool} {fu fa size most : Int} {Q : Qu} (h : jH l dn fu fa size most = (Q, 0)) : jH Q.L.l Q.L.dn Q.L.fu Q.L.fa size most = (Q, 0) := by
 obtain ⟨ds, n, m, hw, he, hl, hm, m0, m1, hs⟩ := MF h
 have ho := hw.opens
 rw [hs] at ho
 obtain ⟨L, es, mo⟩ := Q
 simp only at *
 subst he hm
 rw [jH, if_pos hw.right, if_neg (by omega), ho]
 simp only
 rw [if_pos trivial, if_neg (by omega)]
theorem qeg {l : List S67} {dn : Bool} {fu fa size mst : Int} {Q : Qu} (h : jH l dn fu fa size mst = (Q, 0)) : okQ Q ∧ okR Q ∧ Q.es.length ≤ 1024 ∧ Q.L.l.length ≤ 64 ∧ (∀ x ∈ Q.es, x.f2 = false) := by
 obtain ⟨ds, n, m, hw, he, hl, hm, m0, m1, hs⟩ := MF h
 have h1 := hw.nx
 have h2 := hw.top
 have h3 := hw.fr
 have h4 := oV SU n _ ds m hw.ch
 unfold most at h2
 refine ⟨⟨hw.okL, by omega, by omega, hl, ?_⟩, ⟨by omega, by omega, by omega⟩, hl, jV hw.right, ?_⟩
 ·rw [he, hw.fr]
  exact wI ds n (by rw [h1, h4]; exact Int.le_refl _) (yE n _ ds m hw.ch)
 ·rw [he]
  exact wK _
theorem yG (l : List S41) (hl : l.length ≤ 1024) : ∀ (f i : Nat), i ≤ l.length → l.length - i < f → bP.l0 f l l (l.length : Int) (i : Int) = some true
 | 0, i, hi, hf => by omega
 | f + 1, i, hi, hf => by
  rw [bP.l0]
  by_cases h : i < l.length
  ·rw [if_pos (by omega), if_pos (by omega), if_pos (by omega), if_pos (by omega)]
   have e : wrap64 ((i : Int) + 1) = ((i + 1 : Nat) : Int) := by
    unfold wrap64
    omega
   rw [e]
   simp only [beq_self_eq_true, Bool.not_true, Bool.or_self, Bool.false_eq_true, if_false]
   exact yG l hl f (i + 1) (by omega) (by omega)
  ·rw [if_neg (by omega)]
theorem MR (l : List S41) (hl : l.length ≤ 1024) : bP.f 1100 l l = some true := by
 rw [bP.f, if_pos rfl]
 exact yG l hl 1100 0 (by omega) (by omega)
set_option maxHeartbeats 1600000 in
set_option maxRecDepth 100000 in
theorem qad (A : Option Addr) (c : Nat) (A2 : Option Addr) (c2 : Nat) (l : List S67) (dn : Bool) (fu fa : Int) (w : World) (hr : Kd.C k67 w A l.length l) (hr2 : Kd.C k67 w A2 l.length l) (h : l.length ≤ 64) :
  Calls Tryz.prog 75 #[.agg #[.slice A l.length c, .bool dn, .int .i64 fu, .int .i64 fa], .agg #[.slice A2 l.length c2, .bool dn, .int .i64 fu, .int .i64 fa]] w fun e w' => e = .returned (.bool true) ∧ Below w.heap.size w w' := by
 have HR := aA.mk hr
 have HR2 := aA.mk hr2
 have HL := aA.mk h
 clear hr hr2 h
 have H := aA.mk (Sep.start w)
 go_enter Tryz.func75, Tryz.ntmps75
 go_wp2_with (first
 |((with_reducible refine aN (N := 2) rfl ?_);
   refine aX rfl H (cs := [.slice A l.length c, .bool dn, .int .i64 fu, .int .i64 fa]) (t := 27) ?hr ?_;
   (case hr => first | (go_simp; done) | (go_simp; rfl));
   intro ga wd1 n_;
   simp only [Act.put, zA, zZ, zS];
   clear H;
   have H := n_;
   clear n_;
   have c_a := H.out.cell (g := ga) aH)
 |((with_reducible refine aN (N := 3) rfl ?_);
   refine aX rfl H (cs := [.slice A2 l.length c2, .bool dn, .int .i64 fu, .int .i64 fa]) (t := 27) ?hr ?_;
   (case hr => first | (go_simp; done) | (go_simp; rfl));
   intro gb wd2 n_;
   simp only [Act.put, zA, zZ, zS];
   clear H c_a;
   have H := n_;
   clear n_;
   have c_b := H.out.cell (g := gb) aH;
   have c_a := H.out.cell (g := ga) mem1)
 |fail)
 go_loopw [4, 5, 37] (fun v4 v5 v37 wr => ∃ i : Nat, v37 = .int .i64 (i : Int) ∧ i ≤ l.length ∧ aA (Sep w wr [box gb [.slice A2 l.length c2, .bool dn, .int .i64 fu, .int .i64 fa] 27, box ga [.slice A l.length c, .bool dn, .int .i64 fu, .int .i64 fa] 27])) (fun _ _ v37 _ => l.length - (intOf v37).toNat)
 case atStart => exact ⟨0, rfl, Nat.zero_le _, H⟩
 case round =>
  clear H c_b c_a
  obtain ⟨i, rfl, hi, H⟩ := hrel
  have c_b := H.out.cell (g := gb) aH
  have c_a := H.out.cell (g := ga) mem1
  by_cases hil : i < l.length
  ·
   obtain ⟨x, hx⟩ : ∃ x, l[i]? = some x := ⟨_, List.getElem?_eq_getElem hil⟩
   obtain ⟨ad, _, e1, _⟩ := Kd.zW (H.out.came HR.out) (⟨⟨#[]⟩, ⟨#[]⟩, 0⟩ : S67) (i : Int) (by omega) (by omega)
   obtain ⟨ad2, _, e2, _⟩ := Kd.zW (H.out.came HR2.out) (⟨⟨#[]⟩, ⟨#[]⟩, 0⟩ : S67) (i : Int) (by omega) (by omega)
   subst e1 e2
   obtain ⟨q0, q1, q2⟩ := qf5 (H.out.came HR.out) hx
   obtain ⟨p0, p1, p2⟩ := qf5 (H.out.came HR2.out) hx
   have qgP : (i : Int) < (l.length : Int) := by omega
   have hi0 : (0 : Int) ≤ (i : Int) := by omega
   have hw3 : wrap64 ((i : Int) + 1) = ((i + 1 : Nat) : Int) := by
    have := HL.out
    unfold wrap64
    omega
   clear hx
   go_wp2_with fail
   go_upto_region 6 with fail
   go_quiet (fail)
   go_wp2_with fail
   try rw [hw3]
   exact ⟨⟨i + 1, rfl, by omega, ⟨Sep.drewN H.out _⟩⟩, by simp [intOf] <;> omega⟩
  ·
   have hie : i = l.length := by omega
   subst hie
   have hnl : ¬ (l.length : Int) < (l.length : Int) := by omega
   go_wp2_with fail
   go_ret
   exact ⟨by first | rfl | simp, H.out.below⟩
set_option maxHeartbeats 1600000 in
set_option maxRecDepth 100000 in
theorem qae (A : Option Addr) (c : Nat) (A2 : Option Addr) (c2 : Nat) (L : Lg) (w : World) (hr : Kd.C k67 w A L.l.length L.l) (hc : L.l.length ≤ c) (hr2 : Kd.C k67 w A2 L.l.length L.l) (hc2 : L.l.length ≤ c2) (h : L.l.length ≤ 64) :
  Calls Tryz.prog 28 #[.agg (lgc A c L).toArray, .agg (lgc A2 c2 L).toArray] w fun e w' => e = .returned (.bool true) ∧ Below w.heap.size w w' := by
 have HR := aA.mk hr
 have HC := aA.mk hc
 have HR2 := aA.mk hr2
 have HC2 := aA.mk hc2
 have HL := aA.mk h
 clear hr hc hr2 hc2 h
 simp only [lgc]
 have H := aA.mk (Sep.start w)
 go_enter Tryz.func28, Tryz.ntmps28
 go_wp2_with (first
 |((with_reducible refine aN (N := 2) rfl ?_);
   refine aX rfl H (cs := [.slice A L.l.length c, .bool L.dn, .int .i64 L.fu, .int .i64 L.fa, .int .i64 L.size, .int .u64 L.fr, .int .u64 L.nx, .bool L.br]) (t := 30) ?hr ?_;
   (case hr => first | (go_simp; done) | (go_simp; rfl));
   intro ga wd3 n_;
   simp only [Act.put, zA, zZ, zS];
   clear H;
   have H := n_;
   clear n_;
   have c_a := H.out.cell (g := ga) aH)
 |((with_reducible refine aN (N := 3) rfl ?_);
   refine aX rfl H (cs := [.slice A2 L.l.length c2, .bool L.dn, .int .i64 L.fu, .int .i64 L.fa, .int .i64 L.size, .int .u64 L.fr, .int .u64 L.nx, .bool L.br]) (t := 30) ?hr ?_;
   (case hr => first | (go_simp; done) | (go_simp; rfl));
   intro gb wd4 n_;
   simp only [Act.put, zA, zZ, zS];
   clear H c_a;
   have H := n_;
   clear n_;
   have c_b := H.out.cell (g := gb) aH;
   have c_a := H.out.cell (g := ga) mem1)
 |fail)
 refine ((qad A c A2 c2 L.l L.dn L.fu L.fa _ (H.out.came HR.out) (H.out.came HR2.out) HL.out).mono ?_)
 rintro e wd5 ⟨rfl, hb_⟩
 have n_ : aA (Sep w wd5 [box gb [.slice A2 L.l.length c2, .bool L.dn, .int .i64 L.fu, .int .i64 L.fa, .int .i64 L.size, .int .u64 L.fr, .int .u64 L.nx, .bool L.br] 30, box ga [.slice A L.l.length c, .bool L.dn, .int .i64 L.fu, .int .i64 L.fa, .int .i64 L.size, .int .u64 L.fr, .int .u64 L.nx, .bool L.br] 30]) := ⟨H.out.step hb_⟩
 clear H c_b c_a
 have H := n_
 clear n_
 have c_b := H.out.cell (g := gb) aH
 have c_a := H.out.cell (g := ga) mem1
 clear hb_
 go_wp2_with fail
 go_ret
 exact ⟨by first | rfl | simp, H.out.below⟩
set_option maxHeartbeats 1600000 in
set_option maxRecDepth 100000 in
theorem DW (A : Option Addr) (c : Nat) (B : Option Addr) (d : Nat) (A2 : Option Addr) (c2 : Nat) (B2 : Option Addr) (d2 : Nat) (Q : Qu) (w : World) (hr : Kd.C k67 w A Q.L.l.length Q.L.l) (hc : Q.L.l.length ≤ c) (hre : Kd.C k41 w B Q.es.length Q.es) (hce : Q.es.length ≤ d)
  (hr2 : Kd.C k67 w A2 Q.L.l.length Q.L.l) (hc2 : Q.L.l.length ≤ c2) (qhf : Kd.C k41 w B2 Q.es.length Q.es) (qhg : Q.es.length ≤ d2) (h : Q.L.l.length ≤ 64) (he : Q.es.length ≤ 1024) :
  Calls Tryz.prog 38 #[.agg (qc A c B d Q).toArray, .agg (qc A2 c2 B2 d2 Q).toArray] w fun e w' => e = .returned (.bool true) ∧ Below w.heap.size w w' := by
 have HR := aA.mk hr
 have HC := aA.mk hc
 have HR2 := aA.mk hr2
 have HC2 := aA.mk hc2
 have HE := aA.mk hre
 have HD := aA.mk hce
 have HE2 := aA.mk qhf
 have HD2 := aA.mk qhg
 have HL := aA.mk h
 have HS := aA.mk (MR Q.es he)
 clear hr hc hr2 hc2 hre hce qhf qhg h he
 simp only [qc, lgc, List.cons_append, List.nil_append]
 have H := aA.mk (Sep.start w)
 go_enter Tryz.func38, Tryz.ntmps38
 go_wp2_with (first
 |((with_reducible refine aN (N := 2) rfl ?_);
   refine aX rfl H (cs := [.slice A Q.L.l.length c, .bool Q.L.dn, .int .i64 Q.L.fu, .int .i64 Q.L.fa, .int .i64 Q.L.size, .int .u64 Q.L.fr, .int .u64 Q.L.nx, .bool Q.L.br, .slice B Q.es.length d, .int .i64 Q.most]) (t := 33) ?hr ?_;
   (case hr => first | (go_simp; done) | (go_simp; rfl));
   intro ga wd6 n_;
   simp only [Act.put, zA, zZ, zS];
   clear H;
   have H := n_;
   clear n_;
   have c_a := H.out.cell (g := ga) aH)
 |((with_reducible refine aN (N := 3) rfl ?_);
   refine aX rfl H (cs := [.slice A2 Q.L.l.length c2, .bool Q.L.dn, .int .i64 Q.L.fu, .int .i64 Q.L.fa, .int .i64 Q.L.size, .int .u64 Q.L.fr, .int .u64 Q.L.nx, .bool Q.L.br, .slice B2 Q.es.length d2, .int .i64 Q.most]) (t := 33) ?hr ?_;
   (case hr => first | (go_simp; done) | (go_simp; rfl));
   intro gb wd7 n_;
   simp only [Act.put, zA, zZ, zS];
   clear H c_a;
   have H := n_;
   clear n_;
   have c_b := H.out.cell (g := gb) aH;
   have c_a := H.out.cell (g := ga) mem1)
 |fail)
 refine ((qae A c A2 c2 Q.L _ (H.out.came HR.out) HC.out (H.out.came HR2.out) HC2.out HL.out).mono ?_)
 rintro e wd8 ⟨rfl, hb_⟩
 have n_ : aA (Sep w wd8 [box gb [.slice A2 Q.L.l.length c2, .bool Q.L.dn, .int .i64 Q.L.fu, .int .i64 Q.L.fa, .int .i64 Q.L.size, .int .u64 Q.L.fr, .int .u64 Q.L.nx, .bool Q.L.br, .slice B2 Q.es.length d2, .int .i64 Q.most] 33, box ga [.slice A Q.L.l.length c, .bool Q.L.dn, .int .i64 Q.L.fu, .int .i64 Q.L.fa, .int .i64 Q.L.size, .int .u64 Q.L.fr, .int .u64 Q.L.nx, .bool Q.L.br, .slice B Q.es.length d, .int .i64 Q.most] 33]) := ⟨H.out.step hb_⟩
 clear H c_b c_a
 have H := n_
 clear n_
 have c_b := H.out.cell (g := gb) aH
 have c_a := H.out.cell (g := ga) mem1
 clear hb_
 go_wp2_with fail
 refine ((bP.calls 1100 B d Q.es B2 d2 Q.es true _ (H.out.came HE.out) HD.out (H.out.came HE2.out) HD2.out HS.out).mono ?_)
 rintro e wd9 ⟨rfl, hb_⟩
 have n_ : aA (Sep w wd9 [box gb [.slice A2 Q.L.l.length c2, .bool Q.L.dn, .int .i64 Q.L.fu, .int .i64 Q.L.fa, .int .i64 Q.L.size, .int .u64 Q.L.fr, .int .u64 Q.L.nx, .bool Q.L.br, .slice B2 Q.es.length d2, .int .i64 Q.most] 33, box ga [.slice A Q.L.l.length c, .bool Q.L.dn, .int .i64 Q.L.fu, .int .i64 Q.L.fa, .int .i64 Q.L.size, .int .u64 Q.L.fr, .int .u64 Q.L.nx, .bool Q.L.br, .slice B Q.es.length d, .int .i64 Q.most] 33]) := ⟨H.out.step (fA.below hb_)⟩
 clear H c_b c_a
 have H := n_
 clear n_
 have c_b := H.out.cell (g := gb) aH
 have c_a := H.out.cell (g := ga) mem1
 clear hb_
 go_wp2_with fail
 go_ret
 exact ⟨by first | rfl | simp, H.out.below⟩
end Go.Proofs.YtanonhipicoigaaGreatDoor.U
namespace Go.Proofs.YtanonhipicoigaaGreatDoor.U
open Go.RowKit Go.Proofs.YW.PrintWords Go.Proofs.YW.PrintLast Go.Proofs.YW.PrintMore
attribute [local go_sem] iJ iK jP jQ gX gY iW iY
def jI.f  : Option ((List (S67)) × Bool × Int × Int) := some (([] : List (S67)), false, (-1), (-1))
set_option maxHeartbeats 8000000 in
set_option maxRecDepth 100000 in
theorem jI.calls  (r1 : List (S67)) (r2 : Bool) (r3 : Int) (r4 : Int) (w : World) (h : jI.f  = some (r1, r2, r3, r4)) :
  Calls Tryz.prog 36 #[] w fun e w' => ∃ v0_ : Value, e = .returned (.agg #[v0_, .bool r2, .int .i64 r3, .int .i64 r4]) ∧ Kd.R k67 67 w' w.heap.size (fun _ => True) v0_ r1 ∧ Below w.heap.size w w' := by
 have qjw := Tryz.underlying27
 have HB := aA.mk (Below.refl w.heap.size w)
 have H : (some (([] : List (S67)), false, (-1), (-1))) = some (r1, r2, r3, r4) := h
 clear h
 simp only [Option.some.injEq, Prod.mk.injEq] at H
 obtain ⟨rfl, rfl, rfl, rfl⟩ := H
 go_enter Tryz.func36, Tryz.ntmps36
 go_wp2_with (first | ((with_reducible refine aN (N := 0) rfl ?_); refine dH ?hg (N := 0) ?hd (cs := #[.slice none 0 0, .bool false, .int .i64 0, .int .i64 0]) (t := 27) ?hr ?_; (case hd => rfl); (case hg => rfl); (case hr => first | (go_simp; done) | (go_simp; rfl)); intro P7 hg w1 hbox hb; have n0_ := aA.mk (bC (by repeat (first | (with_reducible first | exact HB.out | apply aT | apply aU | apply aY) | exact HB.out)) hb); have n1_ := aA.mk (hbox); have n2_ := aA.mk ((by rw [hg]; exact (dX (by repeat (first | (with_reducible first | exact HB.out | apply aT | apply aU | apply aY) | exact HB.out))) : w.heap.size ≤ P7)); have n3_ := aA.mk ((by rw [hg]; exact (dX (by repeat (first | (with_reducible first | exact HB.out | apply aT | apply aU | apply aY) | exact HB.out))) : w.heap.size ≤ P7)); clear HB; have HB := n0_; have IC := n1_; have qkk := n2_; have qhh := n3_; clear n0_ n1_ n2_ n3_; clear hb hbox hg; have qjV : w1.cell? ⟨P7, 0, none⟩ = some (.slice none 0 0) := (aG IC.out 0).trans rfl; have qjW : w1.cell? ⟨P7, 1, none⟩ = some (.bool false) := (aG IC.out 1).trans rfl; have qjX : w1.cell? ⟨P7, 2, none⟩ = some (.int .i64 0) := (aG IC.out 2).trans rfl; have qjY : w1.cell? ⟨P7, 3, none⟩ = some (.int .i64 0) := (aG IC.out 3).trans rfl; have qjZ := aC IC.out 0; have qj0 := aC IC.out 1; have qj1 := aC IC.out 2; have qj2 := aC IC.out 3))
 refine bodyPost_ret (results_cell_row rfl _ _ P7 27 #[.slice none 0 0, .bool false, .int .i64 (-1), .int .i64 (-1)] (0, 0) _ rfl (by (with_reducible repeat (first | refine bU ?_ _ | refine bJ ?_ | refine bD ?_ _)); refine fQ (cs := #[.slice none 0 0, .bool false, .int .i64 (-1), .int .i64 0]) ?_ 3 _ rfl; (with_reducible repeat (first | refine bU ?_ _ | refine bJ ?_ | refine bD ?_ _)); refine fQ (cs := #[.slice none 0 0, .bool false, .int .i64 0, .int .i64 0]) ?_ 2 _ rfl; (with_reducible repeat (first | refine bU ?_ _ | refine bJ ?_ | refine bD ?_ _)); refine fQ (cs := #[.slice none 0 0, .bool false, .int .i64 0, .int .i64 0]) ?_ 1 _ rfl; (with_reducible repeat (first | refine bU ?_ _ | refine bJ ?_ | refine bD ?_ _)); refine fQ (cs := #[.slice none 0 0, .bool false, .int .i64 0, .int .i64 0]) ?_ 0 _ rfl; (with_reducible repeat (first | refine bU ?_ _ | refine bJ ?_ | refine bD ?_ _)); exact IC.out) Tryz.underlying27 rfl (by kernel_rfl)) rfl ?_
 exact ⟨_, by first | rfl | (simp [gI, gJ] <;> rfl) | (simp [*, gI, gJ] <;> rfl), by first | exact Kd.zV _ _ _ _ _ | exact Kd.qgy _ _ _ _ _ | exact Kd.qgz _ _ _ _ _ | exact Kd.qgt _ _ _ _ _ | exact Kd.qgw _ _ _ _ _, by repeat (first | (with_reducible first | exact HB.out | apply aT | apply aU | apply aY | refine bH ?_ qhh.out) | exact HB.out)⟩
end Go.Proofs.YtanonhipicoigaaGreatDoor.U
namespace Go.Proofs.YtanonhipicoigaaGreatDoor.U
open Go.RowKit Go.Proofs.YW.PrintWords Go.Proofs.YW.PrintLast Go.Proofs.YW.PrintMore Go.Proofs.YtanonhipicoigaaGreatDoor.Sp Go.Proofs.YtanonhipicoigaaGreatDoor.eP
set_option maxHeartbeats 1600000 in
set_option maxRecDepth 100000 in
theorem wL (w : World) (hG : Gl w) : Calls Tryz.prog 35 #[] w fun e w' => e = .returned (.bool true) ∧ Below w.heap.size w w' := by
 have HG := aA.mk hG
 clear hG
 obtain ⟨Q0, Q1, Q2, Q3, Q4, Q5, h0, r0, h1, s1, r1, h2, s2, r2, h3, s3, r3, h4, h5, h6⟩ := qgn
 have HO1 := aA.mk (fun A c w hr hc hG => sG A c [] false (-1) (-1) 100 5 w hr hc hG)
 have HP1 := aA.mk (fun A c B d w hr hc hre hce hG => put_any A c B d Q0 ⟨#[97]⟩ w hr hc hre hce hG r0.1 r0.2.1 r0.2.2)
 have HP2 := aA.mk (fun A c B d w hr hc hre hce hG => put_any A c B d Q1 ⟨#[98]⟩ w hr hc hre hce hG r1.1 r1.2.1 r1.2.2)
 have HLE := aA.mk (fun A c B d w hr hc hre hce hG => sF A c B d Q2 w hr hc hre hce hG r2.1 r2.2.1 r2.2.2)
 have HAK := aA.mk (fun A c B d w hr hc hre hce hG => NR A c B d Q3 1 w hr hc hre hce hG r3.1 r3.2.1 r3.2.2 (by decide) (by decide))
 have HO2 := aA.mk (fun A c w hr hc hG => sG A c Q4.L.l Q4.L.dn Q4.L.fu Q4.L.fa 100 5 w hr hc hG)
 rw [h0] at HO1
 rw [h1, s1] at HP1
 rw [h2, s2] at HP2
 rw [h3, s3] at HLE
 rw [h4] at HAK
 rw [h5] at HO2
 dsimp only at HO1 HP1 HP2 HLE HAK HO2
 have HE5 := aA.mk h6
 clear h0 r0 h1 s1 r1 h2 s2 r2 h3 s3 r3 h4 h5 h6
 have H := aA.mk (Sep.start w)
 go_enter Tryz.func35, Tryz.ntmps35
 go_wp2_with fail
 refine ((jI.calls [] false (-1) (-1) _ rfl).mono ?_)
 rintro e wd1 ⟨v_, rfl, ho_, hb_⟩
 obtain ⟨Af, cf, eo_⟩ := Kd.dU ho_
 subst eo_
 have n_ : aA (Sep w wd1 [row k67 67 (.slice Af (([] : List S67)).length cf) (([] : List S67))]) := ⟨Sep.iL H.out hb_ ho_ kN⟩
 clear H
 have H := n_
 clear n_
 clear ho_ hb_
 go_wp2_with fail
 refine ((HO1.out _ _ _ (H.out.reads aH).2.2 (H.out.reads aH).2.1 (HG.out.below H.out.below)).mono ?_)
 rintro e wd2 ⟨A0, c0, B0, d0, rfl, HJ⟩
 have n_ : aA (Sep w wd2 [row k67 67 (.slice A0 (Q0.L.l).length c0) Q0.L.l, row k41 41 (.slice B0 (Q0.es).length d0) Q0.es, row k67 67 (.slice Af (([] : List S67)).length cf) (([] : List S67))]) := ⟨dI H.out HJ.out⟩
 clear H
 have H := n_
 clear n_
 clear HJ
 simp only [qc, lgc, List.cons_append, List.nil_append]
 have n_ : aA (Sep w wd2 [row k67 67 (.slice A0 (Q0.L.l).length c0) Q0.L.l, row k41 41 (.slice B0 (Q0.es).length d0) Q0.es]) := ⟨Sep.drop2 H.out⟩
 clear H
 have H := n_
 clear n_
 go_wp2_with (first
 |((with_reducible refine aN (N := 1) rfl ?_);
   refine aX rfl H (cs := [.slice none 0 0, .bool false, .int .i64 0, .int .i64 0, .int .i64 0, .int .u64 0, .int .u64 0, .bool false, .slice none 0 0, .int .i64 0]) (t := 33) ?hr ?_;
   (case hr => first | (go_simp; done) | (go_simp; rfl));
   intro g1 wd3 n_;
   simp only [Act.put, zA, zZ, zS];
   clear H;
   have H := n_;
   clear n_;
   have c_1 := H.out.cell (g := g1) aH;
   have z_1 := H.out.frozen (g := g1) aH)
 |((with_reducible refine aK (t := 33) (p := 1) rfl ?_);
   refine aV (rs1 := [box g1 [.slice A0 Q0.L.l.length c0, .bool Q0.L.dn, .int .i64 Q0.L.fu, .int .i64 Q0.L.fa, .int .i64 Q0.L.size, .int .u64 Q0.L.fr, .int .u64 Q0.L.nx, .bool Q0.L.br, .slice B0 Q0.es.length d0, .int .i64 Q0.most] 33, row k67 67 (.slice A0 (Q0.L.l).length c0) Q0.L.l, row k41 41 (.slice B0 (Q0.es).length d0) Q0.es]) rfl (t := 33) (p := 1) rfl rfl ?hr (H1 := (Sep.set0 (Sep.set0 (Sep.set0 (Sep.set0 (Sep.set0 (Sep.set0 (Sep.set0 (Sep.set0 (Sep.set0 (Sep.set0 H.out 0 (.slice A0 Q0.L.l.length c0) rfl) 1 (.bool Q0.L.dn) rfl) 2 (.int .i64 Q0.L.fu) rfl) 3 (.int .i64 Q0.L.fa) rfl) 4 (.int .i64 Q0.L.size) rfl) 5 (.int .u64 Q0.L.fr) rfl) 6 (.int .u64 Q0.L.nx) rfl) 7 (.bool Q0.L.br) rfl) 8 (.slice B0 Q0.es.length d0) rfl) 9 (.int .i64 Q0.most) rfl)) ?_;
   (case hr => first | (go_simp; done) | (go_simp; rfl));
   intro wd4 n_;
   clear H c_1 z_1;
   have H := n_;
   clear n_;
   have c_1 := H.out.cell (g := g1) aH;
   have z_1 := H.out.frozen (g := g1) aH)
 |fail)
 refine ((HP1.out _ _ _ _ _ (H.out.reads mem1).2.2 (H.out.reads mem1).2.1 (H.out.reads mem2).2.2 (H.out.reads mem2).2.1 (HG.out.below H.out.below)).mono ?_)
 rintro e wd5 ⟨A1, c1, B1, d1, rfl, HJ⟩
 have n_ : aA (Sep w wd5 [row k67 67 (.slice A1 (Q1.L.l).length c1) Q1.L.l, row k41 41 (.slice B1 (Q1.es).length d1) Q1.es, box g1 [.slice A0 Q0.L.l.length c0, .bool Q0.L.dn, .int .i64 Q0.L.fu, .int .i64 Q0.L.fa, .int .i64 Q0.L.size, .int .u64 Q0.L.fr, .int .u64 Q0.L.nx, .bool Q0.L.br, .slice B0 Q0.es.length d0, .int .i64 Q0.most] 33, row k67 67 (.slice A0 (Q0.L.l).length c0) Q0.L.l, row k41 41 (.slice B0 (Q0.es).length d0) Q0.es]) := ⟨dI H.out HJ.out⟩
 clear H c_1 z_1
 have H := n_
 clear n_
 have c_1 := H.out.cell (g := g1) mem2
 have z_1 := H.out.frozen (g := g1) mem2
 clear HJ
 simp only [qc, lgc, List.cons_append, List.nil_append]
 have n_ : aA (Sep w wd5 [row k67 67 (.slice A1 (Q1.L.l).length c1) Q1.L.l, row k41 41 (.slice B1 (Q1.es).length d1) Q1.es, box g1 [.slice A0 Q0.L.l.length c0, .bool Q0.L.dn, .int .i64 Q0.L.fu, .int .i64 Q0.L.fa, .int .i64 Q0.L.size, .int .u64 Q0.L.fr, .int .u64 Q0.L.nx, .bool Q0.L.br, .slice B0 Q0.es.length d0, .int .i64 Q0.most] 33, row k41 41 (.slice B0 (Q0.es).length d0) Q0.es]) := ⟨Sep.iZ H.out⟩
 clear H c_1 z_1
 have H := n_
 clear n_
 have c_1 := H.out.cell (g := g1) mem2
 have z_1 := H.out.frozen (g := g1) mem2
 have n_ : aA (Sep w wd5 [row k67 67 (.slice A1 (Q1.L.l).length c1) Q1.L.l, row k41 41 (.slice B1 (Q1.es).length d1) Q1.es, box g1 [.slice A0 Q0.L.l.length c0, .bool Q0.L.dn, .int .i64 Q0.L.fu, .int .i64 Q0.L.fa, .int .i64 Q0.L.size, .int .u64 Q0.L.fr, .int .u64 Q0.L.nx, .bool Q0.L.br, .slice B0 Q0.es.length d0, .int .i64 Q0.most] 33]) := ⟨Sep.iZ H.out⟩
 clear H c_1 z_1
 have H := n_
 clear n_
 have c_1 := H.out.cell (g := g1) mem2
 have z_1 := H.out.frozen (g := g1) mem2
 go_wp2_with (first
 |((with_reducible refine aK (t := 33) (p := 1) rfl ?_);
   refine aV (rs1 := [row k67 67 (.slice A1 (Q1.L.l).length c1) Q1.L.l, row k41 41 (.slice B1 (Q1.es).length d1) Q1.es, box g1 [.slice A1 Q1.L.l.length c1, .bool Q1.L.dn, .int .i64 Q1.L.fu, .int .i64 Q1.L.fa, .int .i64 Q1.L.size, .int .u64 Q1.L.fr, .int .u64 Q1.L.nx, .bool Q1.L.br, .slice B1 Q1.es.length d1, .int .i64 Q1.most] 33]) rfl (t := 33) (p := 1) rfl rfl ?hr (H1 := (Sep.set2 (Sep.set2 (Sep.set2 (Sep.set2 (Sep.set2 (Sep.set2 (Sep.set2 (Sep.set2 (Sep.set2 (Sep.set2 H.out 0 (.slice A1 Q1.L.l.length c1) rfl) 1 (.bool Q1.L.dn) rfl) 2 (.int .i64 Q1.L.fu) rfl) 3 (.int .i64 Q1.L.fa) rfl) 4 (.int .i64 Q1.L.size) rfl) 5 (.int .u64 Q1.L.fr) rfl) 6 (.int .u64 Q1.L.nx) rfl) 7 (.bool Q1.L.br) rfl) 8 (.slice B1 Q1.es.length d1) rfl) 9 (.int .i64 Q1.most) rfl)) ?_;
   (case hr => first | (go_simp; done) | (go_simp; rfl));
   intro wd6 n_;
   clear H c_1 z_1;
   have H := n_;
   clear n_;
   have c_1 := H.out.cell (g := g1) mem2;
   have z_1 := H.out.frozen (g := g1) mem2)
 |fail)
 refine ((HP2.out _ _ _ _ _ (H.out.reads aH).2.2 (H.out.reads aH).2.1 (H.out.reads mem1).2.2 (H.out.reads mem1).2.1 (HG.out.below H.out.below)).mono ?_)
 rintro e wd7 ⟨A2, c2, B2, d2, rfl, HJ⟩
 have n_ : aA (Sep w wd7 [row k67 67 (.slice A2 (Q2.L.l).length c2) Q2.L.l, row k41 41 (.slice B2 (Q2.es).length d2) Q2.es, row k67 67 (.slice A1 (Q1.L.l).length c1) Q1.L.l, row k41 41 (.slice B1 (Q1.es).length d1) Q1.es, box g1 [.slice A1 Q1.L.l.length c1, .bool Q1.L.dn, .int .i64 Q1.L.fu, .int .i64 Q1.L.fa, .int .i64 Q1.L.size, .int .u64 Q1.L.fr, .int .u64 Q1.L.nx, .bool Q1.L.br, .slice B1 Q1.es.length d1, .int .i64 Q1.most] 33]) := ⟨dI H.out HJ.out⟩
 clear H c_1 z_1
 have H := n_
 clear n_
 have c_1 := H.out.cell (g := g1) bM
 have z_1 := H.out.frozen (g := g1) bM
 clear HJ
 simp only [qc, lgc, List.cons_append, List.nil_append]
 have n_ : aA (Sep w wd7 [row k67 67 (.slice A2 (Q2.L.l).length c2) Q2.L.l, row k41 41 (.slice B2 (Q2.es).length d2) Q2.es, row k41 41 (.slice B1 (Q1.es).length d1) Q1.es, box g1 [.slice A1 Q1.L.l.length c1, .bool Q1.L.dn, .int .i64 Q1.L.fu, .int .i64 Q1.L.fa, .int .i64 Q1.L.size, .int .u64 Q1.L.fr, .int .u64 Q1.L.nx, .bool Q1.L.br, .slice B1 Q1.es.length d1, .int .i64 Q1.most] 33]) := ⟨Sep.drop2 H.out⟩
 clear H c_1 z_1
 have H := n_
 clear n_
 have c_1 := H.out.cell (g := g1) mem3
 have z_1 := H.out.frozen (g := g1) mem3
 have n_ : aA (Sep w wd7 [row k67 67 (.slice A2 (Q2.L.l).length c2) Q2.L.l, row k41 41 (.slice B2 (Q2.es).length d2) Q2.es, box g1 [.slice A1 Q1.L.l.length c1, .bool Q1.L.dn, .int .i64 Q1.L.fu, .int .i64 Q1.L.fa, .int .i64 Q1.L.size, .int .u64 Q1.L.fr, .int .u64 Q1.L.nx, .bool Q1.L.br, .slice B1 Q1.es.length d1, .int .i64 Q1.most] 33]) := ⟨Sep.drop2 H.out⟩
 clear H c_1 z_1
 have H := n_
 clear n_
 have c_1 := H.out.cell (g := g1) mem2
 have z_1 := H.out.frozen (g := g1) mem2
 go_wp2_with (first
 |((with_reducible refine aK (t := 33) (p := 1) rfl ?_);
   refine aV (rs1 := [row k67 67 (.slice A2 (Q2.L.l).length c2) Q2.L.l, row k41 41 (.slice B2 (Q2.es).length d2) Q2.es, box g1 [.slice A2 Q2.L.l.length c2, .bool Q2.L.dn, .int .i64 Q2.L.fu, .int .i64 Q2.L.fa, .int .i64 Q2.L.size, .int .u64 Q2.L.fr, .int .u64 Q2.L.nx, .bool Q2.L.br, .slice B2 Q2.es.length d2, .int .i64 Q2.most] 33]) rfl (t := 33) (p := 1) rfl rfl ?hr (H1 := (Sep.set2 (Sep.set2 (Sep.set2 (Sep.set2 (Sep.set2 (Sep.set2 (Sep.set2 (Sep.set2 (Sep.set2 (Sep.set2 H.out 0 (.slice A2 Q2.L.l.length c2) rfl) 1 (.bool Q2.L.dn) rfl) 2 (.int .i64 Q2.L.fu) rfl) 3 (.int .i64 Q2.L.fa) rfl) 4 (.int .i64 Q2.L.size) rfl) 5 (.int .u64 Q2.L.fr) rfl) 6 (.int .u64 Q2.L.nx) rfl) 7 (.bool Q2.L.br) rfl) 8 (.slice B2 Q2.es.length d2) rfl) 9 (.int .i64 Q2.most) rfl)) ?_;
   (case hr => first | (go_simp; done) | (go_simp; rfl));
   intro wd8 n_;
   clear H c_1 z_1;
   have H := n_;
   clear n_;
   have c_1 := H.out.cell (g := g1) mem2;
   have z_1 := H.out.frozen (g := g1) mem2)
 |fail)
 refine ((HLE.out _ _ _ _ _ (H.out.reads aH).2.2 (H.out.reads aH).2.1 (H.out.reads mem1).2.2 (H.out.reads mem1).2.1 (HG.out.below H.out.below)).mono ?_)
 rintro e wd9 ⟨A3, c3, B3, d3, rfl, HJ⟩
 have n_ : aA (Sep w wd9 [row k67 67 (.slice A3 (Q3.L.l).length c3) Q3.L.l, row k41 41 (.slice B3 (Q3.es).length d3) Q3.es, row k67 67 (.slice A2 (Q2.L.l).length c2) Q2.L.l, row k41 41 (.slice B2 (Q2.es).length d2) Q2.es, box g1 [.slice A2 Q2.L.l.length c2, .bool Q2.L.dn, .int .i64 Q2.L.fu, .int .i64 Q2.L.fa, .int .i64 Q2.L.size, .int .u64 Q2.L.fr, .int .u64 Q2.L.nx, .bool Q2.L.br, .slice B2 Q2.es.length d2, .int .i64 Q2.most] 33]) := ⟨dI H.out HJ.out⟩
 clear H c_1 z_1
 have H := n_
 clear n_
 have c_1 := H.out.cell (g := g1) bM
 have z_1 := H.out.frozen (g := g1) bM
 clear HJ
 simp only [qc, lgc, List.cons_append, List.nil_append]
 have n_ : aA (Sep w wd9 [row k67 67 (.slice A3 (Q3.L.l).length c3) Q3.L.l, row k41 41 (.slice B3 (Q3.es).length d3) Q3.es, row k41 41 (.slice B2 (Q2.es).length d2) Q2.es, box g1 [.slice A2 Q2.L.l.length c2, .bool Q2.L.dn, .int .i64 Q2.L.fu, .int .i64 Q2.L.fa, .int .i64 Q2.L.size, .int .u64 Q2.L.fr, .int .u64 Q2.L.nx, .bool Q2.L.br, .slice B2 Q2.es.length d2, .int .i64 Q2.most] 33]) := ⟨Sep.drop2 H.out⟩
 clear H c_1 z_1
 have H := n_
 clear n_
 have c_1 := H.out.cell (g := g1) mem3
 have z_1 := H.out.frozen (g := g1) mem3
 have n_ : aA (Sep w wd9 [row k67 67 (.slice A3 (Q3.L.l).length c3) Q3.L.l, row k41 41 (.slice B3 (Q3.es).length d3) Q3.es, box g1 [.slice A2 Q2.L.l.length c2, .bool Q2.L.dn, .int .i64 Q2.L.fu, .int .i64 Q2.L.fa, .int .i64 Q2.L.size, .int .u64 Q2.L.fr, .int .u64 Q2.L.nx, .bool Q2.L.br, .slice B2 Q2.es.length d2, .int .i64 Q2.most] 33]) := ⟨Sep.drop2 H.out⟩
 clear H c_1 z_1
 have H := n_
 clear n_
 have c_1 := H.out.cell (g := g1) mem2
 have z_1 := H.out.frozen (g := g1) mem2
 clear c_1 z_1
 have c_1 := H.out.cell (g := g1) mem2
 have z_1 := H.out.frozen (g := g1) mem2
 go_wp2_with (first
 |((with_reducible refine aN (N := 7) rfl ?_);
   refine aX rfl H (cs := [.int .u64 0, .string ⟨#[]⟩, .bool false]) (t := 41) ?hr ?_;
   (case hr => first | (go_simp; done) | (go_simp; rfl));
   intro g7 DC n_;
   simp only [Act.put, zA, zZ, zS];
   clear H c_1 z_1;
   have H := n_;
   clear n_;
   have c_7 := H.out.cell (g := g7) aH;
   have z_7 := H.out.frozen (g := g7) aH;
   have c_1 := H.out.cell (g := g1) mem3;
   have z_1 := H.out.frozen (g := g1) mem3)
 |((with_reducible refine aK (t := 33) (p := 1) rfl ?_);
   refine aV (rs1 := [box g7 [.int .u64 0, .string ⟨#[]⟩, .bool false] 41, row k67 67 (.slice A3 (Q3.L.l).length c3) Q3.L.l, row k41 41 (.slice B3 (Q3.es).length d3) Q3.es, box g1 [.slice A3 Q3.L.l.length c3, .bool Q3.L.dn, .int .i64 Q3.L.fu, .int .i64 Q3.L.fa, .int .i64 Q3.L.size, .int .u64 Q3.L.fr, .int .u64 Q3.L.nx, .bool Q3.L.br, .slice B3 Q3.es.length d3, .int .i64 Q3.most] 33]) rfl (t := 33) (p := 1) rfl rfl ?hr (H1 := (Sep.dQ (Sep.dQ (Sep.dQ (Sep.dQ (Sep.dQ (Sep.dQ (Sep.dQ (Sep.dQ (Sep.dQ (Sep.dQ H.out 0 (.slice A3 Q3.L.l.length c3) rfl) 1 (.bool Q3.L.dn) rfl) 2 (.int .i64 Q3.L.fu) rfl) 3 (.int .i64 Q3.L.fa) rfl) 4 (.int .i64 Q3.L.size) rfl) 5 (.int .u64 Q3.L.fr) rfl) 6 (.int .u64 Q3.L.nx) rfl) 7 (.bool Q3.L.br) rfl) 8 (.slice B3 Q3.es.length d3) rfl) 9 (.int .i64 Q3.most) rfl)) ?_;
   (case hr => first | (go_simp; done) | (go_simp; rfl));
   intro MO n_;
   clear H c_7 z_7 c_1 z_1;
   have H := n_;
   clear n_;
   have c_7 := H.out.cell (g := g7) aH;
   have z_7 := H.out.frozen (g := g7) aH;
   have c_1 := H.out.cell (g := g1) mem3;
   have z_1 := H.out.frozen (g := g1) mem3)
 |((with_reducible refine aK (t := 41) (p := 7) rfl ?_);
   refine aV (rs1 := [box g7 [.int .u64 1, .string ⟨#[97]⟩, .bool true] 41, row k67 67 (.slice A3 (Q3.L.l).length c3) Q3.L.l, row k41 41 (.slice B3 (Q3.es).length d3) Q3.es, box g1 [.slice A3 Q3.L.l.length c3, .bool Q3.L.dn, .int .i64 Q3.L.fu, .int .i64 Q3.L.fa, .int .i64 Q3.L.size, .int .u64 Q3.L.fr, .int .u64 Q3.L.nx, .bool Q3.L.br, .slice B3 Q3.es.length d3, .int .i64 Q3.most] 33]) rfl (t := 41) (p := 7) rfl rfl ?hr (H1 := (Sep.set0 (Sep.set0 (Sep.set0 H.out 0 (.int .u64 1) rfl) 1 (.string ⟨#[97]⟩) rfl) 2 (.bool true) rfl)) ?_;
   (case hr => first | (go_simp; done) | (go_simp; rfl));
   intro yV n_;
   clear H c_7 z_7 c_1 z_1;
   have H := n_;
   clear n_;
   have c_7 := H.out.cell (g := g7) aH;
   have z_7 := H.out.frozen (g := g7) aH;
   have c_1 := H.out.cell (g := g1) mem3;
   have z_1 := H.out.frozen (g := g1) mem3)
 |fail)
 refine ((HAK.out _ _ _ _ _ (H.out.reads mem1).2.2 (H.out.reads mem1).2.1 (H.out.reads mem2).2.2 (H.out.reads mem2).2.1 (HG.out.below H.out.below)).mono ?_)
 rintro e DF ⟨A4, c4, B4, d4, rfl, HJ⟩
 have n_ : aA (Sep w DF [row k67 67 (.slice A4 (Q4.L.l).length c4) Q4.L.l, row k41 41 (.slice B4 (Q4.es).length d4) Q4.es, box g7 [.int .u64 1, .string ⟨#[97]⟩, .bool true] 41, row k67 67 (.slice A3 (Q3.L.l).length c3) Q3.L.l, row k41 41 (.slice B3 (Q3.es).length d3) Q3.es, box g1 [.slice A3 Q3.L.l.length c3, .bool Q3.L.dn, .int .i64 Q3.L.fu, .int .i64 Q3.L.fa, .int .i64 Q3.L.size, .int .u64 Q3.L.fr, .int .u64 Q3.L.nx, .bool Q3.L.br, .slice B3 Q3.es.length d3, .int .i64 Q3.most] 33]) := ⟨dI H.out HJ.out⟩
 clear H c_7 z_7 c_1 z_1
 have H := n_
 clear n_
 have c_7 := H.out.cell (g := g7) mem2
 have z_7 := H.out.frozen (g := g7) mem2
 have c_1 := H.out.cell (g := g1) dM
 have z_1 := H.out.frozen (g := g1) dM
 clear HJ
 simp only [qc, lgc, List.cons_append, List.nil_append]
 have n_ : aA (Sep w DF [row k67 67 (.slice A4 (Q4.L.l).length c4) Q4.L.l, row k41 41 (.slice B4 (Q4.es).length d4) Q4.es, box g7 [.int .u64 1, .string ⟨#[97]⟩, .bool true] 41, row k41 41 (.slice B3 (Q3.es).length d3) Q3.es, box g1 [.slice A3 Q3.L.l.length c3, .bool Q3.L.dn, .int .i64 Q3.L.fu, .int .i64 Q3.L.fa, .int .i64 Q3.L.size, .int .u64 Q3.L.fr, .int .u64 Q3.L.nx, .bool Q3.L.br, .slice B3 Q3.es.length d3, .int .i64 Q3.most] 33]) := ⟨Sep.iZ H.out⟩
 clear H c_7 z_7 c_1 z_1
 have H := n_
 clear n_
 have c_7 := H.out.cell (g := g7) mem2
 have z_7 := H.out.frozen (g := g7) mem2
 have c_1 := H.out.cell (g := g1) bM
 have z_1 := H.out.frozen (g := g1) bM
 have n_ : aA (Sep w DF [row k67 67 (.slice A4 (Q4.L.l).length c4) Q4.L.l, row k41 41 (.slice B4 (Q4.es).length d4) Q4.es, box g7 [.int .u64 1, .string ⟨#[97]⟩, .bool true] 41, box g1 [.slice A3 Q3.L.l.length c3, .bool Q3.L.dn, .int .i64 Q3.L.fu, .int .i64 Q3.L.fa, .int .i64 Q3.L.size, .int .u64 Q3.L.fr, .int .u64 Q3.L.nx, .bool Q3.L.br, .slice B3 Q3.es.length d3, .int .i64 Q3.most] 33]) := ⟨Sep.iZ H.out⟩
 clear H c_7 z_7 c_1 z_1
 have H := n_
 clear n_
 have c_7 := H.out.cell (g := g7) mem2
 have z_7 := H.out.frozen (g := g7) mem2
 have c_1 := H.out.cell (g := g1) mem3
 have z_1 := H.out.frozen (g := g1) mem3
 go_wp2_with (first
 |((with_reducible refine aK (t := 33) (p := 1) rfl ?_);
   refine aV (rs1 := [row k67 67 (.slice A4 (Q4.L.l).length c4) Q4.L.l, row k41 41 (.slice B4 (Q4.es).length d4) Q4.es, box g7 [.int .u64 1, .string ⟨#[97]⟩, .bool true] 41, box g1 [.slice A4 Q4.L.l.length c4, .bool Q4.L.dn, .int .i64 Q4.L.fu, .int .i64 Q4.L.fa, .int .i64 Q4.L.size, .int .u64 Q4.L.fr, .int .u64 Q4.L.nx, .bool Q4.L.br, .slice B4 Q4.es.length d4, .int .i64 Q4.most] 33]) rfl (t := 33) (p := 1) rfl rfl ?hr (H1 := (Sep.dQ (Sep.dQ (Sep.dQ (Sep.dQ (Sep.dQ (Sep.dQ (Sep.dQ (Sep.dQ (Sep.dQ (Sep.dQ H.out 0 (.slice A4 Q4.L.l.length c4) rfl) 1 (.bool Q4.L.dn) rfl) 2 (.int .i64 Q4.L.fu) rfl) 3 (.int .i64 Q4.L.fa) rfl) 4 (.int .i64 Q4.L.size) rfl) 5 (.int .u64 Q4.L.fr) rfl) 6 (.int .u64 Q4.L.nx) rfl) 7 (.bool Q4.L.br) rfl) 8 (.slice B4 Q4.es.length d4) rfl) 9 (.int .i64 Q4.most) rfl)) ?_;
   (case hr => first | (go_simp; done) | (go_simp; rfl));
   intro PE n_;
   clear H c_7 z_7 c_1 z_1;
   have H := n_;
   clear n_;
   have c_7 := H.out.cell (g := g7) mem2;
   have z_7 := H.out.frozen (g := g7) mem2;
   have c_1 := H.out.cell (g := g1) mem3;
   have z_1 := H.out.frozen (g := g1) mem3)
 |fail)
 refine ((HO2.out _ _ _ (H.out.reads aH).2.2 (H.out.reads aH).2.1 (HG.out.below H.out.below)).mono ?_)
 rintro e DI ⟨A5, c5, B5, d5, rfl, HJ⟩
 have n_ : aA (Sep w DI [row k67 67 (.slice A5 (Q5.L.l).length c5) Q5.L.l, row k41 41 (.slice B5 (Q5.es).length d5) Q5.es, row k67 67 (.slice A4 (Q4.L.l).length c4) Q4.L.l, row k41 41 (.slice B4 (Q4.es).length d4) Q4.es, box g7 [.int .u64 1, .string ⟨#[97]⟩, .bool true] 41, box g1 [.slice A4 Q4.L.l.length c4, .bool Q4.L.dn, .int .i64 Q4.L.fu, .int .i64 Q4.L.fa, .int .i64 Q4.L.size, .int .u64 Q4.L.fr, .int .u64 Q4.L.nx, .bool Q4.L.br, .slice B4 Q4.es.length d4, .int .i64 Q4.most] 33]) := ⟨dI H.out HJ.out⟩
 clear H c_7 z_7 c_1 z_1
 have H := n_
 clear n_
 have c_7 := H.out.cell (g := g7) bM
 have z_7 := H.out.frozen (g := g7) bM
 have c_1 := H.out.cell (g := g1) dM
 have z_1 := H.out.frozen (g := g1) dM
 clear HJ
 simp only [qc, lgc, List.cons_append, List.nil_append]
 have n_ : aA (Sep w DI [row k67 67 (.slice A5 (Q5.L.l).length c5) Q5.L.l, row k41 41 (.slice B5 (Q5.es).length d5) Q5.es, row k41 41 (.slice B4 (Q4.es).length d4) Q4.es, box g7 [.int .u64 1, .string ⟨#[97]⟩, .bool true] 41, box g1 [.slice A4 Q4.L.l.length c4, .bool Q4.L.dn, .int .i64 Q4.L.fu, .int .i64 Q4.L.fa, .int .i64 Q4.L.size, .int .u64 Q4.L.fr, .int .u64 Q4.L.nx, .bool Q4.L.br, .slice B4 Q4.es.length d4, .int .i64 Q4.most] 33]) := ⟨Sep.drop2 H.out⟩
 clear H c_7 z_7 c_1 z_1
 have H := n_
 clear n_
 have c_7 := H.out.cell (g := g7) mem3
 have z_7 := H.out.frozen (g := g7) mem3
 have c_1 := H.out.cell (g := g1) bM
 have z_1 := H.out.frozen (g := g1) bM
 have n_ : aA (Sep w DI [row k67 67 (.slice A5 (Q5.L.l).length c5) Q5.L.l, row k41 41 (.slice B5 (Q5.es).length d5) Q5.es, box g7 [.int .u64 1, .string ⟨#[97]⟩, .bool true] 41, box g1 [.slice A4 Q4.L.l.length c4, .bool Q4.L.dn, .int .i64 Q4.L.fu, .int .i64 Q4.L.fa, .int .i64 Q4.L.size, .int .u64 Q4.L.fr, .int .u64 Q4.L.nx, .bool Q4.L.br, .slice B4 Q4.es.length d4, .int .i64 Q4.most] 33]) := ⟨Sep.drop2 H.out⟩
 clear H c_7 z_7 c_1 z_1
 have H := n_
 clear n_
 have c_7 := H.out.cell (g := g7) mem2
 have z_7 := H.out.frozen (g := g7) mem2
 have c_1 := H.out.cell (g := g1) mem3
 have z_1 := H.out.frozen (g := g1) mem3
 clear c_7 z_7 c_1 z_1
 have c_7 := H.out.cell (g := g7) mem2
 have c_1 := H.out.cell (g := g1) mem3
 have z_1 := H.out.frozen (g := g1) mem3
 go_upto_region 7 with (first
 |((with_reducible refine aN (N := 10) rfl ?_);
   refine aX rfl H (cs := [.slice none 0 0, .bool false, .int .i64 0, .int .i64 0, .int .i64 0, .int .u64 0, .int .u64 0, .bool false, .slice none 0 0, .int .i64 0]) (t := 33) ?hr ?_;
   (case hr => first | (go_simp; done) | (go_simp; rfl));
   intro g10 QT n_;
   simp only [Act.put, zA, zZ, zS];
   clear H c_7 c_1 z_1;
   have H := n_;
   clear n_;
   have qhi := H.out.cell (g := g10) aH;
   have qhj := H.out.frozen (g := g10) aH;
   have c_7 := H.out.cell (g := g7) mem3;
   have c_1 := H.out.cell (g := g1) bM;
   have z_1 := H.out.frozen (g := g1) bM)
 |((with_reducible refine aK (t := 33) (p := 10) rfl ?_);
   refine aV (rs1 := [box g10 [.slice A5 Q5.L.l.length c5, .bool Q5.L.dn, .int .i64 Q5.L.fu, .int .i64 Q5.L.fa, .int .i64 Q5.L.size, .int .u64 Q5.L.fr, .int .u64 Q5.L.nx, .bool Q5.L.br, .slice B5 Q5.es.length d5, .int .i64 Q5.most] 33, row k67 67 (.slice A5 (Q5.L.l).length c5) Q5.L.l, row k41 41 (.slice B5 (Q5.es).length d5) Q5.es, box g7 [.int .u64 1, .string ⟨#[97]⟩, .bool true] 41, box g1 [.slice A4 Q4.L.l.length c4, .bool Q4.L.dn, .int .i64 Q4.L.fu, .int .i64 Q4.L.fa, .int .i64 Q4.L.size, .int .u64 Q4.L.fr, .int .u64 Q4.L.nx, .bool Q4.L.br, .slice B4 Q4.es.length d4, .int .i64 Q4.most] 33]) rfl (t := 33) (p := 10) rfl rfl ?hr (H1 := (Sep.set0 (Sep.set0 (Sep.set0 (Sep.set0 (Sep.set0 (Sep.set0 (Sep.set0 (Sep.set0 (Sep.set0 (Sep.set0 H.out 0 (.slice A5 Q5.L.l.length c5) rfl) 1 (.bool Q5.L.dn) rfl) 2 (.int .i64 Q5.L.fu) rfl) 3 (.int .i64 Q5.L.fa) rfl) 4 (.int .i64 Q5.L.size) rfl) 5 (.int .u64 Q5.L.fr) rfl) 6 (.int .u64 Q5.L.nx) rfl) 7 (.bool Q5.L.br) rfl) 8 (.slice B5 Q5.es.length d5) rfl) 9 (.int .i64 Q5.most) rfl)) ?_;
   (case hr => first | (go_simp; done) | (go_simp; rfl));
   intro XB n_;
   clear H qhi qhj c_7 c_1 z_1;
   have H := n_;
   clear n_;
   have qhi := H.out.cell (g := g10) aH;
   have qhj := H.out.frozen (g := g10) aH;
   have c_7 := H.out.cell (g := g7) mem3;
   have c_1 := H.out.cell (g := g1) bM;
   have z_1 := H.out.frozen (g := g1) bM)
 |fail)
 have hel : Q5.es.length = 1 := by rw [HE5.out]; rfl
 have qkz : (Q5.es.length : Int) = 1 := by rw [hel]; rfl
 obtain ⟨gp, hgp⟩ := pI (B := B5) (d := d5) (es := Q5.es) H.out mem2 (by omega)
 subst hgp
 obtain ⟨q0, q1, q2, -⟩ := pX (gp := gp) (d := d5) (es := Q5.es) (i := 0) (x := ⟨2, ⟨#[98]⟩, false⟩) H.out mem2 (by rw [HE5.out]; rfl)
 simp only [Nat.zero_mul, Nat.zero_add] at q0 q1 q2
 have qkA : (0 : Int) < (Q5.es.length : Int) := by omega
 have qkB : 0 < Q5.es.length := by omega
 clear hel
 go_wp2_with fail
 go_ret
 exact ⟨rfl, H.out.below⟩
end Go.Proofs.YtanonhipicoigaaGreatDoor.U
