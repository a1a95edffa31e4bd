import Derived.Test.YtanonhipicoigaaGreatDoorZRai
import Derived.Test.YtanonhipicoigaaGreatDoorZRas
import Derived.Test.YtanonhipicoigaaGreatDoorZRar
import Derived.Test.YtanonhipicoigaaGreatDoorZRap
import Derived.Test.YtanonhipicoigaaGreatDoorZRao
import Derived.Test.YtanonhipicoigaaGreatDoorZRag
set_option linter.unusedVariables false
set_option linter.unusedSimpArgs false
set_option maxRecDepth 100000
namespace Go.Proofs.U
open Go.ChangeShapes Go.WideShapes Go.Deep Go.RowKit Go.Proofs.aA.aK Go.Proofs.aA.aW Go.Proofs.aA.aX
section
variable {H : Type} {enc : TypeId × Value → H} {w : World} {base : Nat} {held : Bool}
theorem open_entries {fuel : Nat} {v : Value} {x : DataW H × List MemPlace} (h : DataW.trod enc Tryz.prog w base (fun _ => true) held fuel 31 [v] = some x) :
  ∃ (A : Option Addr) (l : List S41) (c : Nat), v = .slice A l.length c ∧ l.length ≤ c ∧ Kd.C k41 w A l.length l := by
 rcases open_slice Tryz.underlying31 h with h0 | ⟨a, len, cap, m, n, D, Pl, hcs, hb, hl, hm, hmm, hx, hi⟩
 ·obtain ⟨h0, _⟩ := h0
  simp only [List.cons.injEq, and_true] at h0
  exact ⟨none, [], 0, h0, Nat.le_refl _, Kd.PK _ _⟩
 ·simp only [List.cons.injEq, and_true] at hcs
  subst hcs
  have key : ∀ i, i < len → ∃ p : S41, ∀ j u, [Value.int .u64 p.f0, Value.string p.f1, Value.bool p.f2][j]? = some u → w.cell? (a.add (i * 3 + j)) = some u := by
   intro i hi2
   obtain ⟨cs', hc, ht'⟩ := hi i (by rw [hmm]; simp; omega)
   rw [show Tryz.prog.cellsOf 41 = 3 by kernel_rfl] at hc
   obtain ⟨ys, n', hn', hy, hlen, hyl, hf⟩ := DataW.trod_struct Tryz.underlying41 ht'
   obtain ⟨_, hcl, hat⟩ := World.cells?_some hc
   match cs', hcl with
   | [c0, c1, c2], _ =>
    have e9 : Tryz.prog.cellsOf 9 = 1 := by kernel_rfl
    have e28 : Tryz.prog.cellsOf 28 = 1 := by kernel_rfl
    have e4 : Tryz.prog.cellsOf 4 = 1 := by kernel_rfl
    have h0 : DataW.trod enc Tryz.prog w base (fun _ => true) held n' 28 (List.take (Tryz.prog.cellsOf 28) (List.drop 0 [c0, c1, c2])) = ys[0]? := hf 0 _ rfl
    have h1 : DataW.trod enc Tryz.prog w base (fun _ => true) held n' 9 (List.take (Tryz.prog.cellsOf 9) (List.drop 1 [c0, c1, c2])) = ys[1]? := hf 1 _ rfl
    have h2 : DataW.trod enc Tryz.prog w base (fun _ => true) held n' 4 (List.take (Tryz.prog.cellsOf 4) (List.drop 2 [c0, c1, c2])) = ys[2]? := hf 2 _ rfl
    rw [e28] at h0
    rw [e9] at h1
    rw [e4] at h2
    have hy3 : ys.length = 3 := hyl
    rw [List.getElem?_eq_getElem (by omega)] at h0 h1 h2
    obtain ⟨s0, q0, _⟩ := DataW.trod_int Tryz.underlying28 h0
    obtain ⟨s1, q1, _⟩ := DataW.trod_string Tryz.underlying9 h1
    obtain ⟨s2, q2, _⟩ := DataW.trod_bool Tryz.underlying4 h2
    obtain rfl : c0 = .int .u64 s0 := by simpa using q0
    obtain rfl : c1 = .string s1 := by simpa using q1
    obtain rfl : c2 = .bool s2 := by simpa using q2
    refine ⟨⟨s0, s1, s2⟩, fun j u hu => ?_⟩
    have hj : j < 3 := (List.getElem?_eq_some_iff.1 hu).1
    have := hat j hj
    rw [← Go.Deep.add_add, this]
    exact hu
  obtain ⟨l, hll, hq⟩ := VQ len key
  refine ⟨some a, l, cap, by rw [hll], by omega, rfl, by unfold maxLen at hm; omega, fun _ => ⟨a, rfl, fun j p hj => ⟨_, rfl, qaw w p, ?_⟩⟩⟩
  exact hq j p hj
theorem uT {n : Int} (h : (Lit.int .u64 n).wf = true) : 0 ≤ n ∧ n < 18446744073709551616 := by
 have h2 : IntKind.u64.min ≤ n ∧ n ≤ IntKind.u64.max := by simpa [Lit.wf] using h
 have h3 : IntKind.u64.max = 18446744073709551615 := rfl
 exact ⟨h2.1, by omega⟩
theorem qdZ {α : Type} : ∀ {l : List α}, l.length = 10 → ∃ c0 c1 c2 c3 c4 c5 c6 c7 c8 c9, l = [c0, c1, c2, c3, c4, c5, c6, c7, c8, c9]
 | [c0, c1, c2, c3, c4, c5, c6, c7, c8, c9], _ => ⟨c0, c1, c2, c3, c4, c5, c6, c7, c8, c9, rfl⟩
theorem U8 {r : Reach} {b0 : Nat} {v : Value} {d : DataW H} {p : List MemPlace} (hv : Value.okWide Tryz.prog w r b0 33 v) (h : DataW.Trod enc Tryz.prog w base (fun _ => true) held 33 v d p) :
  ∃ A c B e Q, v = .agg (qc A c B e Q).toArray ∧ Kd.C k67 w A Q.L.l.length Q.L.l ∧ Q.L.l.length ≤ c ∧ Kd.C k41 w B Q.es.length Q.es ∧ Q.es.length ≤ e ∧ okR Q := by
 obtain ⟨cs, rfl, hsz⟩ := okWide_struct Tryz.underlying33 hv
 rw [show Tryz.prog.cellsOf 33 = 10 by kernel_rfl] at hsz
 obtain ⟨fuel, hf⟩ := h
 obtain ⟨cs⟩ := cs
 obtain ⟨c0, c1, c2, c3, c4, c5, c6, c7, c8, c9, rfl⟩ := qdZ (l := cs) (by simpa using hsz)
 have hf2 : DataW.trod enc Tryz.prog w base (fun _ => true) held fuel 33 [c0, c1, c2, c3, c4, c5, c6, c7, c8, c9] = some (d, p) := hf
 obtain ⟨ys, n, _, _, _, hyl, hfl⟩ := DataW.trod_struct Tryz.underlying33 hf2
 have hy3 : ys.length = 3 := hyl
 have e27 : Tryz.prog.cellsOf 27 = 4 := by kernel_rfl
 have e30 : Tryz.prog.cellsOf 30 = 8 := by kernel_rfl
 have e31 : Tryz.prog.cellsOf 31 = 1 := by kernel_rfl
 have e25 : Tryz.prog.cellsOf 25 = 1 := by kernel_rfl
 have e28 : Tryz.prog.cellsOf 28 = 1 := by kernel_rfl
 have e3 : Tryz.prog.cellsOf 3 = 1 := by kernel_rfl
 have e4 : Tryz.prog.cellsOf 4 = 1 := by kernel_rfl
 have a0 : DataW.trod enc Tryz.prog w base (fun _ => true) held n 30 (List.take (Tryz.prog.cellsOf 30) (List.drop 0 [c0, c1, c2, c3, c4, c5, c6, c7, c8, c9])) = ys[0]? := hfl 0 _ rfl
 have a1 : DataW.trod enc Tryz.prog w base (fun _ => true) held n 31 (List.take (Tryz.prog.cellsOf 31) (List.drop 8 [c0, c1, c2, c3, c4, c5, c6, c7, c8, c9])) = ys[1]? := hfl 1 _ rfl
 have a2 : DataW.trod enc Tryz.prog w base (fun _ => true) held n 3 (List.take (Tryz.prog.cellsOf 3) (List.drop 9 [c0, c1, c2, c3, c4, c5, c6, c7, c8, c9])) = ys[2]? := hfl 2 _ rfl
 rw [e30, List.getElem?_eq_getElem (by omega)] at a0
 rw [e31, List.getElem?_eq_getElem (by omega)] at a1
 rw [e3, List.getElem?_eq_getElem (by omega)] at a2
 have a0' : DataW.trod enc Tryz.prog w base (fun _ => true) held n 30 [c0, c1, c2, c3, c4, c5, c6, c7] = some ys[0] := a0
 have a1' : DataW.trod enc Tryz.prog w base (fun _ => true) held n 31 [c8] = some ys[1] := a1
 have a2' : DataW.trod enc Tryz.prog w base (fun _ => true) held n 3 [c9] = some ys[2] := a2
 obtain ⟨zs, m, _, _, _, hzl, hfz⟩ := DataW.trod_struct Tryz.underlying30 a0'
 have hz5 : zs.length = 5 := hzl
 have b0 : DataW.trod enc Tryz.prog w base (fun _ => true) held m 27 (List.take (Tryz.prog.cellsOf 27) (List.drop 0 [c0, c1, c2, c3, c4, c5, c6, c7])) = zs[0]? := hfz 0 _ rfl
 have b1 : DataW.trod enc Tryz.prog w base (fun _ => true) held m 3 (List.take (Tryz.prog.cellsOf 3) (List.drop 4 [c0, c1, c2, c3, c4, c5, c6, c7])) = zs[1]? := hfz 1 _ rfl
 have b2 : DataW.trod enc Tryz.prog w base (fun _ => true) held m 28 (List.take (Tryz.prog.cellsOf 28) (List.drop 5 [c0, c1, c2, c3, c4, c5, c6, c7])) = zs[2]? := hfz 2 _ rfl
 have b3 : DataW.trod enc Tryz.prog w base (fun _ => true) held m 28 (List.take (Tryz.prog.cellsOf 28) (List.drop 6 [c0, c1, c2, c3, c4, c5, c6, c7])) = zs[3]? := hfz 3 _ rfl
 have b4 : DataW.trod enc Tryz.prog w base (fun _ => true) held m 4 (List.take (Tryz.prog.cellsOf 4) (List.drop 7 [c0, c1, c2, c3, c4, c5, c6, c7])) = zs[4]? := hfz 4 _ rfl
 rw [e27, List.getElem?_eq_getElem (by omega)] at b0
 rw [e3, List.getElem?_eq_getElem (by omega)] at b1
 rw [e28, List.getElem?_eq_getElem (by omega)] at b2 b3
 rw [e4, List.getElem?_eq_getElem (by omega)] at b4
 have b0' : DataW.trod enc Tryz.prog w base (fun _ => true) held m 27 [c0, c1, c2, c3] = some zs[0] := b0
 obtain ⟨us, k, _, _, _, hul, hfu⟩ := DataW.trod_struct Tryz.underlying27 b0'
 have hu4 : us.length = 4 := hul
 have g0 : DataW.trod enc Tryz.prog w base (fun _ => true) held k 25 (List.take (Tryz.prog.cellsOf 25) (List.drop 0 [c0, c1, c2, c3])) = us[0]? := hfu 0 _ rfl
 have g1 : DataW.trod enc Tryz.prog w base (fun _ => true) held k 4 (List.take (Tryz.prog.cellsOf 4) (List.drop 1 [c0, c1, c2, c3])) = us[1]? := hfu 1 _ rfl
 have g2 : DataW.trod enc Tryz.prog w base (fun _ => true) held k 3 (List.take (Tryz.prog.cellsOf 3) (List.drop 2 [c0, c1, c2, c3])) = us[2]? := hfu 2 _ rfl
 have g3 : DataW.trod enc Tryz.prog w base (fun _ => true) held k 3 (List.take (Tryz.prog.cellsOf 3) (List.drop 3 [c0, c1, c2, c3])) = us[3]? := hfu 3 _ rfl
 rw [e25, List.getElem?_eq_getElem (by omega)] at g0
 rw [e4, List.getElem?_eq_getElem (by omega)] at g1
 rw [e3, List.getElem?_eq_getElem (by omega)] at g2 g3
 have g0' : DataW.trod enc Tryz.prog w base (fun _ => true) held k 25 [c0] = some us[0] := g0
 obtain ⟨A, l, c, rfl, hlc, hC⟩ := SN g0'
 obtain ⟨B, es, e, rfl, hec, hE⟩ := open_entries a1'
 obtain ⟨dn, q1, _⟩ := DataW.trod_bool Tryz.underlying4 g1
 obtain ⟨fu, q2, _⟩ := DataW.trod_int Tryz.underlying3 g2
 obtain ⟨fa, q3, _⟩ := DataW.trod_int Tryz.underlying3 g3
 obtain ⟨sz, q4, _⟩ := DataW.trod_int Tryz.underlying3 b1
 obtain ⟨fr, q5, _, w5⟩ := DataW.trod_int Tryz.underlying28 b2
 obtain ⟨nx, q6, _, w6⟩ := DataW.trod_int Tryz.underlying28 b3
 obtain ⟨br, q7, _⟩ := DataW.trod_bool Tryz.underlying4 b4
 obtain ⟨mo, q9, _⟩ := DataW.trod_int Tryz.underlying3 a2'
 obtain rfl : c1 = .bool dn := by simpa using q1
 obtain rfl : c2 = .int .i64 fu := by simpa using q2
 obtain rfl : c3 = .int .i64 fa := by simpa using q3
 obtain rfl : c4 = .int .i64 sz := by simpa using q4
 obtain rfl : c5 = .int .u64 fr := by simpa using q5
 obtain rfl : c6 = .int .u64 nx := by simpa using q6
 obtain rfl : c7 = .bool br := by simpa using q7
 obtain rfl : c9 = .int .i64 mo := by simpa using q9
 exact ⟨A, c, B, e, ⟨⟨l, dn, fu, fa, sz, fr, nx, br⟩, es, mo⟩, rfl, hC, hlc, hE, hec, (uT w5).1, (uT w6).1, (uT w6).2⟩
end
end Go.Proofs.U
namespace Go.Proofs.U
open Go.RowKit Go.Proofs.aA.aK Go.Proofs.aA.aW Go.Proofs.aA.aX
attribute [local go_sem] iD iG jB jJ gU gV iP iQ
end Go.Proofs.U
namespace Go.Proofs.U
open Go.RowKit Go.Proofs.aA.aK Go.Proofs.aA.aW Go.Proofs.aA.aX
attribute [local go_sem] iD iG jB jJ gU gV iP iQ
theorem qeL (d : Nat) (w : World) (x0 y0 : Int) (x1 y1 : ByteArray) (x2 y2 : Bool) :
  (Op.equalIn (d + 2) 41 (.agg #[.int .u64 x0, .string x1, .bool x2]) (.agg #[.int .u64 y0, .string y1, .bool y2])).run Tryz.prog w = .ok (x0 == y0 && (x1.toList == y1.toList && (x2 == y2))) w := by
 refine SL Tryz.underlying41 (by kernel_rfl) ?_
 refine wH (by rfl) (by go_simp; rfl) (by go_simp; rfl) (by go_simp) ?_
 refine wH (by rfl) (by go_simp; rfl) (by go_simp; rfl) (by go_simp) ?_
 exact IL (by rfl) (by go_simp; rfl) (by go_simp; rfl) (by go_simp)
end Go.Proofs.U
namespace Go.Proofs.U
open Go.RowKit Go.Proofs.aA.aK Go.Proofs.aA.aW Go.Proofs.aA.aX
attribute [local go_sem] iD iG jB jJ gU gV iP iQ
attribute [local go_sem high] qeL
def bU.l0 : Nat → List (S41) → List (S41) → Int → Int → Option (Bool)
 | 0, _, _, _, _ => none
 | k + 1, x0, x1, x12, x13 => if x13 < x12 then (if 0 ≤ x13 then (if x13 < (x0.length : Int) then (if x13 < (x1.length : Int) then (if (!(((dN x0 x13).f0) == ((dN x1 x13).f0)) || (!((((dN x0 x13).f1).toList) == (((dN x1 x13).f1).toList)) || (!(((dN x0 x13).f2) == ((dN x1 x13).f2))))) = true then (some false) else (bU.l0 k x0 x1 x12 (wrap64 (x13 + 1)))) else (none)) else (none)) else (none)) else (some true)
def bU.f (k : Nat) (l0 : List (S41)) (l1 : List (S41)) : Option (Bool) := if (l0.length : Int) = (l1.length : Int) then (bU.l0 k l0 l1 (l0.length : Int) 0) else (some false)
set_option maxHeartbeats 8000000 in
theorem bU.calls (k : Nat) (A0 : Option Addr) (c0 : Nat) (l0 : List (S41)) (A1 : Option Addr) (c1 : Nat) (l1 : List (S41)) (r : Bool) (w : World) (hr0 : Kd.C k41 w A0 l0.length l0) (hc0 : l0.length ≤ c0) (hr1 : Kd.C k41 w A1 l1.length l1) (hc1 : l1.length ≤ c1) (h : bU.f k l0 l1 = some r) :
    Calls Tryz.prog 86 #[.slice A0 l0.length c0, .slice A1 l1.length c1] w fun e w' => e = .returned (.bool r) ∧ eY w w' := by
  have qhA := Tryz.underlying41
  have HR0 := aC.mk hr0
  have HC0 := aC.mk hc0
  clear hr0 hc0
  have HR1 := aC.mk hr1
  have HC1 := aC.mk hc1
  clear hr1 hc1
  have H : (if (l0.length : Int) = (l1.length : Int) then (bU.l0 k l0 l1 (l0.length : Int) 0) else (some false)) = some r := h
  clear h
  by_cases c3 : (l0.length : Int) = (l1.length : Int)
  · rw [if_pos c3] at H
    have F6 : ((l0.length : Int) == (l1.length : Int)) = true := beq_iff_eq.mpr c3
    have Q7 : ((l0.length : Int) != (l1.length : Int)) = false := bne_eq_false_iff_eq.mpr c3
    have qeM : (l0.length == l1.length) = true := by first | simpa using c3 | (simp at c3 ⊢; omega)
    clear c3
    have H' := aC.mk H
    clear H
    go_enter Tryz.func86, Tryz.ntmps86
    go_wp2
    repeat (go_quiet (fail); try go_wp2)
    go_loopg [13] k (fun kq v13 w' => ∃ (fP : Int), v13 = .int .i64 fP ∧ aC (bU.l0 kq l0 l1 (l0.length : Int) fP = some r) ∧ aC (kq ≤ k) ∧ eY w w')
    case atStart => exact ⟨(0), (by first | rfl | (simp; done) | (simp [*]; done)), H', ⟨Nat.le_refl _⟩, by repeat (first | exact eY.refl _ | apply eY.step)⟩
    case round =>
      clear H'
      try clear c1
      try clear p2
      try clear c3
      try clear F6
      try clear Q7
      try clear qeM
      obtain ⟨fP, rfl, HA, HK1, ⟨m1, rfl⟩⟩ := hrel
      cases gk with
      | zero => exact absurd HA.out (by simp [bU.l0])
      | succ k1 =>
        have H := HA.out
        clear HA
        simp only [bU.l0] at H
        by_cases c4 : fP < (l0.length : Int)
        · rw [if_pos c4] at H
          have ZO : decide (fP < (l0.length : Int)) = true := decide_eq_true c4
          clear c4
          by_cases c5 : 0 ≤ fP
          · rw [if_pos c5] at H
            have RI : decide (0 ≤ fP) = true := decide_eq_true c5
            clear c5
            by_cases c6 : fP < (l0.length : Int)
            · rw [if_pos c6] at H
              have qcB : decide (fP < (l0.length : Int)) = true := decide_eq_true c6
              clear c6
              by_cases c7 : fP < (l1.length : Int)
              · rw [if_pos c7] at H
                have qeH : decide (fP < (l1.length : Int)) = true := decide_eq_true c7
                clear c7
                by_cases c8 : (!(((dN l0 fP).f0) == ((dN l1 fP).f0)) || (!((((dN l0 fP).f1).toList) == (((dN l1 fP).f1).toList)) || (!(((dN l0 fP).f2) == ((dN l1 fP).f2))))) = true
                · rw [if_pos c8] at H
                  have qeI : (!(((dN l0 fP).f0) == ((dN l1 fP).f0)) || (!((((dN l0 fP).f1).toList) == (((dN l1 fP).f1).toList)) || (!(((dN l0 fP).f2) == ((dN l1 fP).f2))))) = true := c8
                  clear c8
                  obtain rfl := Option.some.inj H
                  have U9 : 0 ≤ (fP : Int) := of_decide_eq_true (by first | (with_reducible assumption) | assumption)
                  have VA : fP < (l0.length : Int) := of_decide_eq_true (by first | (with_reducible assumption) | assumption)
                  obtain ⟨qeN, e213, qcK, qcL, qcM⟩ := wI HR0.out fP U9 VA
                  cases e213
                  replace U9 := eq_true U9
                  replace VA := eq_true VA
                  have VB : 0 ≤ (fP : Int) := of_decide_eq_true (by first | (with_reducible assumption) | assumption)
                  have VD : fP < (l1.length : Int) := of_decide_eq_true (by first | (with_reducible assumption) | assumption)
                  obtain ⟨qeO, e214, qcN, qcO, qcP⟩ := wI HR1.out fP VB VD
                  cases e214
                  replace VB := eq_true VB
                  replace VD := eq_true VD
                  go_wp2
                  repeat (go_quiet (fail); try go_wp2)
                  go_ret
                  exact ⟨by first | rfl | (simp; done) | (simp [*]; done), by repeat (first | exact eY.refl _ | apply eY.step)⟩
                · rw [if_neg c8] at H
                  have qeI : (!(((dN l0 fP).f0) == ((dN l1 fP).f0)) || (!((((dN l0 fP).f1).toList) == (((dN l1 fP).f1).toList)) || (!(((dN l0 fP).f2) == ((dN l1 fP).f2))))) = false := by simpa using c8
                  clear c8
                  have H' := aC.mk H
                  clear H
                  have U9 : 0 ≤ (fP : Int) := of_decide_eq_true (by first | (with_reducible assumption) | assumption)
                  have VA : fP < (l0.length : Int) := of_decide_eq_true (by first | (with_reducible assumption) | assumption)
                  obtain ⟨qeN, e213, qcK, qcL, qcM⟩ := wI HR0.out fP U9 VA
                  cases e213
                  replace U9 := eq_true U9
                  replace VA := eq_true VA
                  have VB : 0 ≤ (fP : Int) := of_decide_eq_true (by first | (with_reducible assumption) | assumption)
                  have VD : fP < (l1.length : Int) := of_decide_eq_true (by first | (with_reducible assumption) | assumption)
                  obtain ⟨qeO, e214, qcN, qcO, qcP⟩ := wI HR1.out fP VB VD
                  cases e214
                  replace VB := eq_true VB
                  replace VD := eq_true VD
                  go_wp2
                  repeat (go_quiet (fail); try go_wp2)
                  go_roundg k1
                  case measure => have := HK1.out; omega
                  case rel => exact ⟨(wrap64 (fP + 1)), (by first | rfl | (simp; done) | (simp [*]; done)), H', ⟨by have := HK1.out; omega⟩, by repeat (first | exact eY.refl _ | apply eY.step)⟩
              · rw [if_neg c7] at H
                exact absurd H (by simp)
            · rw [if_neg c6] at H
              exact absurd H (by simp)
          · rw [if_neg c5] at H
            exact absurd H (by simp)
        · rw [if_neg c4] at H
          have ZO : decide (fP < (l0.length : Int)) = false := decide_eq_false c4
          clear c4
          obtain rfl := Option.some.inj H
          go_wp2
          repeat (go_quiet (fail); try go_wp2)
          go_ret
          exact ⟨by first | rfl | (simp; done) | (simp [*]; done), by repeat (first | exact eY.refl _ | apply eY.step)⟩
  · rw [if_neg c3] at H
    have F6 : ((l0.length : Int) == (l1.length : Int)) = false := beq_eq_false_iff_ne.mpr c3
    have Q7 : ((l0.length : Int) != (l1.length : Int)) = true := bne_iff_ne.mpr c3
    have qeM : (l0.length == l1.length) = false := by first | simpa using c3 | (simp at c3 ⊢; omega)
    obtain rfl := Option.some.inj H
    go_enter Tryz.func86, Tryz.ntmps86
    go_wp2
    repeat (go_quiet (fail); try go_wp2)
    go_ret
    exact ⟨by first | rfl | (simp; done) | (simp [*]; done), by repeat (first | exact eY.refl _ | apply eY.step)⟩
end Go.Proofs.U
namespace Go.Proofs.U
open Go.RowKit Go.Proofs.aA.aK Go.Proofs.aA.aW Go.Proofs.aA.aX
attribute [local go_sem] iD iG jB jJ gU gV iP iQ
end Go.Proofs.U
namespace Go.Proofs.U
open Go.RowKit Go.Proofs.aA.aK Go.Proofs.aA.aW Go.Proofs.aA.aX
attribute [local go_sem] iD iG jB jJ gU gV iP iQ
theorem qeP (d : Nat) (w : World) (x0 y0 : Int) (x1 y1 : ByteArray) :
  (Op.equalIn (d + 2) 62 (.agg #[.int .u64 x0, .string x1]) (.agg #[.int .u64 y0, .string y1])).run Tryz.prog w = .ok (x0 == y0 && (x1.toList == y1.toList)) w := by
 refine SL Tryz.underlying62 (by kernel_rfl) ?_
 refine wH (by rfl) (by go_simp; rfl) (by go_simp; rfl) (by go_simp) ?_
 exact IL (by rfl) (by go_simp; rfl) (by go_simp; rfl) (by go_simp)
end Go.Proofs.U
namespace Go.Proofs.U
open Go.RowKit Go.Proofs.aA.aK Go.Proofs.aA.aW Go.Proofs.aA.aX
attribute [local go_sem] iD iG jB jJ gU gV iP iQ
attribute [local go_sem high] qeP
end Go.Proofs.U
namespace Go.Proofs.U
open Go.RowKit Go.Proofs.aA.aK Go.Proofs.aA.aW Go.Proofs.aA.aX Go.Proofs.Sp Go.Proofs.gB
theorem xU (l : List S41) (hl : l.length ≤ 1024) : ∀ (f i : Nat), i ≤ l.length → l.length - i < f → bU.l0 f l l (l.length : Int) (i : Int) = some true
 | 0, i, hi, hf => by omega
 | f + 1, i, hi, hf => by
  rw [bU.l0]
  by_cases h : i < l.length
  ·rw [if_pos (by omega), if_pos (by omega), if_pos (by omega), if_pos (by omega)]
   have e : wrap64 ((i : Int) + 1) = ((i + 1 : Nat) : Int) := by
    unfold wrap64
    omega
   rw [e]
   simp only [beq_self_eq_true, Bool.not_true, Bool.or_self, Bool.false_eq_true, if_false]
   exact xU l hl f (i + 1) (by omega) (by omega)
  ·rw [if_neg (by omega)]
theorem FW {Q : Qu} (h : (lZ Q).2 ≠ 0) : kR Q = z41 := by
 rw [kR]
 split
 ·rename_i hc
  rw [lZ, xQ hc.1 hc.2, sG] at h
  rw [vS]
  cases hi : sK free Q.es with
  | none => rfl
  | some i =>
   rw [hi] at h
   exact absurd rfl h
 ·rfl
theorem YI {Q : Qu} {i : Nat} {x : S41} (b : Bool) (h : okQ Q) (hx : Q.es[i]? = some x) : okQ ⟨Q.L, Q.es.set i ⟨x.f0, x.f1, b⟩, Q.most⟩ := by
 refine ⟨h.1, h.2.1, h.2.2.1, ?_, ?_⟩
 ·show (Q.es.set _ _).length ≤ 1024
  rw [List.length_set]
  exact h.2.2.2.1
 ·show oH Q.L.nx Q.L.fr (Q.es.set _ _)
  rw [← vX, MI _ _ _ _ hx, vX]
  exact h.2.2.2.2
theorem qG {l : List S67} {dn : Bool} {fu fa : Int} {s : ByteArray} {wr : Bool} {rf : Int → Bool → Int} {df : Int → List S67} (hr : bI l = true) (hg : rf (bsOf l s) (lD l s (bsOf l s)) = 0 → bI (df (bsOf l s)) = true) : bI (dF l dn fu fa s wr rf df).1 = true := by
 unfold dF
 rw [if_pos hr]
 split
 ·exact hr
 ·split
  ·rename_i hrf
   split
   ·exact hr
   ·split
    ·cases wr
     ·exact hr
     ·exact hg hrf
    ·exact hg hrf
  ·exact hr
structure Keeps (L R : Lg) : Prop where
 right : bI R.l = true
 size : R.size = L.size
 fr : R.fr = L.fr
 nx : R.nx = L.nx
theorem Keeps.refl {L : Lg} (h : bI L.l = true) : Keeps L L := ⟨h, rfl, rfl, rfl⟩
theorem Keeps.trans {L R S : Lg} (h : Keeps L R) (g : Keeps R S) : Keeps L S := ⟨g.right, g.size.trans h.size, g.fr.trans h.fr, g.nx.trans h.nx⟩
theorem uU {L : Lg} {R : JM} (h : bI R.1 = true) : Keeps L (chg L R) := ⟨h, rfl, rfl, rfl⟩
theorem G5 {L : Lg} {R : JM} (h : R.2.2.2.2 ≠ 0) : (chg L R).br = true := if_neg h
theorem DR {L : Lg} {R : JM} (h : R.2.2.2.2 = 0) : (chg L R).br = L.br := if_pos h
theorem YJ {b : Bool} (h : (if b = true then (0 : Int) else 7) = 0) : b = true := by
 cases b
 ·cases h
 ·rfl
theorem O8 {l : List S67} {dn : Bool} {fu fa : Int} {s : ByteArray} (hr : bI l = true) : bI (jW l dn fu fa s).1 = true := qG hr fun h => by simpa using (wZ hr h).1
theorem append_right {l : List S67} {dn : Bool} {fu fa : Int} {s d : ByteArray} (hr : bI l = true) : bI (iU l dn fu fa s d).1 = true := qG hr fun h => (xA hr d h).1
theorem VE {l : List S67} {dn : Bool} {fu fa : Int} {s : ByteArray} (hr : bI l = true) : bI (qY l dn fu fa s).1 = true := qG hr fun h => (EF hr (YJ h)).1
theorem vZ {l : List S67} {dn : Bool} {fu fa : Int} {s : ByteArray} (hr : bI l = true) : bI (gX l dn fu fa s).1 = true := qG hr fun h => (QY hr (YJ h)).1
theorem RY {L : Lg} {k : Nat} (hr : bI L.l = true) : Keeps L (iK L k).1 ∧ ((iK L k).2 ≠ 0 → (iK L k).1.br = true) ∧ ((iK L k).2 = 0 → (iK L k).1.br = L.br) := by
 unfold iK
 split
 ·exact ⟨uU (O8 hr), G5, DR⟩
 ·exact ⟨Keeps.refl hr, fun h => absurd rfl h, fun _ => rfl⟩
theorem RZ {L : Lg} {nm s : ByteArray} (hr : bI L.l = true) : Keeps L (fZ L nm s).1 ∧ ((fZ L nm s).2 ≠ 0 → (fZ L nm s).1.br = true) ∧ ((fZ L nm s).2 = 0 → (fZ L nm s).1.br = L.br) := ⟨uU (append_right hr), G5, DR⟩
theorem SA {L : Lg} {nm : ByteArray} (hr : bI L.l = true) : Keeps L (stepS L nm).1 ∧ ((stepS L nm).2 ≠ 0 → (stepS L nm).1.br = true) ∧ ((stepS L nm).2 = 0 → (stepS L nm).1.br = L.br) := ⟨uU (VE hr), G5, DR⟩
theorem DT {L : Lg} {d : ByteArray} (h : okL L) (hb : L.br = false) :
  ((dG L d).2 = 0 ∧ Keeps ⟨L.l, L.dn, L.fu, L.fa, L.size, L.fr, L.nx + 1, L.br⟩ (dG L d).1 ∧ L.nx + 1 ≤ 4611686018427387904 ∧ (dG L d).1.br = false)
  ∨ ((dG L d).2 ≠ 0 ∧ (dG L d).2 ≠ 8 ∧ (dG L d).1 = L) ∨ ((dG L d).2 ≠ 0 ∧ (dG L d).1.br = true ∧ Keeps L (dG L d).1) := by
 rw [dG, if_pos h, jG, hb, if_neg (by simp)]
 split
 ·exact .inr (.inl ⟨(by decide : (4 : Int) ≠ 0), (by decide : (4 : Int) ≠ 8), rfl⟩)
 split
 ·exact .inr (.inl ⟨(by decide : (2 : Int) ≠ 0), (by decide : (2 : Int) ≠ 8), rfl⟩)
 rename_i hnx
 obtain ⟨c1, c2, c3⟩ := RY (L := L) (k := (fV L.nx d).size) h.1
 split
 ·rename_i hc
  have c3 := c3 hc
  generalize (iK L (fV L.nx d).size).1 = M at c1 c3 ⊢
  unfold pI
  obtain ⟨a1, a2, a3⟩ := RZ (L := M) (nm := oN M.l) (s := fV L.nx d) c1.right
  split
  ·rename_i ha
   have a3 := a3 ha
   generalize (fZ M (oN M.l) (fV L.nx d)).1 = N at a1 a3 ⊢
   obtain ⟨s1, s2, s3⟩ := SA (L := N) (nm := oN M.l) a1.right
   split
   ·rename_i hs
    have k := (c1.trans a1).trans s1
    refine .inl ⟨rfl, ⟨k.right, k.size, k.fr, ?_⟩, by omega, ?_⟩
    ·show M.nx + 1 = L.nx + 1
     rw [c1.nx]
    ·exact (s3 hs).trans (a3.trans (c3.trans hb))
   ·rename_i hs
    exact .inr (.inr ⟨hs, s2 hs, (c1.trans a1).trans s1⟩)
  ·rename_i ha
   exact .inr (.inr ⟨ha, a2 ha, c1.trans a1⟩)
 ·rename_i hc
  exact .inr (.inr ⟨hc, c2 hc, c1⟩)
theorem yY (q : Int) : ∀ (ps : List Pl) (L : Lg), bI L.l = true → Keeps L (fC L ps q).1 ∧ ((fC L ps q).2.1 ≠ 0 → (fC L ps q).1.br = true) ∧ ((fC L ps q).2.1 = 0 → (fC L ps q).1.br = L.br)
 | [], L, h => ⟨Keeps.refl h, fun g => absurd rfl g, fun _ => rfl⟩
 | [p], L, h => ⟨Keeps.refl h, fun g => absurd rfl g, fun _ => rfl⟩
 | p :: p2 :: r, L, h => by
  rw [fC]
  split
  ·split
   ·rename_i h0
    have ih := yY q (p2 :: r) (chg L (gX L.l L.dn L.fu L.fa p.1.f0)) (vZ h)
    exact ⟨(uU (vZ h)).trans ih.1, ih.2.1, fun g => (ih.2.2 g).trans (DR h0)⟩
   ·rename_i h0
    exact ⟨uU (vZ h), fun _ => G5 h0, fun g => absurd g h0⟩
  ·exact ⟨Keeps.refl h, fun g => absurd rfl g, fun _ => rfl⟩
theorem VF {L : Lg} {q : Int} (h : okL L) (hb : L.br = false) (hq : q ≤ L.nx) :
  ((jH L q).2 = 0 ∧ bI (jH L q).1.l = true ∧ (jH L q).1.size = L.size ∧ (jH L q).1.nx = L.nx ∧ (0 ≤ L.fr → 0 ≤ (jH L q).1.fr))
  ∨ ((jH L q).2 ≠ 0 ∧ (jH L q).1.br = true ∧ Keeps L (jH L q).1) := by
 rw [jH, if_pos h, tY, hb, if_neg (by simp), if_neg (by omega)]
 obtain ⟨c1, c2, c3⟩ := yY q (aN L.l) L h.1
 split
 ·refine .inl ⟨rfl, ?_⟩
  generalize fC L (aN L.l) q = X at c1 ⊢
  unfold yO
  split
  ·exact ⟨c1.right, c1.size, c1.nx, fun h0 => by rw [c1.fr]; exact h0⟩
  ·exact ⟨c1.right, c1.size, c1.nx, fun _ => Int.natCast_nonneg _⟩
 ·rename_i hc
  exact .inr ⟨hc, c2 hc, c1⟩
theorem EM {L R : Lg} (h : okL L) (k : Keeps L R) : okL R := ⟨k.right, by rw [k.size]; exact h.2.1, by rw [k.size]; exact h.2.2.1, by rw [k.fr, k.nx]; exact h.2.2.2.1, by rw [k.nx]; exact h.2.2.2.2⟩
theorem qag {nx least EL : Int} {l : List S41} (h : oH nx least l) (g : ∀ x, l.head? = some x → EL ≤ x.f0) : oH nx EL l := by
 cases l with
 | nil => trivial
 | cons y r => exact ⟨h.1, g y rfl, h.2.2.1, h.2.2.2⟩
theorem SB {nx nx' : Int} {data : ByteArray} {b : Bool} (hd : data.size < 65536) (hl : nx < nx') : ∀ {l : List S41} {least : Int}, oH nx least l → least ≤ nx → oH nx' least (l ++ [⟨nx, data, b⟩])
 | [], least, _, h => ⟨hd, h, hl, trivial⟩
 | y :: r, least, h, _ => ⟨h.1, h.2.1, by have := h.2.2.1; omega, SB hd hl h.2.2.2 (by have := h.2.2.1; omega)⟩
def Fair (Q : Qu) : Prop := okQ Q ∨ ¬ (Q.L.fr ≤ Q.L.nx ∧ ∃ x, Q.es.head? = some x ∧ Q.L.fr ≤ x.f0)
def SC (Q : Qu) (D : Qu × Int) : Prop := Fair D.1 ∧ (D.2 ≠ 0 → D.1.L.br = true ∨ D.1 = Q) ∧ ((D.1.es.length : Int) ≤ Q.es.length ∨ (D.1.es.length : Int) ≤ Q.most) ∧ (0 ≤ Q.L.fr → 0 ≤ D.1.L.fr)
theorem lW {Q : Qu} (h : okQ Q) (n : Int) : SC Q (Q, n) := ⟨.inl h, fun _ => .inr rfl, .inl (Int.le_refl _), fun h0 => h0⟩
theorem uV {Q : Qu} {D : Qu × Int} (h : okQ Q) (g : Q.L.br = false → SC Q D) : SC Q (jU Q D) := by
 by_cases hb : Q.L.br = true
 ·rw [qbE h hb]
  exact lW h 6
 ·have hb : Q.L.br = false := by simpa using hb
  rw [xQ h hb]
  exact g hb
theorem qbG {Q : Qu} (data : ByteArray) (h : okQ Q) : SC Q (xJ Q data) := by
 refine uV h fun hb => ?_
 rw [F8]
 split
 ·rename_i hr
  split
  ·rename_i hd
   rcases DT (d := P80 ++ data) h.1 hb with ⟨e, k, hn, _⟩ | ⟨e, _, hL⟩ | ⟨e, k1, k2⟩
   ·rw [if_pos e]
    refine ⟨.inl ⟨⟨k.right, ?_, ?_, ?_, ?_⟩, h.2.1, h.2.2.1, ?_, ?_⟩, fun h0 => absurd rfl h0, .inr ?_, fun h0 => by show 0 ≤ (dG Q.L (P80 ++ data)).1.fr; rw [k.fr]; exact h0⟩
    ·rw [k.size]; exact h.1.2.1
    ·rw [k.size]; exact h.1.2.2.1
    ·rw [k.fr, k.nx]; show Q.L.fr ≤ Q.L.nx + 1; have := h.1.2.2.2.1; omega
    ·rw [k.nx]; exact hn
    ·show (Q.es ++ _).length ≤ 1024
     have := h.2.2.1
     simp only [List.length_append, List.length_singleton]
     omega
    ·show oH (dG Q.L (P80 ++ data)).1.nx (dG Q.L (P80 ++ data)).1.fr (Q.es ++ _)
     rw [k.nx, k.fr]
     exact SB hd (by show Q.L.nx < Q.L.nx + 1; omega) h.2.2.2.2 h.1.2.2.2.1
    ·simp only [List.length_append, List.length_singleton]
     omega
   ·rw [if_neg e, hL]
    exact lW h _
   ·rw [if_neg e]
    refine ⟨.inl ⟨EM h.1 k2, h.2.1, h.2.2.1, h.2.2.2.1, ?_⟩, fun _ => .inl k1, .inl (Int.le_refl _), fun h0 => by show 0 ≤ (dG Q.L (P80 ++ data)).1.fr; rw [k2.fr]; exact h0⟩
    show oH (dG Q.L (P80 ++ data)).1.nx (dG Q.L (P80 ++ data)).1.fr Q.es
    rw [k2.nx, k2.fr]
    exact h.2.2.2.2
  ·exact lW h _
 ·exact lW h _
theorem VG {Q : Qu} (h : okQ Q) : SC Q (lZ Q) := by
 refine uV h fun hb => ?_
 rw [sG]
 split
 ·rename_i i hi
  obtain ⟨x, hx, _, _⟩ := xG hi
  simp only [GZ, hx]
  exact ⟨.inl (YI true h hx), fun h0 => absurd rfl h0, .inl (by simp only [List.length_set]; omega), fun h0 => h0⟩
 ·exact lW h _
theorem O9 {Q : Qu} (q : Int) (h : okQ Q) : SC Q (oJ Q q) := by
 refine uV h fun hb => ?_
 rw [pG]
 split
 ·rename_i i hi
  obtain ⟨x, hx, _, _⟩ := xG hi
  simp only [UR, hx]
  exact ⟨.inl (YI false h hx), fun h0 => absurd rfl h0, .inl (by simp only [List.length_set]; omega), fun h0 => h0⟩
 ·exact lW h _
theorem qbH {Q : Qu} (q : Int) (h : okQ Q) : SC Q (EI Q q) := by
  refine uV h fun hb => ?_
  rw [F9]
  split
  · exact lW h _
  · rename_i i hi
    rcases DT (d := kM q) h.1 hb with ⟨e, k, hn, hb2⟩ | ⟨e, _, hL⟩ | ⟨e, k1, k2⟩
    · rw [if_pos e]
      generalize (dG Q.L (kM q)).1 = R at k hb2 ⊢
      have hnx : R.nx = Q.L.nx + 1 := k.nx
      have hfr : R.fr = Q.L.fr := k.fr
      have hsz : R.size = Q.L.size := k.size
      have qbI : okL R := ⟨k.right, by rw [hsz]; exact h.1.2.1, by rw [hsz]; exact h.1.2.2.1, by rw [hfr, hnx]; have := h.1.2.2.2.1; omega, by rw [hnx]; exact hn⟩
      have hes : oH R.nx R.fr (Q.es.eraseIdx i) := by
        rw [hfr]
        exact O7 (by omega) (BI i h.2.2.2.2)
      have hf : rH (Q.es.eraseIdx i) R.nx ≤ R.nx := by
        cases hE : Q.es.eraseIdx i with
        | nil => exact Int.le_refl _
        | cons y r =>
          rw [hE] at hes
          show y.f0 ≤ _
          have := hes.2.2.1
          omega
      have hlen : ((Q.es.eraseIdx i).length : Int) ≤ Q.es.length := by
        have := List.length_eraseIdx_le Q.es i
        omega
      have hlen2 : (Q.es.eraseIdx i).length ≤ 1024 := by
        have := h.2.2.2.1
        omega
      rcases VF qbI hb2 hf with ⟨d1, d2, d3, d4, d5⟩ | ⟨d1, d2, d3⟩
      · rw [d1]
        refine ⟨?_, fun h0 => absurd rfl h0, .inl hlen, fun h0 => d5 (by rw [hfr]; exact h0)⟩
        by_cases hc : (jH R (rH (Q.es.eraseIdx i) R.nx)).1.fr ≤ R.nx ∧ ∃ x, (Q.es.eraseIdx i).head? = some x ∧ (jH R (rH (Q.es.eraseIdx i) R.nx)).1.fr ≤ x.f0
        · obtain ⟨c1, x, c2, c3⟩ := hc
          refine .inl ⟨⟨d2, by rw [d3]; exact qbI.2.1, by rw [d3]; exact qbI.2.2.1, by rw [d4]; exact c1, by rw [d4]; exact qbI.2.2.2.2⟩, h.2.1, h.2.2.1, hlen2, ?_⟩
          show oH (jH R _).1.nx (jH R _).1.fr (Q.es.eraseIdx i)
          rw [d4]
          exact qag hes (fun y hy => by rw [c2] at hy; rw [← Option.some.inj hy]; exact c3)
        · refine .inr fun hh => hc ?_
          have := hh.1
          rw [d4] at this
          exact ⟨this, hh.2⟩
      · refine ⟨.inl ⟨EM qbI d3, h.2.1, h.2.2.1, hlen2, ?_⟩, fun _ => .inl d2, .inl hlen, fun h0 => by show 0 ≤ (jH R _).1.fr; rw [d3.fr, hfr]; exact h0⟩
        show oH (jH R _).1.nx (jH R _).1.fr (Q.es.eraseIdx i)
        rw [d3.nx, d3.fr]
        exact hes
    · rw [if_neg e, hL]
      exact lW h _
    · rw [if_neg e]
      refine ⟨.inl ⟨EM h.1 k2, h.2.1, h.2.2.1, h.2.2.2.1, ?_⟩, fun _ => .inl k1, .inl (Int.le_refl _), fun h0 => by show 0 ≤ (dG Q.L (kM q)).1.fr; rw [k2.fr]; exact h0⟩
      show oH (dG Q.L (kM q)).1.nx (dG Q.L (kM q)).1.fr Q.es
      rw [k2.nx, k2.fr]
      exact h.2.2.2.2
theorem qah {Q : Qu} (k : Int) (sd : ByteArray) (sq : Int) (h : okQ Q) : SC Q ((doQ Q k sd sq).1, (doQ Q k sd sq).2.2) ∧ ((doQ Q k sd sq).2.2 ≠ 0 → (doQ Q k sd sq).2.1 = z41) := by
 unfold doQ
 split
 ·exact ⟨qbG sd h, fun g => by show (⟨GH Q sd, _, _⟩ : S41) = z41; rw [GH, if_neg g]; rfl⟩
 split
 ·exact ⟨VG h, FW⟩
 split
 ·exact ⟨O9 sq h, fun _ => rfl⟩
 split
 ·exact ⟨qbH sq h, fun _ => rfl⟩
 ·exact ⟨uV h fun _ => lW h 5, fun _ => rfl⟩
theorem qai {Q : Qu} (k : Int) (sd : ByteArray) (sq : Int) (h : ¬ okQ Q) : doQ Q k sd sq = (Qz, z41, 6) := by
 unfold doQ
 split
 ·have e : xJ Q sd = (Qz, 6) := uS h _
  rw [GH, e]
  rfl
 split
 ·have e : lZ Q = (Qz, 6) := uS h _
  rw [FW (by rw [e]; decide), e]
 split
 ·have e : oJ Q sq = (Qz, 6) := uS h _
  rw [e]
 split
 ·have e : EI Q sq = (Qz, 6) := uS h _
  rw [e]
 ·rw [uS h]
theorem GI (l : List S41) (hl : l.length ≤ 1024) : bU.f 1100 l l = some true := by
 rw [bU.f, if_pos rfl]
 exact xU l hl 1100 0 (by omega) (by omega)
set_option maxHeartbeats 1600000 in
theorem VH (A : Option Addr) (c : Nat) (A2 : Option Addr) (c2 : Nat) (l : List S67) (dn : Bool) (fu fa : Int) (w : World) (hr : Kd.C k67 w A l.length l) (hr2 : Kd.C k67 w A2 l.length l) (h : l.length ≤ 64) :
  Calls Tryz.prog 75 #[.agg #[.slice A l.length c, .bool dn, .int .i64 fu, .int .i64 fa], .agg #[.slice A2 l.length c2, .bool dn, .int .i64 fu, .int .i64 fa]] w fun e w' => e = .returned (.bool true) ∧ Below w.heap.size w w' := by
 have HR := aC.mk hr
 have HR2 := aC.mk hr2
 have HL := aC.mk h
 clear hr hr2 h
 have H := aC.mk (Sep.start w)
 go_enter Tryz.func75, Tryz.ntmps75
 go_wp2_with (first
 |((with_reducible refine aU (N := 2) rfl ?_);
   refine bK rfl H (cs := [.slice A l.length c, .bool dn, .int .i64 fu, .int .i64 fa]) (t := 27) ?hr ?_;
   (case hr => first | (go_simp; done) | (go_simp; rfl));
   intro ga wd1 n_;
   simp only [Act.put, zA, zZ, zS];
   clear H;
   have H := n_;
   clear n_;
   have c_a := H.out.cell (g := ga) aP)
 |((with_reducible refine aU (N := 3) rfl ?_);
   refine bK rfl H (cs := [.slice A2 l.length c2, .bool dn, .int .i64 fu, .int .i64 fa]) (t := 27) ?hr ?_;
   (case hr => first | (go_simp; done) | (go_simp; rfl));
   intro gb wd2 n_;
   simp only [Act.put, zA, zZ, zS];
   clear H c_a;
   have H := n_;
   clear n_;
   have c_b := H.out.cell (g := gb) aP;
   have c_a := H.out.cell (g := ga) mem1)
 |fail)
 go_loopw [4, 5, 37] (fun v4 v5 v37 wr => ∃ i : Nat, v37 = .int .i64 (i : Int) ∧ i ≤ l.length ∧ aC (Sep w wr [box gb [.slice A2 l.length c2, .bool dn, .int .i64 fu, .int .i64 fa] 27, box ga [.slice A l.length c, .bool dn, .int .i64 fu, .int .i64 fa] 27])) (fun _ _ v37 _ => l.length - (intOf v37).toNat)
 case atStart => exact ⟨0, rfl, Nat.zero_le _, H⟩
 case round =>
  clear H c_b c_a
  obtain ⟨i, rfl, hi, H⟩ := hrel
  have c_b := H.out.cell (g := gb) aP
  have c_a := H.out.cell (g := ga) mem1
  by_cases hil : i < l.length
  ·
   obtain ⟨x, hx⟩ : ∃ x, l[i]? = some x := ⟨_, List.getElem?_eq_getElem hil⟩
   obtain ⟨ad, _, e1, _⟩ := Kd.yL (H.out.came HR.out) (⟨⟨#[]⟩, ⟨#[]⟩, 0⟩ : S67) (i : Int) (by omega) (by omega)
   obtain ⟨ad2, _, e2, _⟩ := Kd.yL (H.out.came HR2.out) (⟨⟨#[]⟩, ⟨#[]⟩, 0⟩ : S67) (i : Int) (by omega) (by omega)
   subst e1 e2
   obtain ⟨q0, q1, q2⟩ := qdE (H.out.came HR.out) hx
   obtain ⟨p0, p1, p2⟩ := qdE (H.out.came HR2.out) hx
   have qhe : (i : Int) < (l.length : Int) := by omega
   have hi0 : (0 : Int) ≤ (i : Int) := by omega
   have hw3 : wrap64 ((i : Int) + 1) = ((i + 1 : Nat) : Int) := by
    have := HL.out
    unfold wrap64
    omega
   clear hx
   go_wp2_with fail
   go_upto_region 6 with fail
   go_quiet (fail)
   go_wp2_with fail
   try rw [hw3]
   exact ⟨⟨i + 1, rfl, by omega, ⟨Sep.drewN H.out _⟩⟩, by simp [intOf] <;> omega⟩
  ·
   have hie : i = l.length := by omega
   subst hie
   have hnl : ¬ (l.length : Int) < (l.length : Int) := by omega
   go_wp2_with fail
   go_ret
   exact ⟨by first | rfl | simp, H.out.below⟩
set_option maxHeartbeats 1600000 in
theorem VI (A : Option Addr) (c : Nat) (A2 : Option Addr) (c2 : Nat) (L : Lg) (w : World) (hr : Kd.C k67 w A L.l.length L.l) (hc : L.l.length ≤ c) (hr2 : Kd.C k67 w A2 L.l.length L.l) (hc2 : L.l.length ≤ c2) (h : L.l.length ≤ 64) :
  Calls Tryz.prog 28 #[.agg (lgc A c L).toArray, .agg (lgc A2 c2 L).toArray] w fun e w' => e = .returned (.bool true) ∧ Below w.heap.size w w' := by
 have HR := aC.mk hr
 have HC := aC.mk hc
 have HR2 := aC.mk hr2
 have HC2 := aC.mk hc2
 have HL := aC.mk h
 clear hr hc hr2 hc2 h
 simp only [lgc]
 have H := aC.mk (Sep.start w)
 go_enter Tryz.func28, Tryz.ntmps28
 go_wp2_with (first
 |((with_reducible refine aU (N := 2) rfl ?_);
   refine bK rfl H (cs := [.slice A L.l.length c, .bool L.dn, .int .i64 L.fu, .int .i64 L.fa, .int .i64 L.size, .int .u64 L.fr, .int .u64 L.nx, .bool L.br]) (t := 30) ?hr ?_;
   (case hr => first | (go_simp; done) | (go_simp; rfl));
   intro ga wd3 n_;
   simp only [Act.put, zA, zZ, zS];
   clear H;
   have H := n_;
   clear n_;
   have c_a := H.out.cell (g := ga) aP)
 |((with_reducible refine aU (N := 3) rfl ?_);
   refine bK rfl H (cs := [.slice A2 L.l.length c2, .bool L.dn, .int .i64 L.fu, .int .i64 L.fa, .int .i64 L.size, .int .u64 L.fr, .int .u64 L.nx, .bool L.br]) (t := 30) ?hr ?_;
   (case hr => first | (go_simp; done) | (go_simp; rfl));
   intro gb wd4 n_;
   simp only [Act.put, zA, zZ, zS];
   clear H c_a;
   have H := n_;
   clear n_;
   have c_b := H.out.cell (g := gb) aP;
   have c_a := H.out.cell (g := ga) mem1)
 |fail)
 refine ((VH A c A2 c2 L.l L.dn L.fu L.fa _ (H.out.came HR.out) (H.out.came HR2.out) HL.out).mono ?_)
 rintro e wd5 ⟨rfl, hb_⟩
 have n_ : aC (Sep w wd5 [box gb [.slice A2 L.l.length c2, .bool L.dn, .int .i64 L.fu, .int .i64 L.fa, .int .i64 L.size, .int .u64 L.fr, .int .u64 L.nx, .bool L.br] 30, box ga [.slice A L.l.length c, .bool L.dn, .int .i64 L.fu, .int .i64 L.fa, .int .i64 L.size, .int .u64 L.fr, .int .u64 L.nx, .bool L.br] 30]) := ⟨H.out.step hb_⟩
 clear H c_b c_a
 have H := n_
 clear n_
 have c_b := H.out.cell (g := gb) aP
 have c_a := H.out.cell (g := ga) mem1
 clear hb_
 go_wp2_with fail
 go_ret
 exact ⟨by first | rfl | simp, H.out.below⟩
set_option maxHeartbeats 1600000 in
theorem KD (A : Option Addr) (c : Nat) (B : Option Addr) (d : Nat) (A2 : Option Addr) (c2 : Nat) (B2 : Option Addr) (d2 : Nat) (Q : Qu) (w : World) (hr : Kd.C k67 w A Q.L.l.length Q.L.l) (hc : Q.L.l.length ≤ c) (hre : Kd.C k41 w B Q.es.length Q.es) (hce : Q.es.length ≤ d)
  (hr2 : Kd.C k67 w A2 Q.L.l.length Q.L.l) (hc2 : Q.L.l.length ≤ c2) (qeQ : Kd.C k41 w B2 Q.es.length Q.es) (qeR : Q.es.length ≤ d2) (h : Q.L.l.length ≤ 64) (he : Q.es.length ≤ 1024) :
  Calls Tryz.prog 38 #[.agg (qc A c B d Q).toArray, .agg (qc A2 c2 B2 d2 Q).toArray] w fun e w' => e = .returned (.bool true) ∧ Below w.heap.size w w' := by
 have HR := aC.mk hr
 have HC := aC.mk hc
 have HR2 := aC.mk hr2
 have HC2 := aC.mk hc2
 have HE := aC.mk hre
 have HD := aC.mk hce
 have HE2 := aC.mk qeQ
 have HD2 := aC.mk qeR
 have HL := aC.mk h
 have HS := aC.mk (GI Q.es he)
 clear hr hc hr2 hc2 hre hce qeQ qeR h he
 simp only [qc, lgc, List.cons_append, List.nil_append]
 have H := aC.mk (Sep.start w)
 go_enter Tryz.func38, Tryz.ntmps38
 go_wp2_with (first
 |((with_reducible refine aU (N := 2) rfl ?_);
   refine bK rfl H (cs := [.slice A Q.L.l.length c, .bool Q.L.dn, .int .i64 Q.L.fu, .int .i64 Q.L.fa, .int .i64 Q.L.size, .int .u64 Q.L.fr, .int .u64 Q.L.nx, .bool Q.L.br, .slice B Q.es.length d, .int .i64 Q.most]) (t := 33) ?hr ?_;
   (case hr => first | (go_simp; done) | (go_simp; rfl));
   intro ga wd6 n_;
   simp only [Act.put, zA, zZ, zS];
   clear H;
   have H := n_;
   clear n_;
   have c_a := H.out.cell (g := ga) aP)
 |((with_reducible refine aU (N := 3) rfl ?_);
   refine bK rfl H (cs := [.slice A2 Q.L.l.length c2, .bool Q.L.dn, .int .i64 Q.L.fu, .int .i64 Q.L.fa, .int .i64 Q.L.size, .int .u64 Q.L.fr, .int .u64 Q.L.nx, .bool Q.L.br, .slice B2 Q.es.length d2, .int .i64 Q.most]) (t := 33) ?hr ?_;
   (case hr => first | (go_simp; done) | (go_simp; rfl));
   intro gb wd7 n_;
   simp only [Act.put, zA, zZ, zS];
   clear H c_a;
   have H := n_;
   clear n_;
   have c_b := H.out.cell (g := gb) aP;
   have c_a := H.out.cell (g := ga) mem1)
 |fail)
 refine ((VI A c A2 c2 Q.L _ (H.out.came HR.out) HC.out (H.out.came HR2.out) HC2.out HL.out).mono ?_)
 rintro e wd8 ⟨rfl, hb_⟩
 have n_ : aC (Sep w wd8 [box gb [.slice A2 Q.L.l.length c2, .bool Q.L.dn, .int .i64 Q.L.fu, .int .i64 Q.L.fa, .int .i64 Q.L.size, .int .u64 Q.L.fr, .int .u64 Q.L.nx, .bool Q.L.br, .slice B2 Q.es.length d2, .int .i64 Q.most] 33, box ga [.slice A Q.L.l.length c, .bool Q.L.dn, .int .i64 Q.L.fu, .int .i64 Q.L.fa, .int .i64 Q.L.size, .int .u64 Q.L.fr, .int .u64 Q.L.nx, .bool Q.L.br, .slice B Q.es.length d, .int .i64 Q.most] 33]) := ⟨H.out.step hb_⟩
 clear H c_b c_a
 have H := n_
 clear n_
 have c_b := H.out.cell (g := gb) aP
 have c_a := H.out.cell (g := ga) mem1
 clear hb_
 go_wp2_with fail
 refine ((bU.calls 1100 B d Q.es B2 d2 Q.es true _ (H.out.came HE.out) HD.out (H.out.came HE2.out) HD2.out HS.out).mono ?_)
 rintro e wd9 ⟨rfl, hb_⟩
 have n_ : aC (Sep w wd9 [box gb [.slice A2 Q.L.l.length c2, .bool Q.L.dn, .int .i64 Q.L.fu, .int .i64 Q.L.fa, .int .i64 Q.L.size, .int .u64 Q.L.fr, .int .u64 Q.L.nx, .bool Q.L.br, .slice B2 Q.es.length d2, .int .i64 Q.most] 33, box ga [.slice A Q.L.l.length c, .bool Q.L.dn, .int .i64 Q.L.fu, .int .i64 Q.L.fa, .int .i64 Q.L.size, .int .u64 Q.L.fr, .int .u64 Q.L.nx, .bool Q.L.br, .slice B Q.es.length d, .int .i64 Q.most] 33]) := ⟨H.out.step (eY.below hb_)⟩
 clear H c_b c_a
 have H := n_
 clear n_
 have c_b := H.out.cell (g := gb) aP
 have c_a := H.out.cell (g := ga) mem1
 clear hb_
 go_wp2_with fail
 go_ret
 exact ⟨by first | rfl | simp, H.out.below⟩
end Go.Proofs.U
namespace Go.Proofs.U
open Go.RowKit Go.Proofs.aA.aK Go.Proofs.aA.aW Go.Proofs.aA.aX
attribute [local go_sem] iD iG jB jJ gU gV iP iQ
def l7.f  : Option ((List (S67)) × Bool × Int × Int) := some (([] : List (S67)), false, (-1), (-1))
set_option maxHeartbeats 8000000 in
theorem l7.calls  (r1 : List (S67)) (r2 : Bool) (r3 : Int) (r4 : Int) (w : World) (h : l7.f  = some (r1, r2, r3, r4)) :
  Calls Tryz.prog 36 #[] w fun e w' => ∃ v0_ : Value, e = .returned (.agg #[v0_, .bool r2, .int .i64 r3, .int .i64 r4]) ∧ Kd.R k67 67 w' w.heap.size (fun _ => True) v0_ r1 ∧ Below w.heap.size w w' := by
 have qhi := Tryz.underlying27
 have HB := aC.mk (Below.refl w.heap.size w)
 have H : (some (([] : List (S67)), false, (-1), (-1))) = some (r1, r2, r3, r4) := h
 clear h
 simp only [Option.some.injEq, Prod.mk.injEq] at H
 obtain ⟨rfl, rfl, rfl, rfl⟩ := H
 go_enter Tryz.func36, Tryz.ntmps36
 go_wp2_with (first | ((with_reducible refine aU (N := 0) rfl ?_); refine dL ?hg (N := 0) ?hd (cs := #[.slice none 0 0, .bool false, .int .i64 0, .int .i64 0]) (t := 27) ?hr ?_; (case hd => rfl); (case hg => rfl); (case hr => first | (go_simp; done) | (go_simp; rfl)); intro KE hg w1 hbox hb; have n0_ := aC.mk (bF (by repeat (first | (with_reducible first | exact HB.out | apply aQ | apply aT | apply aZ) | exact HB.out)) hb); have n1_ := aC.mk (hbox); have n2_ := aC.mk ((by rw [hg]; exact (dU (by repeat (first | (with_reducible first | exact HB.out | apply aQ | apply aT | apply aZ) | exact HB.out))) : w.heap.size ≤ KE)); have n3_ := aC.mk ((by rw [hg]; exact (dU (by repeat (first | (with_reducible first | exact HB.out | apply aQ | apply aT | apply aZ) | exact HB.out))) : w.heap.size ≤ KE)); clear HB; have HB := n0_; have DU := n1_; have qij := n2_; have qeS := n3_; clear n0_ n1_ n2_ n3_; clear hb hbox hg; have qhM : w1.cell? ⟨KE, 0, none⟩ = some (.slice none 0 0) := (aH DU.out 0).trans rfl; have qhN : w1.cell? ⟨KE, 1, none⟩ = some (.bool false) := (aH DU.out 1).trans rfl; have qhO : w1.cell? ⟨KE, 2, none⟩ = some (.int .i64 0) := (aH DU.out 2).trans rfl; have qhP : w1.cell? ⟨KE, 3, none⟩ = some (.int .i64 0) := (aH DU.out 3).trans rfl; have qhQ := aG DU.out 0; have qhR := aG DU.out 1; have qhS := aG DU.out 2; have qhT := aG DU.out 3))
 refine bodyPost_ret (results_cell_row rfl _ _ KE 27 #[.slice none 0 0, .bool false, .int .i64 (-1), .int .i64 (-1)] (0, 0) _ rfl (by (with_reducible repeat (first | refine bY ?_ _ | refine bQ ?_ | refine bC ?_ _)); refine fQ (cs := #[.slice none 0 0, .bool false, .int .i64 (-1), .int .i64 0]) ?_ 3 _ rfl; (with_reducible repeat (first | refine bY ?_ _ | refine bQ ?_ | refine bC ?_ _)); refine fQ (cs := #[.slice none 0 0, .bool false, .int .i64 0, .int .i64 0]) ?_ 2 _ rfl; (with_reducible repeat (first | refine bY ?_ _ | refine bQ ?_ | refine bC ?_ _)); refine fQ (cs := #[.slice none 0 0, .bool false, .int .i64 0, .int .i64 0]) ?_ 1 _ rfl; (with_reducible repeat (first | refine bY ?_ _ | refine bQ ?_ | refine bC ?_ _)); refine fQ (cs := #[.slice none 0 0, .bool false, .int .i64 0, .int .i64 0]) ?_ 0 _ rfl; (with_reducible repeat (first | refine bY ?_ _ | refine bQ ?_ | refine bC ?_ _)); exact DU.out) Tryz.underlying27 rfl (by kernel_rfl)) rfl ?_
 exact ⟨_, by first | rfl | (simp [gK, gQ] <;> rfl) | (simp [*, gK, gQ] <;> rfl), by first | exact Kd.CB _ _ _ _ _ | exact Kd.qd9 _ _ _ _ _ | exact Kd.qea _ _ _ _ _ | exact Kd.qd3 _ _ _ _ _ | exact Kd.qd7 _ _ _ _ _, by repeat (first | (with_reducible first | exact HB.out | apply aQ | apply aT | apply aZ | refine bM ?_ qeS.out) | exact HB.out)⟩
end Go.Proofs.U
namespace Go.Proofs.U
open Go.RowKit Go.Proofs.aA.aK Go.Proofs.aA.aW Go.Proofs.aA.aX Go.Proofs.Sp Go.Proofs.gB
set_option maxHeartbeats 1600000 in
theorem VJ (w : World) (hG : Gl w) : Calls Tryz.prog 35 #[] w fun e w' => e = .returned (.bool true) ∧ Below w.heap.size w w' := by
 have HG := aC.mk hG
 clear hG
 obtain ⟨Q0, Q1, Q2, Q3, Q4, Q5, h0, r0, h1, s1, r1, h2, s2, r2, h3, s3, r3, h4, h5, h6⟩ := qdY
 have HO1 := aC.mk (fun A c w hr hc hG => MF A c [] false (-1) (-1) 100 5 w hr hc hG)
 have HP1 := aC.mk (fun A c B d w hr hc hre hce hG => put_any A c B d Q0 ⟨#[97]⟩ w hr hc hre hce hG r0.1 r0.2.1 r0.2.2)
 have HP2 := aC.mk (fun A c B d w hr hc hre hce hG => put_any A c B d Q1 ⟨#[98]⟩ w hr hc hre hce hG r1.1 r1.2.1 r1.2.2)
 have HLE := aC.mk (fun A c B d w hr hc hre hce hG => LV A c B d Q2 w hr hc hre hce hG r2.1 r2.2.1 r2.2.2)
 have HAK := aC.mk (fun A c B d w hr hc hre hce hG => YF A c B d Q3 1 w hr hc hre hce hG r3.1 r3.2.1 r3.2.2 (by decide) (by decide))
 have HO2 := aC.mk (fun A c w hr hc hG => MF A c Q4.L.l Q4.L.dn Q4.L.fu Q4.L.fa 100 5 w hr hc hG)
 rw [h0] at HO1
 rw [h1, s1] at HP1
 rw [h2, s2] at HP2
 rw [h3, s3] at HLE
 rw [h4] at HAK
 rw [h5] at HO2
 dsimp only at HO1 HP1 HP2 HLE HAK HO2
 have HE5 := aC.mk h6
 clear h0 r0 h1 s1 r1 h2 s2 r2 h3 s3 r3 h4 h5 h6
 have H := aC.mk (Sep.start w)
 go_enter Tryz.func35, Tryz.ntmps35
 go_wp2_with fail
 refine ((l7.calls [] false (-1) (-1) _ rfl).mono ?_)
 rintro e wd1 ⟨v_, rfl, ho_, hb_⟩
 obtain ⟨Af, cf, eo_⟩ := Kd.dZ ho_
 subst eo_
 have n_ : aC (Sep w wd1 [row k67 67 (.slice Af (([] : List S67)).length cf) (([] : List S67))]) := ⟨Sep.jQ H.out hb_ ho_ o9⟩
 clear H
 have H := n_
 clear n_
 clear ho_ hb_
 go_wp2_with fail
 refine ((HO1.out _ _ _ (H.out.reads aP).2.2 (H.out.reads aP).2.1 (HG.out.below H.out.below)).mono ?_)
 rintro e wd2 ⟨A0, c0, B0, d0, rfl, HJ⟩
 have n_ : aC (Sep w wd2 [row k67 67 (.slice A0 (Q0.L.l).length c0) Q0.L.l, row k41 41 (.slice B0 (Q0.es).length d0) Q0.es, row k67 67 (.slice Af (([] : List S67)).length cf) (([] : List S67))]) := ⟨fM H.out HJ.out⟩
 clear H
 have H := n_
 clear n_
 clear HJ
 simp only [qc, lgc, List.cons_append, List.nil_append]
 have n_ : aC (Sep w wd2 [row k67 67 (.slice A0 (Q0.L.l).length c0) Q0.L.l, row k41 41 (.slice B0 (Q0.es).length d0) Q0.es]) := ⟨Sep.drop2 H.out⟩
 clear H
 have H := n_
 clear n_
 go_wp2_with (first
 |((with_reducible refine aU (N := 1) rfl ?_);
   refine bK rfl H (cs := [.slice none 0 0, .bool false, .int .i64 0, .int .i64 0, .int .i64 0, .int .u64 0, .int .u64 0, .bool false, .slice none 0 0, .int .i64 0]) (t := 33) ?hr ?_;
   (case hr => first | (go_simp; done) | (go_simp; rfl));
   intro g1 wd3 n_;
   simp only [Act.put, zA, zZ, zS];
   clear H;
   have H := n_;
   clear n_;
   have c_1 := H.out.cell (g := g1) aP;
   have z_1 := H.out.frozen (g := g1) aP)
 |((with_reducible refine aV (t := 33) (p := 1) rfl ?_);
   refine bH (rs1 := [box g1 [.slice A0 Q0.L.l.length c0, .bool Q0.L.dn, .int .i64 Q0.L.fu, .int .i64 Q0.L.fa, .int .i64 Q0.L.size, .int .u64 Q0.L.fr, .int .u64 Q0.L.nx, .bool Q0.L.br, .slice B0 Q0.es.length d0, .int .i64 Q0.most] 33, row k67 67 (.slice A0 (Q0.L.l).length c0) Q0.L.l, row k41 41 (.slice B0 (Q0.es).length d0) Q0.es]) rfl (t := 33) (p := 1) rfl rfl ?hr (H1 := (Sep.set0 (Sep.set0 (Sep.set0 (Sep.set0 (Sep.set0 (Sep.set0 (Sep.set0 (Sep.set0 (Sep.set0 (Sep.set0 H.out 0 (.slice A0 Q0.L.l.length c0) rfl) 1 (.bool Q0.L.dn) rfl) 2 (.int .i64 Q0.L.fu) rfl) 3 (.int .i64 Q0.L.fa) rfl) 4 (.int .i64 Q0.L.size) rfl) 5 (.int .u64 Q0.L.fr) rfl) 6 (.int .u64 Q0.L.nx) rfl) 7 (.bool Q0.L.br) rfl) 8 (.slice B0 Q0.es.length d0) rfl) 9 (.int .i64 Q0.most) rfl)) ?_;
   (case hr => first | (go_simp; done) | (go_simp; rfl));
   intro wd4 n_;
   clear H c_1 z_1;
   have H := n_;
   clear n_;
   have c_1 := H.out.cell (g := g1) aP;
   have z_1 := H.out.frozen (g := g1) aP)
 |fail)
 refine ((HP1.out _ _ _ _ _ (H.out.reads mem1).2.2 (H.out.reads mem1).2.1 (H.out.reads mem2).2.2 (H.out.reads mem2).2.1 (HG.out.below H.out.below)).mono ?_)
 rintro e wd5 ⟨A1, c1, B1, d1, rfl, HJ⟩
 have n_ : aC (Sep w wd5 [row k67 67 (.slice A1 (Q1.L.l).length c1) Q1.L.l, row k41 41 (.slice B1 (Q1.es).length d1) Q1.es, box g1 [.slice A0 Q0.L.l.length c0, .bool Q0.L.dn, .int .i64 Q0.L.fu, .int .i64 Q0.L.fa, .int .i64 Q0.L.size, .int .u64 Q0.L.fr, .int .u64 Q0.L.nx, .bool Q0.L.br, .slice B0 Q0.es.length d0, .int .i64 Q0.most] 33, row k67 67 (.slice A0 (Q0.L.l).length c0) Q0.L.l, row k41 41 (.slice B0 (Q0.es).length d0) Q0.es]) := ⟨fM H.out HJ.out⟩
 clear H c_1 z_1
 have H := n_
 clear n_
 have c_1 := H.out.cell (g := g1) mem2
 have z_1 := H.out.frozen (g := g1) mem2
 clear HJ
 simp only [qc, lgc, List.cons_append, List.nil_append]
 have n_ : aC (Sep w wd5 [row k67 67 (.slice A1 (Q1.L.l).length c1) Q1.L.l, row k41 41 (.slice B1 (Q1.es).length d1) Q1.es, box g1 [.slice A0 Q0.L.l.length c0, .bool Q0.L.dn, .int .i64 Q0.L.fu, .int .i64 Q0.L.fa, .int .i64 Q0.L.size, .int .u64 Q0.L.fr, .int .u64 Q0.L.nx, .bool Q0.L.br, .slice B0 Q0.es.length d0, .int .i64 Q0.most] 33, row k41 41 (.slice B0 (Q0.es).length d0) Q0.es]) := ⟨Sep.iJ H.out⟩
 clear H c_1 z_1
 have H := n_
 clear n_
 have c_1 := H.out.cell (g := g1) mem2
 have z_1 := H.out.frozen (g := g1) mem2
 have n_ : aC (Sep w wd5 [row k67 67 (.slice A1 (Q1.L.l).length c1) Q1.L.l, row k41 41 (.slice B1 (Q1.es).length d1) Q1.es, box g1 [.slice A0 Q0.L.l.length c0, .bool Q0.L.dn, .int .i64 Q0.L.fu, .int .i64 Q0.L.fa, .int .i64 Q0.L.size, .int .u64 Q0.L.fr, .int .u64 Q0.L.nx, .bool Q0.L.br, .slice B0 Q0.es.length d0, .int .i64 Q0.most] 33]) := ⟨Sep.iJ H.out⟩
 clear H c_1 z_1
 have H := n_
 clear n_
 have c_1 := H.out.cell (g := g1) mem2
 have z_1 := H.out.frozen (g := g1) mem2
 go_wp2_with (first
 |((with_reducible refine aV (t := 33) (p := 1) rfl ?_);
   refine bH (rs1 := [row k67 67 (.slice A1 (Q1.L.l).length c1) Q1.L.l, row k41 41 (.slice B1 (Q1.es).length d1) Q1.es, box g1 [.slice A1 Q1.L.l.length c1, .bool Q1.L.dn, .int .i64 Q1.L.fu, .int .i64 Q1.L.fa, .int .i64 Q1.L.size, .int .u64 Q1.L.fr, .int .u64 Q1.L.nx, .bool Q1.L.br, .slice B1 Q1.es.length d1, .int .i64 Q1.most] 33]) rfl (t := 33) (p := 1) rfl rfl ?hr (H1 := (Sep.set2 (Sep.set2 (Sep.set2 (Sep.set2 (Sep.set2 (Sep.set2 (Sep.set2 (Sep.set2 (Sep.set2 (Sep.set2 H.out 0 (.slice A1 Q1.L.l.length c1) rfl) 1 (.bool Q1.L.dn) rfl) 2 (.int .i64 Q1.L.fu) rfl) 3 (.int .i64 Q1.L.fa) rfl) 4 (.int .i64 Q1.L.size) rfl) 5 (.int .u64 Q1.L.fr) rfl) 6 (.int .u64 Q1.L.nx) rfl) 7 (.bool Q1.L.br) rfl) 8 (.slice B1 Q1.es.length d1) rfl) 9 (.int .i64 Q1.most) rfl)) ?_;
   (case hr => first | (go_simp; done) | (go_simp; rfl));
   intro wd6 n_;
   clear H c_1 z_1;
   have H := n_;
   clear n_;
   have c_1 := H.out.cell (g := g1) mem2;
   have z_1 := H.out.frozen (g := g1) mem2)
 |fail)
 refine ((HP2.out _ _ _ _ _ (H.out.reads aP).2.2 (H.out.reads aP).2.1 (H.out.reads mem1).2.2 (H.out.reads mem1).2.1 (HG.out.below H.out.below)).mono ?_)
 rintro e wd7 ⟨A2, c2, B2, d2, rfl, HJ⟩
 have n_ : aC (Sep w wd7 [row k67 67 (.slice A2 (Q2.L.l).length c2) Q2.L.l, row k41 41 (.slice B2 (Q2.es).length d2) Q2.es, row k67 67 (.slice A1 (Q1.L.l).length c1) Q1.L.l, row k41 41 (.slice B1 (Q1.es).length d1) Q1.es, box g1 [.slice A1 Q1.L.l.length c1, .bool Q1.L.dn, .int .i64 Q1.L.fu, .int .i64 Q1.L.fa, .int .i64 Q1.L.size, .int .u64 Q1.L.fr, .int .u64 Q1.L.nx, .bool Q1.L.br, .slice B1 Q1.es.length d1, .int .i64 Q1.most] 33]) := ⟨fM H.out HJ.out⟩
 clear H c_1 z_1
 have H := n_
 clear n_
 have c_1 := H.out.cell (g := g1) bT
 have z_1 := H.out.frozen (g := g1) bT
 clear HJ
 simp only [qc, lgc, List.cons_append, List.nil_append]
 have n_ : aC (Sep w wd7 [row k67 67 (.slice A2 (Q2.L.l).length c2) Q2.L.l, row k41 41 (.slice B2 (Q2.es).length d2) Q2.es, row k41 41 (.slice B1 (Q1.es).length d1) Q1.es, box g1 [.slice A1 Q1.L.l.length c1, .bool Q1.L.dn, .int .i64 Q1.L.fu, .int .i64 Q1.L.fa, .int .i64 Q1.L.size, .int .u64 Q1.L.fr, .int .u64 Q1.L.nx, .bool Q1.L.br, .slice B1 Q1.es.length d1, .int .i64 Q1.most] 33]) := ⟨Sep.drop2 H.out⟩
 clear H c_1 z_1
 have H := n_
 clear n_
 have c_1 := H.out.cell (g := g1) mem3
 have z_1 := H.out.frozen (g := g1) mem3
 have n_ : aC (Sep w wd7 [row k67 67 (.slice A2 (Q2.L.l).length c2) Q2.L.l, row k41 41 (.slice B2 (Q2.es).length d2) Q2.es, box g1 [.slice A1 Q1.L.l.length c1, .bool Q1.L.dn, .int .i64 Q1.L.fu, .int .i64 Q1.L.fa, .int .i64 Q1.L.size, .int .u64 Q1.L.fr, .int .u64 Q1.L.nx, .bool Q1.L.br, .slice B1 Q1.es.length d1, .int .i64 Q1.most] 33]) := ⟨Sep.drop2 H.out⟩
 clear H c_1 z_1
 have H := n_
 clear n_
 have c_1 := H.out.cell (g := g1) mem2
 have z_1 := H.out.frozen (g := g1) mem2
 go_wp2_with (first
 |((with_reducible refine aV (t := 33) (p := 1) rfl ?_);
   refine bH (rs1 := [row k67 67 (.slice A2 (Q2.L.l).length c2) Q2.L.l, row k41 41 (.slice B2 (Q2.es).length d2) Q2.es, box g1 [.slice A2 Q2.L.l.length c2, .bool Q2.L.dn, .int .i64 Q2.L.fu, .int .i64 Q2.L.fa, .int .i64 Q2.L.size, .int .u64 Q2.L.fr, .int .u64 Q2.L.nx, .bool Q2.L.br, .slice B2 Q2.es.length d2, .int .i64 Q2.most] 33]) rfl (t := 33) (p := 1) rfl rfl ?hr (H1 := (Sep.set2 (Sep.set2 (Sep.set2 (Sep.set2 (Sep.set2 (Sep.set2 (Sep.set2 (Sep.set2 (Sep.set2 (Sep.set2 H.out 0 (.slice A2 Q2.L.l.length c2) rfl) 1 (.bool Q2.L.dn) rfl) 2 (.int .i64 Q2.L.fu) rfl) 3 (.int .i64 Q2.L.fa) rfl) 4 (.int .i64 Q2.L.size) rfl) 5 (.int .u64 Q2.L.fr) rfl) 6 (.int .u64 Q2.L.nx) rfl) 7 (.bool Q2.L.br) rfl) 8 (.slice B2 Q2.es.length d2) rfl) 9 (.int .i64 Q2.most) rfl)) ?_;
   (case hr => first | (go_simp; done) | (go_simp; rfl));
   intro wd8 n_;
   clear H c_1 z_1;
   have H := n_;
   clear n_;
   have c_1 := H.out.cell (g := g1) mem2;
   have z_1 := H.out.frozen (g := g1) mem2)
 |fail)
 refine ((HLE.out _ _ _ _ _ (H.out.reads aP).2.2 (H.out.reads aP).2.1 (H.out.reads mem1).2.2 (H.out.reads mem1).2.1 (HG.out.below H.out.below)).mono ?_)
 rintro e wd9 ⟨A3, c3, B3, d3, rfl, HJ⟩
 have n_ : aC (Sep w wd9 [row k67 67 (.slice A3 (Q3.L.l).length c3) Q3.L.l, row k41 41 (.slice B3 (Q3.es).length d3) Q3.es, row k67 67 (.slice A2 (Q2.L.l).length c2) Q2.L.l, row k41 41 (.slice B2 (Q2.es).length d2) Q2.es, box g1 [.slice A2 Q2.L.l.length c2, .bool Q2.L.dn, .int .i64 Q2.L.fu, .int .i64 Q2.L.fa, .int .i64 Q2.L.size, .int .u64 Q2.L.fr, .int .u64 Q2.L.nx, .bool Q2.L.br, .slice B2 Q2.es.length d2, .int .i64 Q2.most] 33]) := ⟨fM H.out HJ.out⟩
 clear H c_1 z_1
 have H := n_
 clear n_
 have c_1 := H.out.cell (g := g1) bT
 have z_1 := H.out.frozen (g := g1) bT
 clear HJ
 simp only [qc, lgc, List.cons_append, List.nil_append]
 have n_ : aC (Sep w wd9 [row k67 67 (.slice A3 (Q3.L.l).length c3) Q3.L.l, row k41 41 (.slice B3 (Q3.es).length d3) Q3.es, row k41 41 (.slice B2 (Q2.es).length d2) Q2.es, box g1 [.slice A2 Q2.L.l.length c2, .bool Q2.L.dn, .int .i64 Q2.L.fu, .int .i64 Q2.L.fa, .int .i64 Q2.L.size, .int .u64 Q2.L.fr, .int .u64 Q2.L.nx, .bool Q2.L.br, .slice B2 Q2.es.length d2, .int .i64 Q2.most] 33]) := ⟨Sep.drop2 H.out⟩
 clear H c_1 z_1
 have H := n_
 clear n_
 have c_1 := H.out.cell (g := g1) mem3
 have z_1 := H.out.frozen (g := g1) mem3
 have n_ : aC (Sep w wd9 [row k67 67 (.slice A3 (Q3.L.l).length c3) Q3.L.l, row k41 41 (.slice B3 (Q3.es).length d3) Q3.es, box g1 [.slice A2 Q2.L.l.length c2, .bool Q2.L.dn, .int .i64 Q2.L.fu, .int .i64 Q2.L.fa, .int .i64 Q2.L.size, .int .u64 Q2.L.fr, .int .u64 Q2.L.nx, .bool Q2.L.br, .slice B2 Q2.es.length d2, .int .i64 Q2.most] 33]) := ⟨Sep.drop2 H.out⟩
 clear H c_1 z_1
 have H := n_
 clear n_
 have c_1 := H.out.cell (g := g1) mem2
 have z_1 := H.out.frozen (g := g1) mem2
 clear c_1 z_1
 have c_1 := H.out.cell (g := g1) mem2
 have z_1 := H.out.frozen (g := g1) mem2
 go_wp2_with (first
 |((with_reducible refine aU (N := 7) rfl ?_);
   refine bK rfl H (cs := [.int .u64 0, .string ⟨#[]⟩, .bool false]) (t := 41) ?hr ?_;
   (case hr => first | (go_simp; done) | (go_simp; rfl));
   intro g7 ED n_;
   simp only [Act.put, zA, zZ, zS];
   clear H c_1 z_1;
   have H := n_;
   clear n_;
   have c_7 := H.out.cell (g := g7) aP;
   have z_7 := H.out.frozen (g := g7) aP;
   have c_1 := H.out.cell (g := g1) mem3;
   have z_1 := H.out.frozen (g := g1) mem3)
 |((with_reducible refine aV (t := 33) (p := 1) rfl ?_);
   refine bH (rs1 := [box g7 [.int .u64 0, .string ⟨#[]⟩, .bool false] 41, row k67 67 (.slice A3 (Q3.L.l).length c3) Q3.L.l, row k41 41 (.slice B3 (Q3.es).length d3) Q3.es, box g1 [.slice A3 Q3.L.l.length c3, .bool Q3.L.dn, .int .i64 Q3.L.fu, .int .i64 Q3.L.fa, .int .i64 Q3.L.size, .int .u64 Q3.L.fr, .int .u64 Q3.L.nx, .bool Q3.L.br, .slice B3 Q3.es.length d3, .int .i64 Q3.most] 33]) rfl (t := 33) (p := 1) rfl rfl ?hr (H1 := (Sep.dY (Sep.dY (Sep.dY (Sep.dY (Sep.dY (Sep.dY (Sep.dY (Sep.dY (Sep.dY (Sep.dY H.out 0 (.slice A3 Q3.L.l.length c3) rfl) 1 (.bool Q3.L.dn) rfl) 2 (.int .i64 Q3.L.fu) rfl) 3 (.int .i64 Q3.L.fa) rfl) 4 (.int .i64 Q3.L.size) rfl) 5 (.int .u64 Q3.L.fr) rfl) 6 (.int .u64 Q3.L.nx) rfl) 7 (.bool Q3.L.br) rfl) 8 (.slice B3 Q3.es.length d3) rfl) 9 (.int .i64 Q3.most) rfl)) ?_;
   (case hr => first | (go_simp; done) | (go_simp; rfl));
   intro NJ n_;
   clear H c_7 z_7 c_1 z_1;
   have H := n_;
   clear n_;
   have c_7 := H.out.cell (g := g7) aP;
   have z_7 := H.out.frozen (g := g7) aP;
   have c_1 := H.out.cell (g := g1) mem3;
   have z_1 := H.out.frozen (g := g1) mem3)
 |((with_reducible refine aV (t := 41) (p := 7) rfl ?_);
   refine bH (rs1 := [box g7 [.int .u64 1, .string ⟨#[97]⟩, .bool true] 41, row k67 67 (.slice A3 (Q3.L.l).length c3) Q3.L.l, row k41 41 (.slice B3 (Q3.es).length d3) Q3.es, box g1 [.slice A3 Q3.L.l.length c3, .bool Q3.L.dn, .int .i64 Q3.L.fu, .int .i64 Q3.L.fa, .int .i64 Q3.L.size, .int .u64 Q3.L.fr, .int .u64 Q3.L.nx, .bool Q3.L.br, .slice B3 Q3.es.length d3, .int .i64 Q3.most] 33]) rfl (t := 41) (p := 7) rfl rfl ?hr (H1 := (Sep.set0 (Sep.set0 (Sep.set0 H.out 0 (.int .u64 1) rfl) 1 (.string ⟨#[97]⟩) rfl) 2 (.bool true) rfl)) ?_;
   (case hr => first | (go_simp; done) | (go_simp; rfl));
   intro JQ n_;
   clear H c_7 z_7 c_1 z_1;
   have H := n_;
   clear n_;
   have c_7 := H.out.cell (g := g7) aP;
   have z_7 := H.out.frozen (g := g7) aP;
   have c_1 := H.out.cell (g := g1) mem3;
   have z_1 := H.out.frozen (g := g1) mem3)
 |fail)
 refine ((HAK.out _ _ _ _ _ (H.out.reads mem1).2.2 (H.out.reads mem1).2.1 (H.out.reads mem2).2.2 (H.out.reads mem2).2.1 (HG.out.below H.out.below)).mono ?_)
 rintro e JR ⟨A4, c4, B4, d4, rfl, HJ⟩
 have n_ : aC (Sep w JR [row k67 67 (.slice A4 (Q4.L.l).length c4) Q4.L.l, row k41 41 (.slice B4 (Q4.es).length d4) Q4.es, box g7 [.int .u64 1, .string ⟨#[97]⟩, .bool true] 41, row k67 67 (.slice A3 (Q3.L.l).length c3) Q3.L.l, row k41 41 (.slice B3 (Q3.es).length d3) Q3.es, box g1 [.slice A3 Q3.L.l.length c3, .bool Q3.L.dn, .int .i64 Q3.L.fu, .int .i64 Q3.L.fa, .int .i64 Q3.L.size, .int .u64 Q3.L.fr, .int .u64 Q3.L.nx, .bool Q3.L.br, .slice B3 Q3.es.length d3, .int .i64 Q3.most] 33]) := ⟨fM H.out HJ.out⟩
 clear H c_7 z_7 c_1 z_1
 have H := n_
 clear n_
 have c_7 := H.out.cell (g := g7) mem2
 have z_7 := H.out.frozen (g := g7) mem2
 have c_1 := H.out.cell (g := g1) dM
 have z_1 := H.out.frozen (g := g1) dM
 clear HJ
 simp only [qc, lgc, List.cons_append, List.nil_append]
 have n_ : aC (Sep w JR [row k67 67 (.slice A4 (Q4.L.l).length c4) Q4.L.l, row k41 41 (.slice B4 (Q4.es).length d4) Q4.es, box g7 [.int .u64 1, .string ⟨#[97]⟩, .bool true] 41, row k41 41 (.slice B3 (Q3.es).length d3) Q3.es, box g1 [.slice A3 Q3.L.l.length c3, .bool Q3.L.dn, .int .i64 Q3.L.fu, .int .i64 Q3.L.fa, .int .i64 Q3.L.size, .int .u64 Q3.L.fr, .int .u64 Q3.L.nx, .bool Q3.L.br, .slice B3 Q3.es.length d3, .int .i64 Q3.most] 33]) := ⟨Sep.iJ H.out⟩
 clear H c_7 z_7 c_1 z_1
 have H := n_
 clear n_
 have c_7 := H.out.cell (g := g7) mem2
 have z_7 := H.out.frozen (g := g7) mem2
 have c_1 := H.out.cell (g := g1) bT
 have z_1 := H.out.frozen (g := g1) bT
 have n_ : aC (Sep w JR [row k67 67 (.slice A4 (Q4.L.l).length c4) Q4.L.l, row k41 41 (.slice B4 (Q4.es).length d4) Q4.es, box g7 [.int .u64 1, .string ⟨#[97]⟩, .bool true] 41, box g1 [.slice A3 Q3.L.l.length c3, .bool Q3.L.dn, .int .i64 Q3.L.fu, .int .i64 Q3.L.fa, .int .i64 Q3.L.size, .int .u64 Q3.L.fr, .int .u64 Q3.L.nx, .bool Q3.L.br, .slice B3 Q3.es.length d3, .int .i64 Q3.most] 33]) := ⟨Sep.iJ H.out⟩
 clear H c_7 z_7 c_1 z_1
 have H := n_
 clear n_
 have c_7 := H.out.cell (g := g7) mem2
 have z_7 := H.out.frozen (g := g7) mem2
 have c_1 := H.out.cell (g := g1) mem3
 have z_1 := H.out.frozen (g := g1) mem3
 go_wp2_with (first
 |((with_reducible refine aV (t := 33) (p := 1) rfl ?_);
   refine bH (rs1 := [row k67 67 (.slice A4 (Q4.L.l).length c4) Q4.L.l, row k41 41 (.slice B4 (Q4.es).length d4) Q4.es, box g7 [.int .u64 1, .string ⟨#[97]⟩, .bool true] 41, box g1 [.slice A4 Q4.L.l.length c4, .bool Q4.L.dn, .int .i64 Q4.L.fu, .int .i64 Q4.L.fa, .int .i64 Q4.L.size, .int .u64 Q4.L.fr, .int .u64 Q4.L.nx, .bool Q4.L.br, .slice B4 Q4.es.length d4, .int .i64 Q4.most] 33]) rfl (t := 33) (p := 1) rfl rfl ?hr (H1 := (Sep.dY (Sep.dY (Sep.dY (Sep.dY (Sep.dY (Sep.dY (Sep.dY (Sep.dY (Sep.dY (Sep.dY H.out 0 (.slice A4 Q4.L.l.length c4) rfl) 1 (.bool Q4.L.dn) rfl) 2 (.int .i64 Q4.L.fu) rfl) 3 (.int .i64 Q4.L.fa) rfl) 4 (.int .i64 Q4.L.size) rfl) 5 (.int .u64 Q4.L.fr) rfl) 6 (.int .u64 Q4.L.nx) rfl) 7 (.bool Q4.L.br) rfl) 8 (.slice B4 Q4.es.length d4) rfl) 9 (.int .i64 Q4.most) rfl)) ?_;
   (case hr => first | (go_simp; done) | (go_simp; rfl));
   intro TQ n_;
   clear H c_7 z_7 c_1 z_1;
   have H := n_;
   clear n_;
   have c_7 := H.out.cell (g := g7) mem2;
   have z_7 := H.out.frozen (g := g7) mem2;
   have c_1 := H.out.cell (g := g1) mem3;
   have z_1 := H.out.frozen (g := g1) mem3)
 |fail)
 refine ((HO2.out _ _ _ (H.out.reads aP).2.2 (H.out.reads aP).2.1 (HG.out.below H.out.below)).mono ?_)
 rintro e KR ⟨A5, c5, B5, d5, rfl, HJ⟩
 have n_ : aC (Sep w KR [row k67 67 (.slice A5 (Q5.L.l).length c5) Q5.L.l, row k41 41 (.slice B5 (Q5.es).length d5) Q5.es, row k67 67 (.slice A4 (Q4.L.l).length c4) Q4.L.l, row k41 41 (.slice B4 (Q4.es).length d4) Q4.es, box g7 [.int .u64 1, .string ⟨#[97]⟩, .bool true] 41, box g1 [.slice A4 Q4.L.l.length c4, .bool Q4.L.dn, .int .i64 Q4.L.fu, .int .i64 Q4.L.fa, .int .i64 Q4.L.size, .int .u64 Q4.L.fr, .int .u64 Q4.L.nx, .bool Q4.L.br, .slice B4 Q4.es.length d4, .int .i64 Q4.most] 33]) := ⟨fM H.out HJ.out⟩
 clear H c_7 z_7 c_1 z_1
 have H := n_
 clear n_
 have c_7 := H.out.cell (g := g7) bT
 have z_7 := H.out.frozen (g := g7) bT
 have c_1 := H.out.cell (g := g1) dM
 have z_1 := H.out.frozen (g := g1) dM
 clear HJ
 simp only [qc, lgc, List.cons_append, List.nil_append]
 have n_ : aC (Sep w KR [row k67 67 (.slice A5 (Q5.L.l).length c5) Q5.L.l, row k41 41 (.slice B5 (Q5.es).length d5) Q5.es, row k41 41 (.slice B4 (Q4.es).length d4) Q4.es, box g7 [.int .u64 1, .string ⟨#[97]⟩, .bool true] 41, box g1 [.slice A4 Q4.L.l.length c4, .bool Q4.L.dn, .int .i64 Q4.L.fu, .int .i64 Q4.L.fa, .int .i64 Q4.L.size, .int .u64 Q4.L.fr, .int .u64 Q4.L.nx, .bool Q4.L.br, .slice B4 Q4.es.length d4, .int .i64 Q4.most] 33]) := ⟨Sep.drop2 H.out⟩
 clear H c_7 z_7 c_1 z_1
 have H := n_
 clear n_
 have c_7 := H.out.cell (g := g7) mem3
 have z_7 := H.out.frozen (g := g7) mem3
 have c_1 := H.out.cell (g := g1) bT
 have z_1 := H.out.frozen (g := g1) bT
 have n_ : aC (Sep w KR [row k67 67 (.slice A5 (Q5.L.l).length c5) Q5.L.l, row k41 41 (.slice B5 (Q5.es).length d5) Q5.es, box g7 [.int .u64 1, .string ⟨#[97]⟩, .bool true] 41, box g1 [.slice A4 Q4.L.l.length c4, .bool Q4.L.dn, .int .i64 Q4.L.fu, .int .i64 Q4.L.fa, .int .i64 Q4.L.size, .int .u64 Q4.L.fr, .int .u64 Q4.L.nx, .bool Q4.L.br, .slice B4 Q4.es.length d4, .int .i64 Q4.most] 33]) := ⟨Sep.drop2 H.out⟩
 clear H c_7 z_7 c_1 z_1
 have H := n_
 clear n_
 have c_7 := H.out.cell (g := g7) mem2
 have z_7 := H.out.frozen (g := g7) mem2
 have c_1 := H.out.cell (g := g1) mem3
 have z_1 := H.out.frozen (g := g1) mem3
 clear c_7 z_7 c_1 z_1
 have c_7 := H.out.cell (g := g7) mem2
 have c_1 := H.out.cell (g := g1) mem3
 have z_1 := H.out.frozen (g := g1) mem3
 go_upto_region 7 with (first
 |((with_reducible refine aU (N := 10) rfl ?_);
   refine bK rfl H (cs := [.slice none 0 0, .bool false, .int .i64 0, .int .i64 0, .int .i64 0, .int .u64 0, .int .u64 0, .bool false, .slice none 0 0, .int .i64 0]) (t := 33) ?hr ?_;
   (case hr => first | (go_simp; done) | (go_simp; rfl));
   intro g10 ZL n_;
   simp only [Act.put, zA, zZ, zS];
   clear H c_7 c_1 z_1;
   have H := n_;
   clear n_;
   have qeT := H.out.cell (g := g10) aP;
   have qeU := H.out.frozen (g := g10) aP;
   have c_7 := H.out.cell (g := g7) mem3;
   have c_1 := H.out.cell (g := g1) bT;
   have z_1 := H.out.frozen (g := g1) bT)
 |((with_reducible refine aV (t := 33) (p := 10) rfl ?_);
   refine bH (rs1 := [box g10 [.slice A5 Q5.L.l.length c5, .bool Q5.L.dn, .int .i64 Q5.L.fu, .int .i64 Q5.L.fa, .int .i64 Q5.L.size, .int .u64 Q5.L.fr, .int .u64 Q5.L.nx, .bool Q5.L.br, .slice B5 Q5.es.length d5, .int .i64 Q5.most] 33, row k67 67 (.slice A5 (Q5.L.l).length c5) Q5.L.l, row k41 41 (.slice B5 (Q5.es).length d5) Q5.es, box g7 [.int .u64 1, .string ⟨#[97]⟩, .bool true] 41, box g1 [.slice A4 Q4.L.l.length c4, .bool Q4.L.dn, .int .i64 Q4.L.fu, .int .i64 Q4.L.fa, .int .i64 Q4.L.size, .int .u64 Q4.L.fr, .int .u64 Q4.L.nx, .bool Q4.L.br, .slice B4 Q4.es.length d4, .int .i64 Q4.most] 33]) rfl (t := 33) (p := 10) rfl rfl ?hr (H1 := (Sep.set0 (Sep.set0 (Sep.set0 (Sep.set0 (Sep.set0 (Sep.set0 (Sep.set0 (Sep.set0 (Sep.set0 (Sep.set0 H.out 0 (.slice A5 Q5.L.l.length c5) rfl) 1 (.bool Q5.L.dn) rfl) 2 (.int .i64 Q5.L.fu) rfl) 3 (.int .i64 Q5.L.fa) rfl) 4 (.int .i64 Q5.L.size) rfl) 5 (.int .u64 Q5.L.fr) rfl) 6 (.int .u64 Q5.L.nx) rfl) 7 (.bool Q5.L.br) rfl) 8 (.slice B5 Q5.es.length d5) rfl) 9 (.int .i64 Q5.most) rfl)) ?_;
   (case hr => first | (go_simp; done) | (go_simp; rfl));
   intro qce n_;
   clear H qeT qeU c_7 c_1 z_1;
   have H := n_;
   clear n_;
   have qeT := H.out.cell (g := g10) aP;
   have qeU := H.out.frozen (g := g10) aP;
   have c_7 := H.out.cell (g := g7) mem3;
   have c_1 := H.out.cell (g := g1) bT;
   have z_1 := H.out.frozen (g := g1) bT)
 |fail)
 have hel : Q5.es.length = 1 := by rw [HE5.out]; rfl
 have qiK : (Q5.es.length : Int) = 1 := by rw [hel]; rfl
 obtain ⟨gp, hgp⟩ := oW (B := B5) (d := d5) (es := Q5.es) H.out mem2 (by omega)
 subst hgp
 obtain ⟨q0, q1, q2, -⟩ := oI (gp := gp) (d := d5) (es := Q5.es) (i := 0) (x := ⟨2, ⟨#[98]⟩, false⟩) H.out mem2 (by rw [HE5.out]; rfl)
 simp only [Nat.zero_mul, Nat.zero_add] at q0 q1 q2
 have qiL : (0 : Int) < (Q5.es.length : Int) := by omega
 have qiM : 0 < Q5.es.length := by omega
 clear hel
 go_wp2_with fail
 go_ret
 exact ⟨rfl, H.out.below⟩
end Go.Proofs.U
