import Derived.Test.YtanonhipicoigaaGreatDoorZSas
import Derived.Test.YtanonhipicoigaaGreatDoorZSai
import Derived.Test.YtanonhipicoigaaGreatDoorZSar
import Derived.Test.YtanonhipicoigaaGreatDoorZSap
import Derived.Test.YtanonhipicoigaaGreatDoorZSaq
import Derived.Test.YtanonhipicoigaaGreatDoorZSag
set_option linter.unusedVariables false
set_option linter.unusedSimpArgs false
set_option maxRecDepth 100000
namespace Go.Proofs.U
open Go.RowKit Go.Proofs.YW.PrintWords Go.Proofs.YW.PrintLast Go.Proofs.YW.PrintMore Go.Proofs.Sp Go.Proofs.fG
theorem yN (q : Int) (k : Nat) (hk : k < 8) : bt (lM q) ((k + 1 : Nat) : Int) = byteAt q k := by
 have h1 : (byt (lM q))[k + 1]? = some (UInt8.ofNat (byteAt q k).toNat) := by
  rw [lM, DN, qdf, rM, List.map_cons, List.getElem?_cons_succ, List.getElem?_map, List.getElem?_map, List.getElem?_range hk]
  rfl
 have h2 : 0 ≤ byteAt q k ∧ byteAt q k < 256 := by unfold byteAt; omega
 rw [V4, h1]
 simp only [Option.map_some, Option.getD_some, UInt8.toNat_ofNat']
 omega
theorem qaD (q : Int) : bt (lM q) 0 = 65 := by
 have h := V4 (lM q) 0
 rw [lM, DN, qdf, List.map_cons] at h
 rw [lM]
 exact h
theorem NW {q : Int} (h0 : 0 ≤ q) (h1 : q < 18446744073709551616) : qC (lM q) = some q := by
 rw [qC, if_pos ⟨NI q, qaD q⟩]
 have a0 : bt (lM q) ((8 - 7 : Nat) : Int) = byteAt q 0 := yN q 0 (by decide)
 have a1 : bt (lM q) ((8 - 6 : Nat) : Int) = byteAt q 1 := yN q 1 (by decide)
 have a2 : bt (lM q) ((8 - 5 : Nat) : Int) = byteAt q 2 := yN q 2 (by decide)
 have a3 : bt (lM q) ((8 - 4 : Nat) : Int) = byteAt q 3 := yN q 3 (by decide)
 have a4 : bt (lM q) ((8 - 3 : Nat) : Int) = byteAt q 4 := yN q 4 (by decide)
 have a5 : bt (lM q) ((8 - 2 : Nat) : Int) = byteAt q 5 := yN q 5 (by decide)
 have a6 : bt (lM q) ((8 - 1 : Nat) : Int) = byteAt q 6 := yN q 6 (by decide)
 have a7 : bt (lM q) ((8 - 0 : Nat) : Int) = byteAt q 7 := yN q 7 (by decide)
 have e : nvF (lM q) 8 = q := by
  rw [nvF, nvF, nvF, nvF, nvF, nvF, nvF, nvF, nvF, a0, a1, a2, a3, a4, a5, a6, a7]
  unfold byteAt
  rw [show (2 : Int) ^ (8 * 0) = 1 from rfl, show (2 : Int) ^ (8 * 1) = 256 from rfl, show (2 : Int) ^ (8 * 2) = 65536 from rfl, show (2 : Int) ^ (8 * 3) = 16777216 from rfl, show (2 : Int) ^ (8 * 4) = 4294967296 from rfl, show (2 : Int) ^ (8 * 5) = 1099511627776 from rfl, show (2 : Int) ^ (8 * 6) = 281474976710656 from rfl, show (2 : Int) ^ (8 * 7) = 72057594037927936 from rfl]
  omega
 rw [e]
theorem wY {nx : Int} : ∀ {l : List S41} {least : Int}, tX nx least l → ∀ x ∈ l, least ≤ x.f0
 | [], _, _, x, hx => by cases hx
 | y :: r, least, h, x, hx => by
  obtain ⟨_, h2, _, h4⟩ := h
  rcases List.mem_cons.1 hx with rfl | hx
  ·exact h2
  ·have := wY h4 x hx
   omega
theorem IG {nx nx' : Int} {l : List S41} {least : Int} (h : tX nx least l) : ∀ x ∈ l, uF l nx' ≤ x.f0 := by
 intro x hx
 cases l with
 | nil => cases hx
 | cons y r =>
  rcases List.mem_cons.1 hx with rfl | hx
  ·exact Int.le_refl _
  ·have := wY h.2.2.2 x hx
   show y.f0 ≤ _
   omega
theorem BI {nx : Int} : ∀ {l : List S41} {least : Int} (i : Nat), tX nx least l → tX nx least (l.eraseIdx i)
 | [], _, _, h => h
 | y :: r, least, 0, h => NV (by have := h.2.1; omega) h.2.2.2
 | y :: r, least, i + 1, h => ⟨h.1, h.2.1, h.2.2.1, BI i h.2.2.2⟩
theorem qB {nx q : Int} : ∀ {l : List S41} {least : Int} {i : Nat} {x : S41}, tX nx least l → l[i]? = some x → x.f0 = q → (strip l).filter (fun x => decide (x.f0 ≠ q)) = strip (l.eraseIdx i)
 | [], _, i, x, _, hx, _ => by simp at hx
 | y :: r, least, 0, x, h, hx, hq => by
  obtain rfl : y = x := by simpa using hx
  show ((⟨y.f0, y.f1, false⟩ : S41) :: strip r).filter _ = strip r
  rw [List.filter_cons, if_neg (by simp [hq]), List.filter_eq_self]
  intro z hz
  obtain ⟨z2, hz2, rfl⟩ := List.mem_map.1 hz
  have := wY h.2.2.2 z2 hz2
  simp only [ne_eq, decide_eq_true_eq]
  omega
 | y :: r, least, i + 1, x, h, hx, hq => by
  have hx2 : r[i]? = some x := by simpa using hx
  have h2 := wY h.2.2.2 x (List.mem_of_getElem? hx2)
  show ((⟨y.f0, y.f1, false⟩ : S41) :: strip r).filter _ = (⟨y.f0, y.f1, false⟩ : S41) :: strip (r.eraseIdx i)
  rw [List.filter_cons, if_pos (by simp only [ne_eq, decide_eq_true_eq]; omega), qB h.2.2.2 hx2 hq]
theorem y8 (l : List S41) (i : Nat) (x : S41) (b : Bool) (hx : l[i]? = some x) : strip (l.set i ⟨x.f0, x.f1, b⟩) = strip l := by
 unfold strip
 rw [List.map_set]
 apply List.ext_getElem?
 intro k
 by_cases hk : i = k
 ·subst hk
  have hl := (List.getElem?_eq_some_iff.1 hx).1
  rw [List.getElem?_set_self (by rw [List.length_map]; exact hl), List.getElem?_map, hx]
  rfl
 ·rw [List.getElem?_set_ne hk]
theorem qcc (s : ByteArray) (m : Nat) : bM [byt s] m = [⟨(m : Int), s⟩] := by
 show [(⟨(m : Int), ⟨(byt s).toArray⟩⟩ : S62)] = _
 rw [qeH]
theorem D7 {Q : Qu} {ds : List fG.Bytes} {n m : Nat} (h : WF Q.L ds n m) (s : ByteArray) : bM (ds ++ [byt s]) n = bM ds n ++ [⟨(m : Int), s⟩] := by
 rw [qZ, ← l9 SU n _ ds m h.ch, qcc]
theorem QW.put {Q : Qu} {ds : List fG.Bytes} {n m : Nat} {data : ByteArray} (h : QW Q ds n m) (hr : (Q.es.length : Int) < Q.most) (hs : data.size < 65536) (ha : (dM Q.L (P80 ++ data)).2 = 0) :
  ∃ Q', wR Q data = (Q', 0) ∧ MI Q data = (m : Int) ∧ QW Q' (ds ++ [byt (P80 ++ data)]) n (m + 1) ∧ Q'.es = Q.es ++ [⟨(m : Int), data, false⟩] ∧ Q'.most = Q.most ∧ Q'.L.l.length ≤ Q.L.l.length + 1 ∧ Q'.L.size = Q.L.size := by
 obtain ⟨R, e, hA⟩ : ∃ R e, dM Q.L (P80 ++ data) = (R, e) := ⟨_, _, rfl⟩
 rw [hA] at ha
 obtain rfl : e = 0 := ha
 obtain ⟨w1, w2, w3, _, _⟩ := FQ h.wf hA
 obtain ⟨w4, w5⟩ := NT h.wf h.fu h.fa hA
 have hp : wR Q data = (⟨R, Q.es ++ [⟨(m : Int), data, false⟩], Q.most⟩, 0) := by
  rw [wR, jZ h.ok h.wf.br, FN, if_pos hr, if_pos hs, hA, if_pos rfl, h.wf.nx]
 refine ⟨_, hp, ?_, ⟨w1, FX h.wf h.sy hA, w4, w5, h.lo, h.hi, ?_, ?_⟩, rfl, rfl, w3, w2⟩
 ·rw [MI, hp, if_pos rfl, h.wf.nx]
 ·have := h.hi
  simp only [List.length_append, List.length_singleton]
  omega
 ·rw [D7 h.wf, yK, ← h.es]
  exact List.map_append ..
theorem QW.qfD {Q : Qu} {ds : List fG.Bytes} {n m i : Nat} {x : S41} (h : QW Q ds n m) (hi : sH free Q.es = some i) (hx : Q.es[i]? = some x) :
  kD Q = (⟨Q.L, Q.es.set i ⟨x.f0, x.f1, true⟩, Q.most⟩, 0) ∧ lH Q = ⟨x.f0, x.f1, true⟩ ∧ QW ⟨Q.L, Q.es.set i ⟨x.f0, x.f1, true⟩, Q.most⟩ ds n m := by
 refine ⟨?_, ?_, ⟨h.wf, h.sy, h.fu, h.fa, h.lo, h.hi, by rw [List.length_set]; exact h.len, by rw [y8 _ _ _ _ hx]; exact h.es⟩⟩
 ·rw [kD, jZ h.ok h.wf.br, rQ, hi]
  simp only [I8, hx]
 ·rw [lH, if_pos ⟨h.ok, h.wf.br⟩, wQ, hi]
  simp only [hx]
theorem yO {q : Int} {l : List S41} {i : Nat} (hi : sH (lK q) l = some i) : ∃ x, l[i]? = some x ∧ x.f0 = q ∧ x.f2 = true := by
 obtain ⟨x, h1, h2, _⟩ := yF hi
 refine ⟨x, h1, ?_⟩
 simpa [lK] using h2
theorem QW.ack {Q : Qu} {ds : List fG.Bytes} {n m i : Nat} {q : Int} (h : QW Q ds n m) (hi : sH (lK q) Q.es = some i) (ha : (dM Q.L (lM q)).2 = 0) :
  ∃ Q' ds' n', DX Q q = (Q', 0) ∧ QW Q' ds' n' (m + 1) ∧ Q'.es = Q.es.eraseIdx i ∧ Q'.most = Q.most ∧ Q'.L.size = Q.L.size := by
 obtain ⟨x, hx, hxq, _⟩ := yO hi
 obtain ⟨R, e, hA⟩ : ∃ R e, dM Q.L (lM q) = (R, e) := ⟨_, _, rfl⟩
 rw [hA] at ha
 obtain rfl : e = 0 := ha
 obtain ⟨w1, w2, w3, _, _⟩ := FQ h.wf hA
 obtain ⟨w4, w5⟩ := NT h.wf h.fu h.fa hA
 have hs1 := FX h.wf h.sy hA
 have hq := uG h.fr0 h.oks x (List.mem_of_getElem? hx)
 have hnx := h.nx0
 have hnx1 : Q.L.nx ≤ R.nx := by rw [h.wf.nx, w1.nx]; omega
 have hok2 : tX R.nx Q.L.fr (Q.es.eraseIdx i) := QJ hnx1 (BI i h.oks)
 have hfx : uF (Q.es.eraseIdx i) R.nx ≤ R.nx := by
  cases hE : Q.es.eraseIdx i with
  | nil => exact Int.le_refl _
  | cons y r =>
   rw [hE] at hok2
   show y.f0 ≤ _
   have := hok2.2.2.1
   omega
 obtain ⟨R2, d0, d1, k1, k2, k3, k4, k5, k6, k7, k8⟩ := qb8 w1 w4 w5 hfx
 have hE : dA (bM (ds ++ [byt (lM q)]) n) = strip (Q.es.eraseIdx i) := by
  rw [D7 h.wf, yL (q := q) (NW (by rw [← hxq]; exact hq.1) (by rw [← hxq]; omega)), ← h.es]
  exact qB h.oks hx hxq
 have hE2 : dA (bM d1 (n + d0.length)) = strip (Q.es.eraseIdx i) := by
  rw [k3, qZ] at hE
  obtain ⟨X, g1, g2⟩ := uS (bM d1 (n + d0.length)) (bM d0 n)
  rw [g1] at hE
  cases X with
  | nil => exact hE
  | cons y X =>
   exfalso
   obtain ⟨r, hr, hry⟩ := g2 y (List.mem_cons_self ..)
   obtain ⟨j, hj⟩ := List.getElem?_of_mem hr
   have h1 := DZ d0 n j r hj
   have h2 := (List.getElem?_eq_some_iff.1 hj).1
   rw [pI] at h2
   have hy : y ∈ strip (Q.es.eraseIdx i) := by rw [← hE]; exact List.mem_append_left _ (List.mem_cons_self ..)
   obtain ⟨y2, hy2, rfl⟩ := List.mem_map.1 hy
   have h3 := IG (nx' := R.nx) hok2 y2 hy2
   have h4 : r.f0 = y2.f0 := hry
   rcases k4 with k4 | k4
   ·subst k4
    cases hr
   ·omega
 refine ⟨⟨R2, Q.es.eraseIdx i, Q.most⟩, d1, n + d0.length, ?_, ⟨k2, k8 hs1, k6, k7, h.lo, h.hi, ?_, hE2.symm⟩, rfl, rfl, k5.trans w2⟩
 ·rw [DX, jZ h.ok h.wf.br, FP, hi]
  simp only [hA, if_true, k1]
 ·have := h.len
  have h9 := List.length_eraseIdx_le Q.es i
  show (Q.es.eraseIdx i).length ≤ 1024
  omega
theorem qcd {size most : Int} (h0 : 1 ≤ size) (h1 : size ≤ 262144) (m0 : 1 ≤ most) (m1 : most ≤ 1024) : QW ⟨L0s size, [], most⟩ [] 1 1 :=
 ⟨qbW h0 h1, fun x hx => (by cases hx), rfl, rfl, m0, m1, by simp, rfl⟩
theorem NY {size most : Int} (h0 : 1 ≤ size) (h1 : size ≤ 262144) (m0 : 1 ≤ most) (m1 : most ≤ 1024) : kN [] false (-1) (-1) size most = (⟨L0s size, [], most⟩, 0) := by
 rw [kN, if_pos vS, if_neg (by omega), qbX h0 h1]
 simp only
 rw [if_pos trivial, if_neg (by simp [dA])]
 rfl
theorem LJ {size most : Int} (h : most < 1 ∨ 1024 < most) : kN [] false (-1) (-1) size most = (Qz, 2) := by
 rw [kN, if_pos vS, if_pos h]
theorem V6 {size most : Int} (h : size < 1 ∨ 262144 < size) : kN [] false (-1) (-1) size most = (Qz, 2) := by
 by_cases hm : most < 1 ∨ 1024 < most
 ·exact LJ hm
 ·rw [kN, if_pos vS, if_neg hm, qbY h]
  simp only
  rw [if_neg (by decide), if_neg (by simp [Lz])]
theorem QW.reopen {Q : Qu} {ds : List fG.Bytes} {n m : Nat} {size most : Int} (h : QW Q ds n m) (h0 : 1 ≤ size) (h1 : size ≤ 262144) (m0 : 1 ≤ most) (m1 : most ≤ 1024) :
  ∃ L, kN Q.L.l false (-1) (-1) size most = (⟨L, strip Q.es, most⟩, 0) ∧ L.fu = -1 ∧ L.fa = -1 ∧ L.size = size := by
 obtain ⟨L, g1, _, g3, g4, g5⟩ := LH (most := most) (h.wf.back h.sy) h0 h1 m0 m1 (by rw [← h.es, y7]; exact h.len)
 rw [← h.es] at g1
 exact ⟨L, g1, g3, g4, g5⟩
def okR (Q : Qu) : Prop := 0 ≤ Q.L.fr ∧ 0 ≤ Q.L.nx ∧ Q.L.nx < 18446744073709551616
theorem QW.okR {Q : Qu} {ds : List fG.Bytes} {n m : Nat} (h : QW Q ds n m) : okR Q := ⟨h.fr0, h.nx0.1, h.nx0.2⟩
theorem qeI : ∃ Q0 Q1 Q2 Q3 Q4 Q5, kN [] false (-1) (-1) 100 5 = (Q0, 0) ∧ okR Q0 ∧ wR Q0 ⟨#[97]⟩ = (Q1, 0) ∧ MI Q0 ⟨#[97]⟩ = 1 ∧ okR Q1 ∧ wR Q1 ⟨#[98]⟩ = (Q2, 0) ∧ MI Q1 ⟨#[98]⟩ = 2 ∧ okR Q2
  ∧ kD Q2 = (Q3, 0) ∧ lH Q2 = ⟨1, ⟨#[97]⟩, true⟩ ∧ okR Q3 ∧ DX Q3 1 = (Q4, 0) ∧ kN Q4.L.l Q4.L.dn Q4.L.fu Q4.L.fa 100 5 = (Q5, 0) ∧ Q5.es = [⟨2, ⟨#[98]⟩, false⟩] := by
 have w0 := qcd (size := 100) (most := 5) (by decide) (by decide) (by decide) (by decide)
 have hP : ∀ d : ByteArray, d.size = 1 → (P80 ++ d).size ≤ 65536 := fun d h => by rw [LD, h]; decide
 obtain ⟨R1, a1, _, _⟩ := yJ (d := P80 ++ ⟨#[97]⟩) w0.wf rfl rfl (hP _ rfl) (by decide) (by show (0 : Nat) < 64; decide)
 obtain ⟨Q1, p1, s1, w1, e1, m1, l1, z1⟩ := w0.put (data := ⟨#[97]⟩) (by decide) (by decide) (by rw [a1])
 have l1' : Q1.L.l.length ≤ 1 := l1
 obtain ⟨R2, a2, _, _⟩ := yJ (d := P80 ++ ⟨#[98]⟩) w1.wf w1.fu w1.fa (hP _ rfl) (by decide) (by omega)
 have m1' : Q1.most = 5 := m1
 have e1' : Q1.es = [⟨1, ⟨#[97]⟩, false⟩] := e1
 obtain ⟨Q2, p2, s2, w2, e2, m2, l2, z2⟩ := w1.put (data := ⟨#[98]⟩) (by rw [m1', e1']; decide) (by decide) (by rw [a2])
 have e2' : Q2.es = [⟨1, ⟨#[97]⟩, false⟩, ⟨2, ⟨#[98]⟩, false⟩] := by rw [e2, e1']; rfl
 obtain ⟨g1, g2, w3⟩ := w2.qfD (i := 0) (x := ⟨1, ⟨#[97]⟩, false⟩) (by rw [e2']; rfl) (by rw [e2']; rfl)
 obtain ⟨Q3, hQ3⟩ : ∃ Q3, Q3 = (⟨Q2.L, Q2.es.set 0 ⟨1, ⟨#[97]⟩, true⟩, Q2.most⟩ : Qu) := ⟨_, rfl⟩
 have e3 : Q3.es = [⟨1, ⟨#[97]⟩, true⟩, ⟨2, ⟨#[98]⟩, false⟩] := by rw [hQ3]; show Q2.es.set 0 _ = _; rw [e2']; rfl
 have l3 : Q3.L.l.length ≤ 2 := by rw [hQ3]; show Q2.L.l.length ≤ 2; omega
 have g1' : kD Q2 = (Q3, 0) := by rw [hQ3]; exact g1
 have w3' : QW Q3 (([] ++ [byt (P80 ++ ⟨#[97]⟩)]) ++ [byt (P80 ++ ⟨#[98]⟩)]) 1 (1 + 1 + 1) := by rw [hQ3]; exact w3
 obtain ⟨R3, a3, _, _⟩ := yJ (d := lM 1) w3'.wf w3'.fu w3'.fa (by rw [NI]; decide) (by decide) (by omega)
 obtain ⟨Q4, ds4, n4, k1, w4, e4, m4, z4⟩ := w3'.ack (i := 0) (q := 1) (by rw [e3]; rfl) (by rw [a3])
 obtain ⟨L5, o5, _⟩ := w4.reopen (size := 100) (most := 5) (by decide) (by decide) (by decide) (by decide)
 refine ⟨⟨L0s 100, [], 5⟩, Q1, Q2, Q3, Q4, ⟨L5, strip Q4.es, 5⟩, NY (by decide) (by decide) (by decide) (by decide), w0.okR, p1, s1, w1.okR, p2, s2, w2.okR, g1', g2, w3'.okR, k1, ?_, ?_⟩
 ·rw [w4.wf.dn, w4.fu, w4.fa]; exact o5
 ·show strip Q4.es = _
  rw [e4, e3]
  rfl
end Go.Proofs.U
namespace Go.Proofs.U
open Go.ChangeShapes Go.WideShapes Go.Deep Go.RowKit Go.Proofs.YW.PrintWords Go.Proofs.YW.PrintLast Go.Proofs.YW.PrintMore
section
variable {H : Type} {enc : TypeId × Value → H} {w : World} {base : Nat} {held : Bool}
theorem FY {n : Int} (h : (Lit.int .u64 n).wf = true) : 0 ≤ n ∧ n < 18446744073709551616 := by
 have h2 : IntKind.u64.min ≤ n ∧ n ≤ IntKind.u64.max := by simpa [Lit.wf] using h
 have h3 : IntKind.u64.max = 18446744073709551615 := rfl
 exact ⟨h2.1, by omega⟩
end
end Go.Proofs.U
namespace Go.Proofs.U
open Go.RowKit Go.Proofs.YW.PrintWords Go.Proofs.YW.PrintLast Go.Proofs.YW.PrintMore
attribute [local go_sem] iE iF jG jH gQ gU iJ iK
end Go.Proofs.U
namespace Go.Proofs.U
open Go.RowKit Go.Proofs.YW.PrintWords Go.Proofs.YW.PrintLast Go.Proofs.YW.PrintMore
attribute [local go_sem] iE iF jG jH gQ gU iJ iK
theorem qfE (d : Nat) (w : World) (x0 y0 : Int) (x1 y1 : ByteArray) (x2 y2 : Bool) :
  (Op.equalIn (d + 2) 41 (.agg #[.int .u64 x0, .string x1, .bool x2]) (.agg #[.int .u64 y0, .string y1, .bool y2])).run Tryz.prog w = .ok (x0 == y0 && (x1.toList == y1.toList && (x2 == y2))) w := by
 refine UD Tryz.underlying41 (by kernel_rfl) ?_
 refine xM (by rfl) (by go_simp; rfl) (by go_simp; rfl) (by go_simp) ?_
 refine xM (by rfl) (by go_simp; rfl) (by go_simp; rfl) (by go_simp) ?_
 exact JJ (by rfl) (by go_simp; rfl) (by go_simp; rfl) (by go_simp)
end Go.Proofs.U
namespace Go.Proofs.U
open Go.RowKit Go.Proofs.YW.PrintWords Go.Proofs.YW.PrintLast Go.Proofs.YW.PrintMore
attribute [local go_sem] iE iF jG jH gQ gU iJ iK
attribute [local go_sem high] qfE
end Go.Proofs.U
namespace Go.Proofs.U
open Go.RowKit Go.Proofs.YW.PrintWords Go.Proofs.YW.PrintLast Go.Proofs.YW.PrintMore
attribute [local go_sem] iE iF jG jH gQ gU iJ iK
end Go.Proofs.U
namespace Go.Proofs.U
open Go.RowKit Go.Proofs.YW.PrintWords Go.Proofs.YW.PrintLast Go.Proofs.YW.PrintMore
attribute [local go_sem] iE iF jG jH gQ gU iJ iK
theorem qfF (d : Nat) (w : World) (x0 y0 : Int) (x1 y1 : ByteArray) :
  (Op.equalIn (d + 2) 62 (.agg #[.int .u64 x0, .string x1]) (.agg #[.int .u64 y0, .string y1])).run Tryz.prog w = .ok (x0 == y0 && (x1.toList == y1.toList)) w := by
 refine UD Tryz.underlying62 (by kernel_rfl) ?_
 refine xM (by rfl) (by go_simp; rfl) (by go_simp; rfl) (by go_simp) ?_
 exact JJ (by rfl) (by go_simp; rfl) (by go_simp; rfl) (by go_simp)
end Go.Proofs.U
namespace Go.Proofs.U
open Go.RowKit Go.Proofs.YW.PrintWords Go.Proofs.YW.PrintLast Go.Proofs.YW.PrintMore
attribute [local go_sem] iE iF jG jH gQ gU iJ iK
attribute [local go_sem high] qfF
end Go.Proofs.U
namespace Go.Proofs.U
open Go.RowKit Go.Proofs.YW.PrintWords Go.Proofs.YW.PrintLast Go.Proofs.YW.PrintMore Go.Proofs.Sp Go.Proofs.fG
theorem TR {l : List S67} {dn : Bool} {fu fa size most : Int} {Q : Qu} (h : kN l dn fu fa size most = (Q, 0)) :
  ∃ ds n m, WF Q.L ds n m ∧ Q.es = dA (bM ds n) ∧ Q.es.length ≤ 1024 ∧ Q.most = most ∧ 1 ≤ most ∧ most ≤ 1024 ∧ Q.L.size = size := by
 unfold kN at h
 split at h
 ·split at h
  ·cases h
  rename_i hm
  obtain ⟨R, rs, e, hO⟩ : ∃ R rs e, iR l dn fu fa size = (R, rs, e) := ⟨_, _, _, rfl⟩
  rw [hO] at h
  simp only at h
  split at h
  ·rename_i he
   subst he
   obtain ⟨ds, n, m, hw, rfl, hs⟩ := BA hO
   split at h
   ·cases h
   rename_i hl
   obtain ⟨rfl, _⟩ := Prod.mk.inj h
   exact ⟨ds, n, m, hw, rfl, by show (dA _).length ≤ 1024; omega, rfl, by omega, by omega, hs⟩
  ·rename_i he
   split at h
   ·exact absurd (Prod.mk.inj h).2 he
   ·exact absurd (Prod.mk.inj h).2 he
 ·cases h
theorem TS {l : List S67} {dn : Bool} {fu fa size mst : Int} {Q : Qu} (h : kN l dn fu fa size mst = (Q, 0)) : okQ Q ∧ okR Q ∧ Q.es.length ≤ 1024 ∧ Q.L.l.length ≤ 64 ∧ (∀ x ∈ Q.es, x.f2 = false) := by
 obtain ⟨ds, n, m, hw, he, hl, hm, m0, m1, hs⟩ := TR h
 have h1 := hw.nx
 have h2 := hw.top
 have h3 := hw.fr
 have h4 := l9 SU n _ ds m hw.ch
 unfold most at h2
 refine ⟨⟨hw.okL, by omega, by omega, hl, ?_⟩, ⟨by omega, by omega, by omega⟩, hl, kK hw.right, ?_⟩
 ·rw [he, hw.fr]
  exact wW ds n (by rw [h1, h4]; exact Int.le_refl _) (yM n _ ds m hw.ch)
 ·rw [he]
  exact wX _
theorem TT {Q : Qu} (h : (kD Q).2 = 0) : okQ Q ∧ Q.L.br = false ∧ ∃ i x, sH free Q.es = some i ∧ Q.es[i]? = some x ∧ x.f2 = false ∧ kD Q = (⟨Q.L, Q.es.set i ⟨x.f0, x.f1, true⟩, Q.most⟩, 0) ∧ lH Q = ⟨x.f0, x.f1, true⟩ := by
 by_cases hok : okQ Q
 ·by_cases hb : Q.L.br = true
  ·rw [kD, qcb hok hb] at h
   exact absurd h (show ¬ (6 : Int) = 0 by decide)
  ·have hb : Q.L.br = false := by simpa using hb
   rw [kD, jZ hok hb, rQ] at h
   cases hi : sH free Q.es with
   | none =>
    rw [hi] at h
    exact absurd h (show ¬ (7 : Int) = 0 by decide)
   | some i =>
    obtain ⟨x, hx, hp, _⟩ := yF hi
    refine ⟨hok, hb, i, x, rfl, hx, by simpa [free] using hp, ?_, ?_⟩
    ·rw [kD, jZ hok hb, rQ, hi]
     simp only [I8, hx]
    ·rw [lH, if_pos ⟨hok, hb⟩, wQ, hi]
     simp only [hx]
 ·rw [kD, qaC hok] at h
  exact absurd h (show ¬ (6 : Int) = 0 by decide)
theorem MJ {l : List S67} {dn : Bool} {fu fa : Int} {s : ByteArray} {wr : Bool} {rf : Int → Bool → Int} {df : Int → List S67} (hr : bF l = true) (hg : rf (bsOf l s) (kR l s (bsOf l s)) = 0 → bF (df (bsOf l s)) = true) : bF (bU l dn fu fa s wr rf df).1 = true := by
 unfold bU
 rw [if_pos hr]
 split
 ·exact hr
 ·split
  ·rename_i hrf
   split
   ·exact hr
   ·split
    ·cases wr
     ·exact hr
     ·exact hg hrf
    ·exact hg hrf
  ·exact hr
structure Keeps (L R : Lg) : Prop where
 right : bF R.l = true
 size : R.size = L.size
 fr : R.fr = L.fr
 nx : R.nx = L.nx
theorem Keeps.refl {L : Lg} (h : bF L.l = true) : Keeps L L := ⟨h, rfl, rfl, rfl⟩
theorem Keeps.trans {L R S : Lg} (h : Keeps L R) (g : Keeps R S) : Keeps L S := ⟨g.right, g.size.trans h.size, g.fr.trans h.fr, g.nx.trans h.nx⟩
theorem append_right {l : List S67} {dn : Bool} {fu fa : Int} {s d : ByteArray} (hr : bF l = true) : bF (jA l dn fu fa s d).1 = true := MJ hr fun h => (yB hr d h).1
theorem wZ {l : List S67} {dn : Bool} {fu fa : Int} {s : ByteArray} {wr : Bool} {rf : Int → Bool → Int} {df : Int → List S67} (hr : bF l = true) (h : rf (bsOf l s) (kR l s (bsOf l s)) = 0) (he : (bU l dn fu fa s wr rf df).2.2.2.2 ≠ 0) :
    (bU l dn fu fa s wr rf df).2.2.2.2 = 17 ∨ (bU l dn fu fa s wr rf df).2.2.2.2 = 18 := by
  unfold bU at he ⊢
  rw [if_pos hr] at he ⊢
  by_cases hd : dn = true
  · rw [if_pos hd]
    exact .inl rfl
  · rw [if_neg hd, if_pos h] at he ⊢
    by_cases hf : fa = 0
    · rw [if_pos hf]
      exact .inr rfl
    · rw [if_neg hf] at he ⊢
      by_cases hu : fu = 0
      · rw [if_pos hu]
        exact .inl rfl
      · rw [if_neg hu] at he
        exact absurd rfl he
theorem IX {l : List S67} {dn : Bool} {fu fa : Int} {s : ByteArray} {wr : Bool} {rf : Int → Bool → Int} {df : Int → List S67} (hr : bF l = true) (h : ¬ rf (bsOf l s) (kR l s (bsOf l s)) = 0) : (bU l dn fu fa s wr rf df).1 = l := by
 unfold bU
 rw [if_pos hr]
 by_cases hd : dn = true
 ·rw [if_pos hd]
 ·rw [if_neg hd, if_neg h]
theorem LK {L R : Lg} {ds : List fG.Bytes} {n m : Nat} {d : ByteArray} {e : Int} (h : WF L ds n m) (hs : Sy L.l) (hR : dM L d = (R, e)) (he : e ≠ 0) :
  (∃ L1, WF L1 ds n m ∧ Sy L1.l ∧ R.l = L1.l) ∨ (Wet R.l ds n m d ∧ d.size ≤ 65536 ∧ m < fG.most ∧ (e = 17 ∨ e = 18)) := by
 have hR0 := hR
 rw [dM, if_pos h.okL, jE, h.br, if_neg (by simp)] at hR
 split at hR
 ·obtain ⟨rfl, _⟩ := Prod.mk.inj hR
  exact .inl ⟨L, h, hs, rfl⟩
 rename_i hd
 split at hR
 ·obtain ⟨rfl, _⟩ := Prod.mk.inj hR
  exact .inl ⟨L, h, hs, rfl⟩
 rename_i hm
 have hm2 : m < fG.most := by
  rw [h.nx] at hm
  unfold fG.most
  omega
 split at hR
 case isFalse hz => exact .inl ⟨L, h, hs, TQ h hR he⟩
 rename_i hz
 obtain ⟨L1, hL1⟩ : ∃ L1, jD L (dR L.nx d).size = (L1, 0) := ⟨_, Prod.ext rfl hz⟩
 rw [hL1] at hR
 obtain ⟨w1, w2, w3, a, p, w4, w5⟩ := vP h hL1
 have hs1 := LC h hs hL1
 have hb : byt (dR L.nx d) = fG.frame SU m (byt d) := by rw [h.nx]; exact pG m d
 simp only at hR
 unfold pY at hR
 rw [sQ w4] at hR
 have hset := FW (dR L.nx d) w1 w4
 have hw := Y1 w1 hs1 w4 hb
 obtain ⟨q1, q2, _⟩ := iM w1.right w4
 split at hR
 ·rename_i hz1
  rcases hset with ⟨e1, e2⟩ | ⟨e1, _⟩
  case inr => exact absurd hz1 e1
  split at hR
  ·exact absurd (Prod.mk.inj hR).2.symm he
  ·rename_i hz2
   have e3 : R.l = (fF L1 p.1.f0 (dR L.nx d)).1.l := by
    have : R = (stepS (fF L1 p.1.f0 (dR L.nx d)).1 p.1.f0).1 := by rw [hR]
    rw [this]
    have hr2 : bF (fF L1 p.1.f0 (dR L.nx d)).1.l = true := by rw [e1]; exact e2
    rcases tV hr2 hz2 with k1 | ⟨k1, _⟩
    ·exact k1
    ·cases k1
   refine .inr ⟨?_, by omega, hm2, ?_⟩
   ·rw [e3, e1]
    exact hw e2
   ·have e4 : e = (stepS (fF L1 p.1.f0 (dR L.nx d)).1 p.1.f0).2 := by rw [hR]
    rw [e4]
    have hr2 : bF (fF L1 p.1.f0 (dR L.nx d)).1.l = true := by rw [e1]; exact e2
    refine wZ hr2 ?_ hz2
    have hat : kR (fF L1 p.1.f0 (dR L.nx d)).1.l p.1.f0 (bsOf (fF L1 p.1.f0 (dR L.nx d)).1.l p.1.f0) = true := by
     rw [e1] at hr2 ⊢
     exact (vG _ _ _).2 ⟨_, DK hr2 p.1.f0 (List.mem_of_getElem? (List.getElem?_set_self (List.getElem?_eq_some_iff.1 q1).1)) rfl, rfl⟩
    rw [hat]
    rfl
 ·rename_i hz1
  have hRR : R = (fF L1 p.1.f0 (dR L.nx d)).1 := by rw [hR]
  rcases hset with ⟨e1, e2⟩ | ⟨_, e1⟩
  ·by_cases hrf : rfW (dR L.nx d) L1.l (bsOf L1.l p.1.f0) (kR L1.l p.1.f0 (bsOf L1.l p.1.f0)) = 0
   ·refine .inr ⟨?_, by omega, hm2, ?_⟩
    ·rw [hRR, e1]
     exact hw e2
    ·have e4 : e = (fF L1 p.1.f0 (dR L.nx d)).2 := by rw [hR]
     rw [e4]
     exact wZ w1.right hrf hz1
   ·exact .inl ⟨L1, w1, hs1, by rw [hRR]; exact IX w1.right hrf⟩
  ·exact .inl ⟨L1, w1, hs1, by rw [hRR, e1]⟩
theorem D8 (q : Int) : ∀ (ps : List Pl) (L : Lg) (ds : List fG.Bytes) (n m : Nat), aK L.l = ps → bF L.l = true → Sy L.l → chain SU n ps ds m →
    ∃ rest d0 d1, aK (eF L ps q).1.l = rest ∧ bF (eF L ps q).1.l = true ∧ Sy (eF L ps q).1.l ∧ ds = d0 ++ d1 ∧ chain SU (n + d0.length) rest d1 m ∧ (rest = [] → ps = []) ∧ (d0 = [] ∨ ((n + d0.length : Nat) : Int) ≤ q) ∧ ((eF L ps q).2.1 = 0 ∨ (eF L ps q).2.1 = 17 ∨ (eF L ps q).2.1 = 18)
  | [], L, ds, n, m, hp, hr, hs, hc => ⟨[], [], ds, hp, hr, hs, rfl, hc, fun _ => rfl, .inl rfl, .inl rfl⟩
  | [p], L, ds, n, m, hp, hr, hs, hc => ⟨[p], [], ds, hp, hr, hs, rfl, hc, fun h => h, .inl rfl, .inl rfl⟩
  | p :: p2 :: r, L, ds, n, m, hp, hr, hs, hc => by
    by_cases hq : (p2.2 : Int) ≤ q
    · have hp' : aK L.l = [] ++ p :: (p2 :: r) := hp
      obtain ⟨g1, g2, _⟩ := iM hr hp'
      have hz0 : (if kR L.l p.1.f0 (bsOf L.l p.1.f0) = true then (0 : Int) else 7) = 0 := if_pos g2
      by_cases hz : (fE L.l L.dn L.fu L.fa p.1.f0).2.2.2.2 = 0
      · obtain ⟨h1, h2, h3, h4, h5⟩ := jY hz
        have h4 : (fE L.l L.dn L.fu L.fa p.1.f0).1 = L.l.take (bsOf L.l p.1.f0) ++ L.l.drop (bsOf L.l p.1.f0 + 1) := by
          rw [fE, h4]
          simp only [Int.toNat_natCast]
        have hstep : eF L (p :: p2 :: r) q = eF (chg L (fE L.l L.dn L.fu L.fa p.1.f0)) (p2 :: r) q := by
          rw [eF, if_pos hq, if_pos hz]
        obtain ⟨c1, e1, e2, rfl, c2, c3⟩ := hc
        have hl : (chg L (fE L.l L.dn L.fu L.fa p.1.f0)).l = L.l.take (bsOf L.l p.1.f0) ++ L.l.drop (bsOf L.l p.1.f0 + 1) := h4
        obtain ⟨rest, d0, d1, k1, k2, k3, k4, k5, k6, k7, k8⟩ := D8 q (p2 :: r) (chg L (fE L.l L.dn L.fu L.fa p.1.f0)) e2 (n + e1.length) m (by rw [hl]; exact oP hr hp') (by rw [hl]; exact sK hr _)
          (fun x hx => by
            rw [hl] at hx
            rcases List.mem_append.1 hx with h | h
            · exact hs x (List.mem_of_mem_take h)
            · exact hs x (List.mem_of_mem_drop h)) c3
        rw [hstep]
        refine ⟨rest, e1 ++ d0, d1, k1, k2, k3, by rw [k4, List.append_assoc], ?_, fun h => (by cases k6 h), .inr ?_, k8⟩
        · rw [List.length_append, ← Nat.add_assoc]
          exact k5
        · rcases k7 with rfl | k7
          · have := c3.1
            rw [List.append_nil]
            omega
          · rw [List.length_append, ← Nat.add_assoc]
            exact k7
      · have hl : (fE L.l L.dn L.fu L.fa p.1.f0).1 = L.l := by
          rcases tV hr hz with k1 | ⟨k1, _⟩
          · exact k1
          · cases k1
        have hstep : eF L (p :: p2 :: r) q = (chg L (fE L.l L.dn L.fu L.fa p.1.f0), (fE L.l L.dn L.fu L.fa p.1.f0).2.2.2.2, []) := by
          rw [eF, if_pos hq, if_neg hz]
        have hl2 : (chg L (fE L.l L.dn L.fu L.fa p.1.f0)).l = L.l := hl
        rw [hstep]
        exact ⟨p :: p2 :: r, [], ds, by rw [hl2]; exact hp, by rw [hl2]; exact hr, by rw [hl2]; exact hs, rfl, hc, fun h => h, .inl rfl, .inr (wZ hr hz0 hz)⟩
    · rw [eF, if_neg hq]
      exact ⟨p :: p2 :: r, [], ds, hp, hr, hs, rfl, hc, fun h => h, .inl rfl, .inl rfl⟩
theorem qaE {L : Lg} {ds : List fG.Bytes} {n m : Nat} {q : Int} (h : WF L ds n m) (hs : Sy L.l) (hq : q ≤ L.nx) (ks : List Int) :
  ∃ d0 d1, ds = d0 ++ d1 ∧ (d0 = [] ∨ ((n + d0.length : Nat) : Int) ≤ q) ∧ bF (kT L q).1.l = true ∧ Back (dG (kT L q).1.l ks) d1 (n + d0.length) ∧ ((kT L q).2 = 0 ∨ (kT L q).2 = 17 ∨ (kT L q).2 = 18) := by
 obtain ⟨rest, d0, d1, k1, k2, k3, k4, k5, k6, k7, k8⟩ := D8 q (aK L.l) L ds n m rfl h.right hs h.ch
 have hl : (kT L q).1.l = (eF L (aK L.l) q).1.l ∧ ((kT L q).2 = 0 ∨ (kT L q).2 = 17 ∨ (kT L q).2 = 18) := by
  rw [kT, if_pos h.okL, uQ, h.br, if_neg (by simp), if_neg (by omega)]
  split
  ·refine ⟨?_, .inl rfl⟩
   show (yD _ _).l = _
   unfold yD
   split <;> rfl
  ·exact ⟨rfl, k8⟩
 rw [hl.1]
 refine ⟨d0, d1, k4, k7, k2, ?_, hl.2⟩
 rw [vT k3]
 have hf : dL rest = n + d0.length := by
  cases rest with
  | nil =>
   have hps := k6 rfl
   have hf := h.first
   have hc := h.ch
   rw [hps] at hf hc
   obtain ⟨hc1, _⟩ := hc
   rw [hc1] at k4
   have h0 : d0 = [] := (List.append_eq_nil_iff.1 k4.symm).1
   subst h0
   exact hf
  | cons p r => exact k5.1
 have hw : WF ⟨(eF L (aK L.l) q).1.l, false, -1, -1, 1, ((n + d0.length : Nat) : Int), (m : Int), false⟩ d1 (n + d0.length) m :=
  ⟨k2, rfl, rfl, by show (1 : Int) ≤ 1; decide, by show (1 : Int) ≤ 262144; decide, by show dL (aK _) = _; rw [k1]; exact hf, by show chain SU _ (aK _) d1 m; rw [k1]; exact k5, h.top, rfl, rfl⟩
 exact hw.back k3
def QB (l : List S67) (es : List S41) : Prop := (∃ ds n, Back l ds n ∧ dA (bM ds n) = es) ∧ es.length ≤ 1024
theorem QB.opens {l : List S67} {es : List S41} {size mst : Int} (h : QB l es) (h0 : 1 ≤ size) (h1 : size ≤ 262144) (m0 : 1 ≤ mst) (m1 : mst ≤ 1024) : ∃ L, kN l false (-1) (-1) size mst = (⟨L, es, mst⟩, 0) := by
 obtain ⟨⟨ds, n, hb, he⟩, hl⟩ := h
 obtain ⟨L, g, _⟩ := LH (most := mst) hb h0 h1 m0 m1 (by rw [he]; exact hl)
 rw [he] at g
 exact ⟨L, g⟩
def kP (l : List S41) (k : Int) (sd : ByteArray) (sq e : Int) : List S41 := (if k = 4 then l.filter (fun x => decide (x.f0 ≠ sq)) else l) ++ (if k = 1 then [⟨e, sd, false⟩] else [])
theorem y9 {l : List S41} {k sq e : Int} {sd : ByteArray} (h4 : ¬ k = 4) (h1 : ¬ k = 1) : kP l k sd sq e = l := by rw [kP, if_neg h4, if_neg h1, List.append_nil]
theorem FZ {l : List S41} {sq e : Int} {sd : ByteArray} : kP l 1 sd sq e = l ++ [⟨e, sd, false⟩] := by rw [kP, if_neg (by decide), if_pos rfl]
theorem zB {l : List S41} {sq e : Int} {sd : ByteArray} : kP l 4 sd sq e = l.filter (fun x => decide (x.f0 ≠ sq)) := by rw [kP, if_pos rfl, if_neg (by decide), List.append_nil]
theorem QW.set {Q : Qu} {ds : List fG.Bytes} {n m i : Nat} {x : S41} (b : Bool) (h : QW Q ds n m) (hx : Q.es[i]? = some x) : QW ⟨Q.L, Q.es.set i ⟨x.f0, x.f1, b⟩, Q.most⟩ ds n m :=
 ⟨h.wf, h.sy, h.fu, h.fa, h.lo, h.hi, by show (Q.es.set _ _).length ≤ 1024; rw [List.length_set]; exact h.len, by show strip (Q.es.set _ _) = _; rw [y8 _ _ _ _ hx]; exact h.es⟩
theorem qce {Q : Qu} {data : ByteArray} (h : okQ Q) (hb : Q.L.br = false) (hz : (wR Q data).2 = 0) : (Q.es.length : Int) < Q.most ∧ data.size < 65536 ∧ (dM Q.L (P80 ++ data)).2 = 0 := by
 rw [wR, jZ h hb, FN] at hz
 split at hz
 ·rename_i h1
  split at hz
  ·rename_i h2
   split at hz
   ·rename_i h3
    exact ⟨h1, h2, h3⟩
   ·rename_i h3
    exact absurd hz h3
  ·cases hz
 ·cases hz
theorem qcf {Q : Qu} {q : Int} (h : okQ Q) (hb : Q.L.br = false) (hz : (DX Q q).2 = 0) : ∃ i, sH (lK q) Q.es = some i ∧ (dM Q.L (lM q)).2 = 0 := by
 rw [DX, jZ h hb, FP] at hz
 split at hz
 ·cases hz
 ·rename_i i hi
  split at hz
  ·rename_i h3
   exact ⟨i, hi, h3⟩
  ·rename_i h3
   exact absurd hz h3
theorem QK {Q : Qu} {q : Int} (h : okQ Q) (hb : Q.L.br = false) (hz : (jX Q q).2 = 0) : ∃ i x, Q.es[i]? = some x ∧ jX Q q = (⟨Q.L, Q.es.set i ⟨x.f0, x.f1, false⟩, Q.most⟩, 0) := by
 rw [jX, jZ h hb, oO] at hz ⊢
 split at hz
 ·rename_i i hi
  obtain ⟨x, hx, _⟩ := yF hi
  refine ⟨i, x, hx, ?_⟩
  simp only [hi, VP, hx]
 ·cases hz
theorem QW.step {Q : Qu} {ds : List fG.Bytes} {n m : Nat} {k sq : Int} {sd : ByteArray} (h : QW Q ds n m) (hz : (doQ Q k sd sq).2.2 = 0) :
  ∃ ds' n' m', QW (doQ Q k sd sq).1 ds' n' m' ∧ strip (doQ Q k sd sq).1.es = kP (strip Q.es) k sd sq (doQ Q k sd sq).2.1.f0 ∧ (doQ Q k sd sq).1.most = Q.most ∧ (doQ Q k sd sq).1.L.size = Q.L.size := by
 unfold doQ at hz ⊢
 split at hz
 ·rename_i hk
  subst hk
  rw [if_pos rfl]
  obtain ⟨z1, z2, z3⟩ := qce h.ok h.wf.br hz
  obtain ⟨Q', e1, e2, e3, e4, e5, _, e7⟩ := h.put z1 z2 z3
  rw [e1, e2]
  refine ⟨_, _, _, e3, ?_, e5, e7⟩
  rw [FZ]
  show strip Q'.es = _
  rw [e4]
  exact List.map_append ..
 rename_i hk1
 rw [if_neg hk1]
 split at hz
 ·rename_i hk
  subst hk
  rw [if_pos rfl]
  obtain ⟨_, _, i, x, hi, hx, _, e1, _⟩ := TT hz
  rw [e1]
  refine ⟨_, _, _, h.set true hx, ?_, rfl, rfl⟩
  rw [y9 (by decide) (by decide)]
  exact y8 _ _ _ _ hx
 rename_i hk2
 rw [if_neg hk2]
 split at hz
 ·rename_i hk
  subst hk
  rw [if_pos rfl]
  obtain ⟨i, x, hx, e1⟩ := QK h.ok h.wf.br hz
  rw [e1]
  refine ⟨_, _, _, h.set false hx, ?_, rfl, rfl⟩
  rw [y9 (by decide) (by decide)]
  exact y8 _ _ _ _ hx
 rename_i hk3
 rw [if_neg hk3]
 split at hz
 ·rename_i hk
  subst hk
  rw [if_pos rfl]
  obtain ⟨i, hi, ha⟩ := qcf h.ok h.wf.br hz
  obtain ⟨Q', ds', n', e1, e2, e3, e4, e5⟩ := h.ack hi ha
  obtain ⟨x, hx, hxq, _⟩ := yO hi
  rw [e1]
  refine ⟨_, _, _, e2, ?_, e4, e5⟩
  rw [zB, qB h.oks hx hxq]
  show strip Q'.es = _
  rw [e3]
 ·rw [jZ h.ok h.wf.br] at hz
  cases hz
theorem QW.last {Q : Qu} {ds : List fG.Bytes} {n m : Nat} (h : QW Q ds n m) (fu fa : Int) (ks : List Int) (k : Int) (sd : ByteArray) (sq : Int) :
  ∃ D, D = doQ ⟨⟨Q.L.l, Q.L.dn, fu, fa, Q.L.size, Q.L.fr, Q.L.nx, Q.L.br⟩, Q.es, Q.most⟩ k sd sq ∧ bF D.1.L.l = true ∧ (D.2.2 = 0 → QB (dG D.1.L.l ks) (kP (strip Q.es) k sd sq D.2.1.f0)) ∧
   (D.2.2 ≠ 0 → QB (dG D.1.L.l ks) (strip Q.es) ∨ (QB (dG D.1.L.l ks) (kP (strip Q.es) k sd sq Q.L.nx) ∧ (D.2.2 = 17 ∨ D.2.2 = 18))) := by
 obtain ⟨P, hP⟩ : ∃ P : Qu, P = ⟨⟨Q.L.l, Q.L.dn, fu, fa, Q.L.size, Q.L.fr, Q.L.nx, Q.L.br⟩, Q.es, Q.most⟩ := ⟨_, rfl⟩
 rw [← hP]
 have hw : WF P.L ds n m := by rw [hP]; exact h.wf.refuse fu fa
 have hes : P.es = Q.es := by rw [hP]
 have hmo : P.most = Q.most := by rw [hP]
 have hsy : Sy P.L.l := by rw [hP]; exact h.sy
 have hok : okQ P := ⟨hw.okL, by rw [hmo]; exact h.lo, by rw [hmo]; exact h.hi, by rw [hes]; exact h.len, by rw [hes, hP]; exact h.oks⟩
 have hb : P.L.br = false := hw.br
 have hnx : P.L.nx = Q.L.nx := by rw [hP]
 have hsl : (strip Q.es).length ≤ 1024 := by rw [y7]; exact h.len
 have stay : ∀ R : Lg, R.l = P.L.l → QB (dG R.l ks) (strip Q.es) := fun R hR => ⟨⟨ds, n, by rw [hR, vT hsy]; exact hw.back hsy, h.es.symm⟩, hsl⟩
 refine ⟨_, rfl, ?_⟩
 unfold doQ
 split
 ·rename_i hk
  subst hk
  rw [wR, MI, wR, jZ hok hb, FN]
  split
  ·rename_i hr
   have hlen : (strip Q.es ++ [(⟨Q.L.nx, sd, false⟩ : S41)]).length ≤ 1024 := by
    have h1 := h.hi
    rw [hes, hmo] at hr
    simp only [List.length_append, List.length_singleton, y7]
    omega
   have hput : ∀ l, Back l (ds ++ [byt (P80 ++ sd)]) n → QB l (strip Q.es ++ [(⟨Q.L.nx, sd, false⟩ : S41)]) := fun l hbk => ⟨⟨_, n, hbk, by
    rw [D7 hw, yK, ← h.es, ← hw.nx, hnx]⟩, hlen⟩
   split
   ·obtain ⟨R, e, hA⟩ : ∃ R e, dM P.L (P80 ++ sd) = (R, e) := ⟨_, _, rfl⟩
    rw [hA]
    simp only
    split
    ·rename_i he
     subst he
     obtain ⟨g1, g2, _⟩ := uI hw hsy hA ks
     refine ⟨g1, fun _ => ?_, fun g => absurd rfl g⟩
     rw [FZ]
     show QB (dG R.l ks) (strip Q.es ++ [⟨(if (0 : Int) = 0 then P.L.nx else 0), sd, false⟩])
     rw [if_pos rfl, hnx]
     exact hput _ (g2 rfl).2.2
    ·rename_i he
     obtain ⟨g1, _, _⟩ := uI hw hsy hA ks
     refine ⟨g1, fun g => absurd g he, fun _ => ?_⟩
     rcases LK hw hsy hA he with ⟨L1, k1, k2, k3⟩ | ⟨k1, k2, k3, k4⟩
     ·exact .inl ⟨⟨ds, n, by rw [k3, vT k2]; exact k1.back k2, h.es.symm⟩, hsl⟩
     ·rcases FV k1 k2 k3 ks with k5 | k5
      ·exact .inl ⟨⟨ds, n, k5, h.es.symm⟩, hsl⟩
      ·refine .inr ⟨?_, k4⟩
       rw [FZ]
       exact hput _ k5
   ·exact ⟨hw.right, fun g => (by cases g), fun _ => .inl (stay P.L rfl)⟩
  ·exact ⟨hw.right, fun g => (by cases g), fun _ => .inl (stay P.L rfl)⟩
 split
 ·rename_i hk
  subst hk
  have hl : (kD P).1.L = P.L := by
   rw [kD, jZ hok hb, rQ]
   split <;> rfl
  refine ⟨by show bF (kD P).1.L.l = true; rw [hl]; exact hw.right, fun _ => ?_, fun _ => .inl (stay _ (by rw [hl]))⟩
  rw [y9 (by decide) (by decide)]
  exact stay _ (by rw [hl])
 split
 ·rename_i hk
  subst hk
  have hl : (jX P sq).1.L = P.L := by
   rw [jX, jZ hok hb, oO]
   split <;> rfl
  refine ⟨by show bF (jX P sq).1.L.l = true; rw [hl]; exact hw.right, fun _ => ?_, fun _ => .inl (stay _ (by rw [hl]))⟩
  rw [y9 (by decide) (by decide)]
  exact stay _ (by rw [hl])
 split
 ·rename_i hk
  subst hk
  rw [DX, jZ hok hb, FP]
  split
  ·exact ⟨hw.right, fun g => (by cases g), fun _ => .inl (stay P.L rfl)⟩
  ·rename_i i hi
   rw [hes] at hi
   obtain ⟨x, hx, hxq, _⟩ := yO hi
   have hq := uG h.fr0 h.oks x (List.mem_of_getElem? hx)
   have qji := h.nx0
   have qdP : ((strip Q.es).filter (fun x => decide (x.f0 ≠ sq))).length ≤ 1024 := Nat.le_trans (List.length_filter_le _ _) hsl
   have hack : dA (bM (ds ++ [byt (lM sq)]) n) = (strip Q.es).filter (fun x => decide (x.f0 ≠ sq)) := by
    rw [D7 hw, yL (q := sq) (NW (by rw [← hxq]; exact hq.1) (by rw [← hxq]; omega)), ← h.es]
   obtain ⟨R, e, hA⟩ : ∃ R e, dM P.L (lM sq) = (R, e) := ⟨_, _, rfl⟩
   rw [hA]
   simp only
   split
   ·rename_i he
    subst he
    obtain ⟨g1, g2, _⟩ := uI hw hsy hA ks
    obtain ⟨w1, s1, _⟩ := g2 rfl
    have hnx1 : Q.L.nx ≤ R.nx := by rw [← hnx, hw.nx, w1.nx]; omega
    have hok2 : tX R.nx Q.L.fr (Q.es.eraseIdx i) := QJ hnx1 (BI i h.oks)
    have hfx : uF (Q.es.eraseIdx i) R.nx ≤ R.nx := by
     cases hE : Q.es.eraseIdx i with
     | nil => exact Int.le_refl _
     | cons y r =>
      rw [hE] at hok2
      show y.f0 ≤ _
      have := hok2.2.2.1
      omega
    rw [hes]
    obtain ⟨d0, d1, k3, k4, k5, k6, k7⟩ := qaE w1 s1 hfx ks
    have hE : dA (bM (ds ++ [byt (lM sq)]) n) = strip (Q.es.eraseIdx i) := hack.trans (qB h.oks hx hxq)
    have hE2 : dA (bM d1 (n + d0.length)) = strip (Q.es.eraseIdx i) := by
     rw [k3, qZ] at hE
     obtain ⟨X, g1, g2⟩ := uS (bM d1 (n + d0.length)) (bM d0 n)
     rw [g1] at hE
     cases X with
     | nil => exact hE
     | cons y X =>
      exfalso
      obtain ⟨r, hr, hry⟩ := g2 y (List.mem_cons_self ..)
      obtain ⟨j, hj⟩ := List.getElem?_of_mem hr
      have h1 := DZ d0 n j r hj
      have h2 := (List.getElem?_eq_some_iff.1 hj).1
      rw [pI] at h2
      have hy : y ∈ strip (Q.es.eraseIdx i) := by rw [← hE]; exact List.mem_append_left _ (List.mem_cons_self ..)
      obtain ⟨y2, hy2, rfl⟩ := List.mem_map.1 hy
      have h3 := IG (nx' := R.nx) hok2 y2 hy2
      have h4 : r.f0 = y2.f0 := hry
      rcases k4 with k4 | k4
      ·subst k4
       cases hr
      ·omega
    have hqb : QB (dG (kT R (uF (Q.es.eraseIdx i) R.nx)).1.l ks) ((strip Q.es).filter (fun x => decide (x.f0 ≠ sq))) :=
     ⟨⟨_, _, k6, by rw [hE2, qB h.oks hx hxq]⟩, qdP⟩
    rw [zB, zB]
    refine ⟨k5, fun _ => hqb, fun g => .inr ⟨hqb, ?_⟩⟩
    rcases k7 with k7 | k7
    ·exact absurd k7 g
    ·exact k7
   ·rename_i he
    obtain ⟨g1, _, _⟩ := uI hw hsy hA ks
    refine ⟨g1, fun g => absurd g he, fun _ => ?_⟩
    rcases LK hw hsy hA he with ⟨L1, k1, k2, k3⟩ | ⟨k1, k2, k3, k4⟩
    ·exact .inl ⟨⟨ds, n, by rw [k3, vT k2]; exact k1.back k2, h.es.symm⟩, hsl⟩
    ·rcases FV k1 k2 k3 ks with k5 | k5
     ·exact .inl ⟨⟨ds, n, k5, h.es.symm⟩, hsl⟩
     ·refine .inr ⟨?_, k4⟩
      rw [zB]
      exact ⟨⟨_, n, k5, hack⟩, qdP⟩
 ·rename_i h1 h2 h3 h4
  rw [jZ hok hb]
  exact ⟨hw.right, fun g => (by cases g), fun _ => .inl (stay P.L rfl)⟩
end Go.Proofs.U
namespace Go.Proofs.U
open Go.RowKit Go.Proofs.YW.PrintWords Go.Proofs.YW.PrintLast Go.Proofs.YW.PrintMore
attribute [local go_sem] iE iF jG jH gQ gU iJ iK
def bQ.l0 : Nat → List (S41) → List (S41) → Int → Int → Option (Bool)
 | 0, _, _, _, _ => none
 | k + 1, x0, x1, x12, x13 => if x13 < x12 then (if 0 ≤ x13 then (if x13 < (x0.length : Int) then (if x13 < (x1.length : Int) then (if ((dN x0 x13).f0) = ((dN x1 x13).f0) then (if ((dN x0 x13).f1).toList = ((dN x1 x13).f1).toList then (bQ.l0 k x0 x1 x12 (wrap64 (x13 + 1))) else (some false)) else (some false)) else (none)) else (none)) else (none)) else (some true)
def bQ.f (k : Nat) (l0 : List (S41)) (l1 : List (S41)) : Option (Bool) := if (l0.length : Int) = (l1.length : Int) then (bQ.l0 k l0 l1 (l0.length : Int) 0) else (some false)
set_option maxHeartbeats 8000000 in
theorem bQ.calls (k : Nat) (A0 : Option Addr) (c0 : Nat) (l0 : List (S41)) (A1 : Option Addr) (c1 : Nat) (l1 : List (S41)) (r : Bool) (w : World) (hr0 : Kd.C k41 w A0 l0.length l0) (hc0 : l0.length ≤ c0) (hr1 : Kd.C k41 w A1 l1.length l1) (hc1 : l1.length ≤ c1) (h : bQ.f k l0 l1 = some r) :
    Calls Tryz.prog 47 #[.slice A0 l0.length c0, .slice A1 l1.length c1] w fun e w' => e = .returned (.bool r) ∧ eU w w' := by
  have HR0 := aA.mk hr0
  have HC0 := aA.mk hc0
  clear hr0 hc0
  have HR1 := aA.mk hr1
  have HC1 := aA.mk hc1
  clear hr1 hc1
  have H : (if (l0.length : Int) = (l1.length : Int) then (bQ.l0 k l0 l1 (l0.length : Int) 0) else (some false)) = some r := h
  clear h
  by_cases c3 : (l0.length : Int) = (l1.length : Int)
  · rw [if_pos c3] at H
    have IV : ((l0.length : Int) == (l1.length : Int)) = true := beq_iff_eq.mpr c3
    have SX : ((l0.length : Int) != (l1.length : Int)) = false := bne_eq_false_iff_eq.mpr c3
    have qfG : (l0.length == l1.length) = true := by first | simpa using c3 | (simp at c3 ⊢; omega)
    clear c3
    have H' := aA.mk H
    clear H
    go_enter Tryz.func47, Tryz.ntmps47
    go_wp2
    repeat (go_quiet (fail); try go_wp2)
    go_loopg [13] k (fun kq v13 w' => ∃ (dS : Int), v13 = .int .i64 dS ∧ aA (bQ.l0 kq l0 l1 (l0.length : Int) dS = some r) ∧ aA (kq ≤ k) ∧ eU w w')
    case atStart => exact ⟨(0), (by first | rfl | (simp; done) | (simp [*]; done)), H', ⟨Nat.le_refl _⟩, by repeat (first | exact eU.refl _ | apply eU.step)⟩
    case round =>
      clear H'
      try clear c1
      try clear p2
      try clear c3
      try clear IV
      try clear SX
      try clear qfG
      obtain ⟨dS, rfl, HA, HK1, ⟨m1, rfl⟩⟩ := hrel
      cases gk with
      | zero => exact absurd HA.out (by simp [bQ.l0])
      | succ k1 =>
        have H := HA.out
        clear HA
        simp only [bQ.l0] at H
        by_cases c4 : dS < (l0.length : Int)
        · rw [if_pos c4] at H
          have qal : decide (dS < (l0.length : Int)) = true := decide_eq_true c4
          clear c4
          by_cases c5 : 0 ≤ dS
          · rw [if_pos c5] at H
            have TG : decide (0 ≤ dS) = true := decide_eq_true c5
            clear c5
            by_cases c6 : dS < (l0.length : Int)
            · rw [if_pos c6] at H
              have qdh : decide (dS < (l0.length : Int)) = true := decide_eq_true c6
              clear c6
              by_cases c7 : dS < (l1.length : Int)
              · rw [if_pos c7] at H
                have qfA : decide (dS < (l1.length : Int)) = true := decide_eq_true c7
                clear c7
                by_cases c8 : ((dN l0 dS).f0) = ((dN l1 dS).f0)
                · rw [if_pos c8] at H
                  have qfB : (((dN l0 dS).f0) == ((dN l1 dS).f0)) = true := beq_iff_eq.mpr c8
                  have qit : (((dN l0 dS).f0) != ((dN l1 dS).f0)) = false := bne_eq_false_iff_eq.mpr c8
                  clear c8
                  by_cases c9 : ((dN l0 dS).f1).toList = ((dN l1 dS).f1).toList
                  · rw [if_pos c9] at H
                    have qcS : (((dN l0 dS).f1).toList == ((dN l1 dS).f1).toList) = true := beq_iff_eq.mpr c9
                    have qiu : (((dN l0 dS).f1).toList != ((dN l1 dS).f1).toList) = false := bne_eq_false_iff_eq.mpr c9
                    clear c9
                    have H' := aA.mk H
                    clear H
                    have LM : 0 ≤ (dS : Int) := of_decide_eq_true (by first | (with_reducible assumption) | assumption)
                    have LP : dS < (l0.length : Int) := of_decide_eq_true (by first | (with_reducible assumption) | assumption)
                    obtain ⟨Y3, qcg, Y4, Y5, Y6⟩ := pR HR0.out dS LM LP
                    cases qcg
                    replace LM := eq_true LM
                    replace LP := eq_true LP
                    have LQ : 0 ≤ (dS : Int) := of_decide_eq_true (by first | (with_reducible assumption) | assumption)
                    have LU : dS < (l1.length : Int) := of_decide_eq_true (by first | (with_reducible assumption) | assumption)
                    obtain ⟨Y7, qch, Y8, Y9, ZA⟩ := pR HR1.out dS LQ LU
                    cases qch
                    replace LQ := eq_true LQ
                    replace LU := eq_true LU
                    have V7 : 0 ≤ (dS : Int) := of_decide_eq_true (by first | (with_reducible assumption) | assumption)
                    have V8 : dS < (l0.length : Int) := of_decide_eq_true (by first | (with_reducible assumption) | assumption)
                    obtain ⟨qci, qeJ, qdr, qds, qdt⟩ := pR HR0.out dS V7 V8
                    obtain rfl : Y3 = qci := (by injection qeJ)
                    replace V7 := eq_true V7
                    replace V8 := eq_true V8
                    have V9 : 0 ≤ (dS : Int) := of_decide_eq_true (by first | (with_reducible assumption) | assumption)
                    have WA : dS < (l1.length : Int) := of_decide_eq_true (by first | (with_reducible assumption) | assumption)
                    obtain ⟨qcj, qeK, qdu, qdv, qdw⟩ := pR HR1.out dS V9 WA
                    obtain rfl : Y7 = qcj := (by injection qeK)
                    replace V9 := eq_true V9
                    replace WA := eq_true WA
                    go_wp2
                    repeat (go_quiet (fail); try go_wp2)
                    go_roundg k1
                    case measure => have := HK1.out; omega
                    case rel => exact ⟨(wrap64 (dS + 1)), (by first | rfl | (simp; done) | (simp [*]; done)), H', ⟨by have := HK1.out; omega⟩, by repeat (first | exact eU.refl _ | apply eU.step)⟩
                  · rw [if_neg c9] at H
                    have qcS : (((dN l0 dS).f1).toList == ((dN l1 dS).f1).toList) = false := beq_eq_false_iff_ne.mpr c9
                    have qiu : (((dN l0 dS).f1).toList != ((dN l1 dS).f1).toList) = true := bne_iff_ne.mpr c9
                    obtain rfl := Option.some.inj H
                    have LM : 0 ≤ (dS : Int) := of_decide_eq_true (by first | (with_reducible assumption) | assumption)
                    have LP : dS < (l0.length : Int) := of_decide_eq_true (by first | (with_reducible assumption) | assumption)
                    obtain ⟨Y3, qcg, Y4, Y5, Y6⟩ := pR HR0.out dS LM LP
                    cases qcg
                    replace LM := eq_true LM
                    replace LP := eq_true LP
                    have LQ : 0 ≤ (dS : Int) := of_decide_eq_true (by first | (with_reducible assumption) | assumption)
                    have LU : dS < (l1.length : Int) := of_decide_eq_true (by first | (with_reducible assumption) | assumption)
                    obtain ⟨Y7, qch, Y8, Y9, ZA⟩ := pR HR1.out dS LQ LU
                    cases qch
                    replace LQ := eq_true LQ
                    replace LU := eq_true LU
                    have V7 : 0 ≤ (dS : Int) := of_decide_eq_true (by first | (with_reducible assumption) | assumption)
                    have V8 : dS < (l0.length : Int) := of_decide_eq_true (by first | (with_reducible assumption) | assumption)
                    obtain ⟨qci, qeJ, qdr, qds, qdt⟩ := pR HR0.out dS V7 V8
                    obtain rfl : Y3 = qci := (by injection qeJ)
                    replace V7 := eq_true V7
                    replace V8 := eq_true V8
                    have V9 : 0 ≤ (dS : Int) := of_decide_eq_true (by first | (with_reducible assumption) | assumption)
                    have WA : dS < (l1.length : Int) := of_decide_eq_true (by first | (with_reducible assumption) | assumption)
                    obtain ⟨qcj, qeK, qdu, qdv, qdw⟩ := pR HR1.out dS V9 WA
                    obtain rfl : Y7 = qcj := (by injection qeK)
                    replace V9 := eq_true V9
                    replace WA := eq_true WA
                    go_wp2
                    repeat (go_quiet (fail); try go_wp2)
                    go_ret
                    exact ⟨by first | rfl | (simp; done) | (simp [*]; done), by repeat (first | exact eU.refl _ | apply eU.step)⟩
                · rw [if_neg c8] at H
                  have qfB : (((dN l0 dS).f0) == ((dN l1 dS).f0)) = false := beq_eq_false_iff_ne.mpr c8
                  have qit : (((dN l0 dS).f0) != ((dN l1 dS).f0)) = true := bne_iff_ne.mpr c8
                  obtain rfl := Option.some.inj H
                  have LM : 0 ≤ (dS : Int) := of_decide_eq_true (by first | (with_reducible assumption) | assumption)
                  have LP : dS < (l0.length : Int) := of_decide_eq_true (by first | (with_reducible assumption) | assumption)
                  obtain ⟨Y3, qcg, Y4, Y5, Y6⟩ := pR HR0.out dS LM LP
                  cases qcg
                  replace LM := eq_true LM
                  replace LP := eq_true LP
                  have LQ : 0 ≤ (dS : Int) := of_decide_eq_true (by first | (with_reducible assumption) | assumption)
                  have LU : dS < (l1.length : Int) := of_decide_eq_true (by first | (with_reducible assumption) | assumption)
                  obtain ⟨Y7, qch, Y8, Y9, ZA⟩ := pR HR1.out dS LQ LU
                  cases qch
                  replace LQ := eq_true LQ
                  replace LU := eq_true LU
                  go_wp2
                  repeat (go_quiet (fail); try go_wp2)
                  go_ret
                  exact ⟨by first | rfl | (simp; done) | (simp [*]; done), by repeat (first | exact eU.refl _ | apply eU.step)⟩
              · rw [if_neg c7] at H
                exact absurd H (by simp)
            · rw [if_neg c6] at H
              exact absurd H (by simp)
          · rw [if_neg c5] at H
            exact absurd H (by simp)
        · rw [if_neg c4] at H
          have qal : decide (dS < (l0.length : Int)) = false := decide_eq_false c4
          clear c4
          obtain rfl := Option.some.inj H
          go_wp2
          repeat (go_quiet (fail); try go_wp2)
          go_ret
          exact ⟨by first | rfl | (simp; done) | (simp [*]; done), by repeat (first | exact eU.refl _ | apply eU.step)⟩
  · rw [if_neg c3] at H
    have IV : ((l0.length : Int) == (l1.length : Int)) = false := beq_eq_false_iff_ne.mpr c3
    have SX : ((l0.length : Int) != (l1.length : Int)) = true := bne_iff_ne.mpr c3
    have qfG : (l0.length == l1.length) = false := by first | simpa using c3 | (simp at c3 ⊢; omega)
    obtain rfl := Option.some.inj H
    go_enter Tryz.func47, Tryz.ntmps47
    go_wp2
    repeat (go_quiet (fail); try go_wp2)
    go_ret
    exact ⟨by first | rfl | (simp; done) | (simp [*]; done), by repeat (first | exact eU.refl _ | apply eU.step)⟩
end Go.Proofs.U
namespace Go.Proofs.U
open Go.RowKit Go.Proofs.YW.PrintWords Go.Proofs.YW.PrintLast Go.Proofs.YW.PrintMore Go.Proofs.Sp Go.Proofs.fG
structure S84 where
 f0 : Int
 f1 : ByteArray
 f2 : Int
def z84 : S84 := ⟨0, ⟨#[]⟩, 0⟩
def k84 : Kd S84 := Kd.iso (Kd.pair (Kd.int .u8) (Kd.pair Kd.string (Kd.int .u64))) (fun x : S84 => (x.f0, x.f1, x.f2))
theorem qck {w : World} {x : S84} {cs : List Value} (h : k84.K w x cs) : cs = [.int .u8 x.f0, .string x.f1, .int .u64 x.f2] := by
 obtain ⟨_, _, rfl, rfl, ⟨_, _, rfl, rfl, rfl⟩⟩ := h
 exact rfl
theorem qeL (w : World) (x : S84) : k84.K w x [.int .u8 x.f0, .string x.f1, .int .u64 x.f2] := ⟨[.int .u8 x.f0], [.string x.f1, .int .u64 x.f2], rfl, rfl, ⟨[.string x.f1], [.int .u64 x.f2], rfl, rfl, rfl⟩⟩
def uT (xs : List S84) (i : Int) : S84 := xs.getD i.toNat z84
theorem qeM {w : World} {A : Option Addr} {n : Nat} {xs : List S84} (h : Kd.C k84 w A n xs) (i : Int) (h0 : 0 ≤ i) (h1 : i < n) : ∃ ad , A = some ad ∧ w.cell? (ad.add (i.toNat * 3)) = some (.int .u8 (uT xs i).f0) ∧ w.cell? ⟨(ad.add (i.toNat * 3)).block, (ad.add (i.toNat * 3)).off + 1, none⟩ = some (.string (uT xs i).f1) ∧ w.cell? ⟨(ad.add (i.toNat * 3)).block, (ad.add (i.toNat * 3)).off + 2, none⟩ = some (.int .u64 (uT xs i).f2) := by
 obtain ⟨ad, c, e, _, hK, hc0⟩ := Kd.C9 h z84 i h0 h1
 have hc : ∀ j u, c[j]? = some u → w.cell? (ad.add (i.toNat * 3 + j)) = some u := hc0
 obtain rfl := qck hK
 exact ⟨ad, e, hc 0 _ rfl, by rw [← jR _ _ 1 (by omega)]; exact hc 1 _ rfl, by rw [← jR _ _ 2 (by omega)]; exact hc 2 _ rfl⟩
def xC (k sq : Int) (l : List S41) : List S41 := if k = 4 then l.filter (fun x => decide (x.f0 ≠ sq)) else l
theorem NZ (l : List S41) (k : Int) (sd : ByteArray) (sq e : Int) : kP l k sd sq e = xC k sq l ++ (if k = 1 then [⟨e, sd, false⟩] else []) := rfl
theorem TU {k sq : Int} {l : List S41} {i : Nat} {x : S41} (hx : l[i]? = some x) (h : ¬ (k = 4 ∧ x.f0 = sq)) : xC k sq (l.take (i + 1)) = xC k sq (l.take i) ++ [x] := by
 rw [List.take_add_one, hx]
 unfold xC
 split
 ·rename_i hk
  rw [List.filter_append]
  have hq : ¬ x.f0 = sq := fun e => h ⟨hk, e⟩
  simp [hq]
 ·rfl
theorem qcl {k sq : Int} {l : List S41} {i : Nat} {x : S41} (hx : l[i]? = some x) (hk : k = 4) (hq : x.f0 = sq) : xC k sq (l.take (i + 1)) = xC k sq (l.take i) := by
 rw [List.take_add_one, hx]
 unfold xC
 rw [if_pos hk, if_pos hk, List.filter_append]
 simp [hq]
theorem qcm (k sq : Int) (l : List S41) : (xC k sq l).length ≤ l.length := by
 unfold xC
 split
 ·exact List.length_filter_le _ _
 ·exact Nat.le_refl _
theorem N7 (a b : List S41) (hl : a.length = b.length) (h1 : a.length ≤ 1000000) : ∀ (f i : Nat), i ≤ a.length → a.length - i < f → ∃ r, bQ.l0 f a b (a.length : Int) (i : Int) = some r
 | 0, i, hi, hf => by omega
 | f + 1, i, hi, hf => by
  rw [bQ.l0]
  by_cases h : i < a.length
  ·rw [if_pos (by omega), if_pos (by omega), if_pos (by omega), if_pos (by omega)]
   have e : wrap64 ((i : Int) + 1) = ((i + 1 : Nat) : Int) := by
    unfold wrap64
    omega
   rw [e]
   split
   ·split
    ·exact N7 a b hl h1 f (i + 1) (by omega) (by omega)
    ·exact ⟨_, rfl⟩
   ·exact ⟨_, rfl⟩
  ·rw [if_neg (by omega)]
   exact ⟨_, rfl⟩
theorem qaF (a b : List S41) (h1 : a.length ≤ 1000000) : ∃ r, bQ.f (a.length + 1) a b = some r := by
 unfold bQ.f
 split
 ·rename_i h
  exact N7 a b (by omega) h1 _ 0 (by omega) (by omega)
 ·exact ⟨_, rfl⟩
theorem D9 (a : List S41) (h1 : a.length ≤ 1000000) : ∀ (f i : Nat), i ≤ a.length → a.length - i < f → bQ.l0 f a a (a.length : Int) (i : Int) = some true
 | 0, i, hi, hf => by omega
 | f + 1, i, hi, hf => by
  rw [bQ.l0]
  by_cases h : i < a.length
  ·rw [if_pos (by omega), if_pos (by omega), if_pos (by omega), if_pos (by omega), if_pos rfl, if_pos rfl]
   have e : wrap64 ((i : Int) + 1) = ((i + 1 : Nat) : Int) := by
    unfold wrap64
    omega
   rw [e]
   exact D9 a h1 f (i + 1) (by omega) (by omega)
  ·rw [if_neg (by omega)]
theorem N8 (a : List S41) (h1 : a.length ≤ 1000000) : bQ.f (a.length + 1) a a = some true := by
 unfold bQ.f
 rw [if_pos rfl]
 exact D9 a h1 _ 0 (by omega) (by omega)
set_option maxHeartbeats 4000000 in
theorem F5 {b w : World} {rs : List Res} (A : Option Addr) (c : Nat) (l : List S41) (k : Int) (sd : ByteArray) (sq e0 : Int) (e1 : ByteArray) (e2 : Bool) (hl : l.length ≤ 1024) (H0 : aA (Sep b w (qH A c l :: rs))) :
  Calls Tryz.prog 46 #[.slice A l.length c, .agg #[.int .u8 k, .string sd, .int .u64 sq], .agg #[.int .u64 e0, .string e1, .bool e2]] w fun e w' => ∃ A' c', e = .returned (.slice A' (kP l k sd sq e0).length c') ∧ aA (Sep b w' (qH A' c' (kP l k sd sq e0) :: qH A c l :: rs)) := by
 have H : aA (Sep b w (row k41 41 (.slice A (l).length c) l :: rs)) := H0
 have HL := aA.mk hl
 obtain ⟨Z, hZ⟩ : ∃ Z, Z = kP l k sd sq e0 := ⟨_, rfl⟩
 rw [← hZ]
 have HZ := aA.mk hZ
 clear H0 hl hZ
 go_enter Tryz.func46, Tryz.ntmps46
 go_wp2_with (first
 |((with_reducible refine aP (N := 4) rfl ?_);
   refine bG rfl H (cs := [.int .u8 k, .string sd, .int .u64 sq]) (t := 84) ?hr ?_;
   (case hr => first | (go_simp; done) | (go_simp; rfl));
   intro gt wd1 n_;
   simp only [Act.put, zA, zZ, zS];
   clear H;
   have H := n_;
   clear n_;
   have c_t := H.out.cell (g := gt) aJ)
 |((with_reducible refine aP (N := 5) rfl ?_);
   refine bG rfl H (cs := [.int .u64 e0, .string e1, .bool e2]) (t := 41) ?hr ?_;
   (case hr => first | (go_simp; done) | (go_simp; rfl));
   intro ge wd2 n_;
   simp only [Act.put, zA, zZ, zS];
   clear H c_t;
   have H := n_;
   clear n_;
   have c_e := H.out.cell (g := ge) aJ;
   have c_t := H.out.cell (g := gt) mem1)
 |fail)
 go_loopw [7, 9, 12] (fun v7 v9 v12 wr => ∃ (i : Nat) (o : List S41) (Ao : Option Addr) (co : Nat), v12 = .int .i64 (i : Int) ∧ v7 = .slice Ao o.length co ∧ i ≤ l.length ∧ aA (o = xC k sq (l.take i)) ∧ aA (Sep b wr (row k41 41 (.slice Ao (o).length co) o :: box ge [.int .u64 e0, .string e1, .bool e2] 41 :: box gt [.int .u8 k, .string sd, .int .u64 sq] 84 :: row k41 41 (.slice A (l).length c) l :: rs))) (fun _ _ v12 _ => l.length - (intOf v12).toNat)
 case atStart => exact ⟨0, [], none, 0, rfl, rfl, Nat.zero_le _, ⟨by rw [List.take_zero]; unfold xC; split <;> rfl⟩, ⟨Sep.eG (d := k41) (e := 41) H.out⟩⟩
 case round =>
  clear H c_e c_t
  obtain ⟨i, o, Ao, co, rfl, rfl, hi, HO, H⟩ := hrel
  have c_e := H.out.cell (g := ge) mem1
  have c_t := H.out.cell (g := gt) mem2
  have hol : o.length ≤ 1024 := by
   rw [HO.out]
   have h1 := qcm k sq (l.take i)
   have h2 := HL.out
   simp only [List.length_take] at h1
   omega
  have HOL := aA.mk hol
  clear hol
  by_cases hil : i < l.length
  ·
   obtain ⟨x, hx⟩ : ∃ x, l[i]? = some x := ⟨_, List.getElem?_eq_getElem hil⟩
   have HX := aA.mk hx
   obtain ⟨gp, hgp⟩ := pK (B := A) (d := c) (es := l) H.out mem3 (by omega)
   subst hgp
   obtain ⟨q0, q1, q2, -⟩ := qA (gp := gp) (d := c) (es := l) (i := i) H.out mem3 hx
   have qhY : (i : Int) < (l.length : Int) := by omega
   have hi0 : (0 : Int) ≤ (i : Int) := by omega
   have hw3 : wrap64 ((i : Int) + 1) = ((i + 1 : Nat) : Int) := by
    have := HL.out
    unfold wrap64
    omega
   clear hx
   by_cases hk : k = 4
   ·
    have hk1 : (k != 4) = false := by simp [hk]
    by_cases hq : x.f0 = sq
    ·
     have hq1 : (x.f0 != sq) = false := by simp [hq]
     have HKN : aA (k = 4 ∧ x.f0 = sq) := ⟨hk, hq⟩
     clear hk hq
     go_wp2_with (first
 |((with_reducible refine aP (N := 9) rfl ?_);
   refine bG rfl H (cs := [.int .u64 0, .string ⟨#[]⟩, .bool false]) (t := 41) ?hr ?_;
   (case hr => first | (go_simp; done) | (go_simp; rfl));
   intro gx wd3 n_;
   simp only [Act.put, zA, zZ, zS];
   clear H c_e c_t;
   have H := n_;
   clear n_;
   have c_x := H.out.cell (g := gx) aJ;
   have z_x := H.out.frozen (g := gx) aJ;
   have c_e := H.out.cell (g := ge) mem2;
   have c_t := H.out.cell (g := gt) mem3)
 |((with_reducible refine aN (t := 41) (p := 9) rfl ?_);
   refine aZ (rs1 := (box gx [.int .u64 x.f0, .string x.f1, .bool x.f2] 41 :: row k41 41 (.slice Ao (o).length co) o :: box ge [.int .u64 e0, .string e1, .bool e2] 41 :: box gt [.int .u8 k, .string sd, .int .u64 sq] 84 :: row k41 41 (.slice (some ⟨gp, 0, none⟩) (l).length c) l :: rs)) rfl (t := 41) (p := 9) rfl rfl ?hr (H1 := (Sep.set0 (Sep.set0 (Sep.set0 H.out 0 (.int .u64 x.f0) rfl) 1 (.string x.f1) rfl) 2 (.bool x.f2) rfl)) ?_;
   (case hr => first | (go_simp; done) | (go_simp; rfl));
   intro wd4 n_;
   clear H c_x z_x c_e c_t;
   have H := n_;
   clear n_;
   have c_x := H.out.cell (g := gx) aJ;
   have z_x := H.out.frozen (g := gx) aJ;
   have c_e := H.out.cell (g := ge) mem2;
   have c_t := H.out.cell (g := gt) mem3;
   clear q0 q1 q2)
 |fail)
     try rw [hw3]
     exact ⟨⟨i + 1, o, Ao, co, rfl, rfl, by omega, ⟨by rw [qcl HX.out HKN.out.1 HKN.out.2, ← HO.out]⟩, ⟨(Sep.dV H.out)⟩⟩, by simp [intOf] <;> omega⟩
    ·
     have hq1 : (x.f0 != sq) = true := by simp [hq]
     have HK : aA (¬ (k = 4 ∧ x.f0 = sq)) := ⟨fun h => hq h.2⟩
     clear hk hq
     go_wp2_with (first
 |((with_reducible refine aP (N := 9) rfl ?_);
   refine bG rfl H (cs := [.int .u64 0, .string ⟨#[]⟩, .bool false]) (t := 41) ?hr ?_;
   (case hr => first | (go_simp; done) | (go_simp; rfl));
   intro gx wd5 n_;
   simp only [Act.put, zA, zZ, zS];
   clear H c_e c_t;
   have H := n_;
   clear n_;
   have c_x := H.out.cell (g := gx) aJ;
   have z_x := H.out.frozen (g := gx) aJ;
   have c_e := H.out.cell (g := ge) mem2;
   have c_t := H.out.cell (g := gt) mem3)
 |((with_reducible refine aN (t := 41) (p := 9) rfl ?_);
   refine aZ (rs1 := (box gx [.int .u64 x.f0, .string x.f1, .bool x.f2] 41 :: row k41 41 (.slice Ao (o).length co) o :: box ge [.int .u64 e0, .string e1, .bool e2] 41 :: box gt [.int .u8 k, .string sd, .int .u64 sq] 84 :: row k41 41 (.slice (some ⟨gp, 0, none⟩) (l).length c) l :: rs)) rfl (t := 41) (p := 9) rfl rfl ?hr (H1 := (Sep.set0 (Sep.set0 (Sep.set0 H.out 0 (.int .u64 x.f0) rfl) 1 (.string x.f1) rfl) 2 (.bool x.f2) rfl)) ?_;
   (case hr => first | (go_simp; done) | (go_simp; rfl));
   intro wd6 n_;
   clear H c_x z_x c_e c_t;
   have H := n_;
   clear n_;
   have c_x := H.out.cell (g := gx) aJ;
   have z_x := H.out.frozen (g := gx) aJ;
   have c_e := H.out.cell (g := ge) mem2;
   have c_t := H.out.cell (g := gt) mem3;
   clear q0 q1 q2)
 |((with_reducible refine gY (b := .append) (xs := #[.tmp 26, .tmp 28]) rfl ?_); at_builtin;
   refine Q7 k41 rF rfl (.tmp 26) (.tmp 28) 31 41 (.agg #[.int .u64 0, .string ⟨#[]⟩, .bool false]) 32 rfl Tryz.underlying31 zV rfl (by decide) (by omega) (.slice Ao (o).length co) _ x [.int .u64 x.f0, .string x.f1, .bool x.f2] ?hs ?hx ?hp H ?hl ?_;
   (case hs => first | rfl | (go_simp; done) | (simp; rfl));
   (case hx => first | (go_simp; done) | (go_simp; rfl));
   (case hp => exact vZ _ _ _ _);
   (case hl => (have := HOL.out; omega));
   intro Ao2 co2 wd7 n_;
   clear H c_x z_x c_e c_t;
   have H := n_;
   clear n_;
   have c_x := H.out.cell (g := gx) aJ;
   have z_x := H.out.frozen (g := gx) aJ;
   have c_e := H.out.cell (g := ge) mem2;
   have c_t := H.out.cell (g := gt) mem3)
 |fail)
     try rw [hw3]
     have hll : o.length + 1 = (o ++ [x]).length := by rw [List.length_append]; rfl
     rw [hll]
     exact ⟨⟨i + 1, o ++ [x], Ao2, co2, rfl, rfl, by omega, ⟨by rw [TU HX.out HK.out, ← HO.out]⟩, ⟨(Sep.dV H.out)⟩⟩, by simp [intOf] <;> omega⟩
   ·
    have hk1 : (k != 4) = true := by simp [hk]
    have HK : aA (¬ (k = 4 ∧ x.f0 = sq)) := ⟨fun h => hk h.1⟩
    clear hk
    go_wp2_with (first
 |((with_reducible refine aP (N := 9) rfl ?_);
   refine bG rfl H (cs := [.int .u64 0, .string ⟨#[]⟩, .bool false]) (t := 41) ?hr ?_;
   (case hr => first | (go_simp; done) | (go_simp; rfl));
   intro gx wd8 n_;
   simp only [Act.put, zA, zZ, zS];
   clear H c_e c_t;
   have H := n_;
   clear n_;
   have c_x := H.out.cell (g := gx) aJ;
   have z_x := H.out.frozen (g := gx) aJ;
   have c_e := H.out.cell (g := ge) mem2;
   have c_t := H.out.cell (g := gt) mem3)
 |((with_reducible refine aN (t := 41) (p := 9) rfl ?_);
   refine aZ (rs1 := (box gx [.int .u64 x.f0, .string x.f1, .bool x.f2] 41 :: row k41 41 (.slice Ao (o).length co) o :: box ge [.int .u64 e0, .string e1, .bool e2] 41 :: box gt [.int .u8 k, .string sd, .int .u64 sq] 84 :: row k41 41 (.slice (some ⟨gp, 0, none⟩) (l).length c) l :: rs)) rfl (t := 41) (p := 9) rfl rfl ?hr (H1 := (Sep.set0 (Sep.set0 (Sep.set0 H.out 0 (.int .u64 x.f0) rfl) 1 (.string x.f1) rfl) 2 (.bool x.f2) rfl)) ?_;
   (case hr => first | (go_simp; done) | (go_simp; rfl));
   intro wd9 n_;
   clear H c_x z_x c_e c_t;
   have H := n_;
   clear n_;
   have c_x := H.out.cell (g := gx) aJ;
   have z_x := H.out.frozen (g := gx) aJ;
   have c_e := H.out.cell (g := ge) mem2;
   have c_t := H.out.cell (g := gt) mem3;
   clear q0 q1 q2)
 |((with_reducible refine gY (b := .append) (xs := #[.tmp 26, .tmp 28]) rfl ?_); at_builtin;
   refine Q7 k41 rF rfl (.tmp 26) (.tmp 28) 31 41 (.agg #[.int .u64 0, .string ⟨#[]⟩, .bool false]) 32 rfl Tryz.underlying31 zV rfl (by decide) (by omega) (.slice Ao (o).length co) _ x [.int .u64 x.f0, .string x.f1, .bool x.f2] ?hs ?hx ?hp H ?hl ?_;
   (case hs => first | rfl | (go_simp; done) | (simp; rfl));
   (case hx => first | (go_simp; done) | (go_simp; rfl));
   (case hp => exact vZ _ _ _ _);
   (case hl => (have := HOL.out; omega));
   intro Ao2 co2 FC n_;
   clear H c_x z_x c_e c_t;
   have H := n_;
   clear n_;
   have c_x := H.out.cell (g := gx) aJ;
   have z_x := H.out.frozen (g := gx) aJ;
   have c_e := H.out.cell (g := ge) mem2;
   have c_t := H.out.cell (g := gt) mem3)
 |fail)
    try rw [hw3]
    have hll : o.length + 1 = (o ++ [x]).length := by rw [List.length_append]; rfl
    rw [hll]
    exact ⟨⟨i + 1, o ++ [x], Ao2, co2, rfl, rfl, by omega, ⟨by rw [TU HX.out HK.out, ← HO.out]⟩, ⟨(Sep.dV H.out)⟩⟩, by simp [intOf] <;> omega⟩
  ·
   have hie : i = l.length := by omega
   subst hie
   have hnl : ¬ (l.length : Int) < (l.length : Int) := by omega
   have hok : o = xC k sq l := by rw [HO.out, List.take_length]
   have HOK := aA.mk hok
   clear hok
   by_cases hk : k = 1
   ·
    have hk1 : (k == 1) = true := by simp [hk]
    have hZV : Z = o ++ [⟨e0, sd, false⟩] := by rw [HZ.out, NZ, if_pos hk, HOK.out]
    have HZV := aA.mk hZV
    clear hZV hk
    go_wp2_with (first
 |((with_reducible refine gY (b := .append) (xs := #[.tmp 34, .tmp 40]) rfl ?_); at_builtin;
   refine JO k41 rF rfl (.tmp 34) (.tmp 40) 31 41 (.agg #[.int .u64 0, .string ⟨#[]⟩, .bool false]) 32 rfl Tryz.underlying31 zV rfl (by decide) (by omega) (.slice Ao (o).length co) _ ((⟨e0, sd, false⟩ : S41)) [.int .u64 e0, .string sd, .bool false] ?hs ?hx ?hp H ?hl ?_;
   (case hs => first | rfl | (go_simp; done) | (simp; rfl));
   (case hx => first | (go_simp; done) | (go_simp; rfl));
   (case hp => exact vZ _ _ _ _);
   (case hl => (have := HOL.out; omega));
   intro Ao2 co2 MH n_;
   clear H c_e c_t;
   have H := n_;
   clear n_;
   have c_e := H.out.cell (g := ge) mem1;
   have c_t := H.out.cell (g := gt) mem2)
 |fail)
    go_ret
    have hZV := HZV.out
    subst hZV
    exact ⟨Ao2, co2, by rw [List.length_append]; rfl, ⟨(Sep.drop1 (Sep.drop2 H.out))⟩⟩
   ·
    have hk1 : (k == 1) = false := by simp [hk]
    have hZV : Z = o := by rw [HZ.out, NZ, if_neg hk, HOK.out, List.append_nil]
    have HZV := aA.mk hZV
    clear hZV hk
    go_wp2_with fail
    go_ret
    have hZV := HZV.out
    subst hZV
    exact ⟨Ao, co, rfl, ⟨(Sep.drop1 (Sep.drop2 H.out))⟩⟩
end Go.Proofs.U
