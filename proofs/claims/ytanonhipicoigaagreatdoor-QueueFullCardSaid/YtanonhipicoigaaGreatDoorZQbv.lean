import Derived.BigRegion
import Derived.LoopN
import Derived.Deep.DeepCutAuto
import Derived.Test.YtanonhipicoigaaGreatDoorZQat
import Derived.Test.YtanonhipicoigaaGreatDoorZQbi
import Derived.Test.YtanonhipicoigaaGreatDoorZQag
set_option linter.unusedVariables false
set_option linter.unusedSimpArgs false
namespace Go.Proofs.YtanonhipicoigaaGreatDoor.U
open Go.RowKit Go.Proofs.YW.PrintWords Go.Proofs.YW.PrintLast Go.Proofs.YW.PrintMore Go.Proofs.YtanonhipicoigaaGreatDoor.Sp Go.Proofs.YtanonhipicoigaaGreatDoor.eP
theorem X7 {l : List S67} {dn : Bool} {fu fa : Int} {s : ByteArray} {wr : Bool} {rf : Int → Bool → Int} {df : Int → List S67} {k : Nat} (h0 : l.length ≤ k) (h1 : ∀ i, (df i).length ≤ k) : (cZ l dn fu fa s wr rf df).1.length ≤ k := by
 unfold cZ
 split
 ·split
  ·exact h0
  ·split
   ·split
    ·exact h0
    ·split
     ·cases wr
      ·exact h0
      ·exact h1 _
     ·exact h1 _
   ·exact h0
 ·exact Nat.zero_le _
theorem MI {Q : Qu} {ds : List eP.Bytes} {n m : Nat} {x : S41} {r : List S41} (h : QW Q ds n m) (hf : ∀ y ∈ Q.es, y.f2 = false) (he : Q.es = x :: r) :
  gU Q = (⟨Q.L, ⟨x.f0, x.f1, true⟩ :: r, Q.most⟩, 0) ∧ iI Q = ⟨x.f0, x.f1, true⟩ ∧ QW ⟨Q.L, ⟨x.f0, x.f1, true⟩ :: r, Q.most⟩ ds n m ∧ lY (iG x.f0) (⟨x.f0, x.f1, true⟩ :: r) = some 0 ∧ 0 ≤ x.f0 ∧ x.f0 < 18446744073709551616 := by
 have hx : Q.es[0]? = some x := by rw [he]; rfl
 have hi : lY free Q.es = some 0 := by rw [he, lY, if_pos (by simp [free, hf x (by rw [he]; exact List.mem_cons_self ..)])]
 obtain ⟨h1, h2, h3⟩ := h.qfH hi hx
 have hs : Q.es.set 0 ⟨x.f0, x.f1, true⟩ = ⟨x.f0, x.f1, true⟩ :: r := by rw [he]; rfl
 rw [hs] at h1 h3
 have hq := qZ h.fr0 h.oks x (List.mem_of_getElem? hx)
 have hn := h.nx0
 exact ⟨h1, h2, h3, by rw [lY, if_pos (by simp [iG])], hq.1, by omega⟩
theorem QB {Q : Qu} {ds : List eP.Bytes} {n m : Nat} (h : QW Q ds n m) (he : Q.es = []) : gU Q = (Q, 7) ∧ iI Q = z41 := by
 have e : gU Q = (Q, 7) := by
  rw [gU, kR h.ok h.wf.br, qI, he]
  rfl
 exact ⟨e, MG (by rw [e]; exact (show ¬ (7 : Int) = 0 by decide))⟩
theorem yH (q : Int) : ∀ (ps : List Pl) (L : Lg), (gG L ps q).1.l.length ≤ L.l.length
 | [], L => Nat.le_refl _
 | [p], L => Nat.le_refl _
 | p :: p2 :: r, L => by
  have h1 : (chg L (iF L.l L.dn L.fu L.fa p.1.f0)).l.length ≤ L.l.length := X7 (Nat.le_refl _) fun i => by
   simp only [List.length_append, List.length_take, List.length_drop]
   omega
  rw [gG]
  split
  ·split
   ·exact Nat.le_trans (yH q (p2 :: r) _) h1
   ·exact h1
  ·exact Nat.le_refl _
theorem qcK (L : Lg) (q : Int) : (qY L q).1.l.length ≤ L.l.length := by
 unfold qY
 split
 ·unfold uM
  split
  ·exact Nat.le_refl _
  split
  ·exact Nat.le_refl _
  split
  ·show (xU _ _).l.length ≤ _
   have := yH q (aP L.l) L
   unfold xU
   split <;> exact this
  ·exact yH q (aP L.l) L
 ·exact Nat.zero_le _
theorem SK {Q : Qu} {ds : List eP.Bytes} {n m : Nat} {q : Int} (h : QW Q ds n m) (hi : lY (iG q) Q.es = some 0) (hm : m < eP.most) :
  (∃ Q' ds' n', rX Q q = (Q', 0) ∧ QW Q' ds' n' (m + 1) ∧ Q'.es = Q.es.eraseIdx 0 ∧ Q'.most = Q.most ∧ Q'.L.l.length ≤ Q.L.l.length + 1) ∨ (∃ Q', rX Q q = (Q', 8) ∧ rX Q' q = (Q', 6) ∧ Q'.L.br = true ∧ okR Q' ∧ 64 ≤ Q.L.l.length) := by
 rcases h.qgq hi hm with ha | ⟨Q', e1, e2, e3, e4, e5, e6⟩
 ·obtain ⟨Q', ds', n', e1, e2, e3, e4, _⟩ := h.ack hi ha
  refine .inl ⟨Q', ds', n', e1, e2, e3, e4, ?_⟩
  obtain ⟨R, hA⟩ : ∃ R, bV Q.L (kP q) = (R, 0) := ⟨_, Prod.ext rfl ha⟩
  obtain ⟨_, _, w3, _, _⟩ := KA h.wf hA
  have e5 : Q' = (rX Q q).1 := by rw [e1]
  rw [e5, rX, kR h.ok h.wf.br, G5, hi]
  simp only [hA, if_true]
  exact Nat.le_trans (qcK _ _) w3
 ·refine .inr ⟨Q', e1, X5 e3 e2, e2, ?_, e6⟩
  have h1 := h.fr0
  have h2 := h.nx0
  exact ⟨by rw [e4]; exact h1, by rw [e5]; exact h2.1, by rw [e5]; exact h2.2⟩
structure rF (mst : Int) (i : Nat) (Q : Qu) : Prop where
 ex : ∃ ds n, QW Q ds n (Q.es.length + 1)
 mo : Q.most = mst
 len : ((i : Int) < mst → (Q.es.length : Int) = (i : Int)) ∧ (¬ (i : Int) < mst → (Q.es.length : Int) = mst)
 few : Q.L.l.length ≤ i
 free : ∀ x ∈ Q.es, x.f2 = false
theorem rF.lo {mst : Int} {i : Nat} {Q : Qu} (h : rF mst i Q) : 1 ≤ mst ∧ mst ≤ 1024 := by
 obtain ⟨ds, n, hw⟩ := h.ex
 rw [← h.mo]
 exact ⟨hw.lo, hw.hi⟩
theorem rF.okr {mst : Int} {i : Nat} {Q : Qu} (h : rF mst i Q) : okR Q := by
 obtain ⟨ds, n, hw⟩ := h.ex
 exact hw.okR
theorem qei {mst : Int} (m0 : 1 ≤ mst) (m1 : mst ≤ 1024) : rF mst 0 ⟨L0s 262144, [], mst⟩ :=
 ⟨⟨[], 1, Z5 (by decide) (by decide) m0 m1⟩, rfl, ⟨fun _ => rfl, fun h => absurd (show ((0 : Nat) : Int) < mst by omega) h⟩, Nat.le_refl _, fun x hx => by cases hx⟩
theorem rF.put {mst : Int} {i : Nat} {Q : Qu} (h : rF mst i Q) (hi : i < 12) :
  ∃ Q' e s, rE Q ⟨#[120]⟩ = (Q', e) ∧ QU Q ⟨#[120]⟩ = s ∧ rF mst (i + 1) Q' ∧ (((i : Int) < mst ∧ e = 0 ∧ s = (i : Int) + 1) ∨ (¬ (i : Int) < mst ∧ e = 8)) := by
 obtain ⟨ds, n, hw⟩ := h.ex
 have hl := h.len
 have hlo := h.lo
 have hle : Q.es.length ≤ 12 := by
  by_cases hc : (i : Int) < mst
  ·have := hl.1 hc
   omega
  ·have := hl.2 hc
   omega
 rcases hw.qak (data := ⟨#[120]⟩) (by unfold eP.most; omega) with ⟨_, hr, hs, ha⟩ | ⟨hr, e⟩ | ⟨_, hs, _⟩ | ⟨_, _, _, _, hf⟩
 ·have hm : (i : Int) < mst := by
   rw [h.mo] at hr
   by_cases hc : (i : Int) < mst
   ·exact hc
   ·have := hl.2 hc
    omega
  have hlen := hl.1 hm
  obtain ⟨Q', e1, e2, e3, e4, e5, e6, e7⟩ := hw.put hr hs ha
  have hlen2 : Q'.es.length = Q.es.length + 1 := by rw [e4, List.length_append, List.length_singleton]
  refine ⟨Q', 0, _, e1, e2, ⟨⟨_, _, by rw [hlen2]; exact e3⟩, e5.trans h.mo, ?_, by have := h.few; omega, ?_⟩, .inl ⟨hm, rfl, by omega⟩⟩
  ·exact ⟨fun _ => by omega, fun _ => by omega⟩
  ·intro x hx
   rw [e4] at hx
   rcases List.mem_append.1 hx with hx | hx
   ·exact h.free x hx
   ·obtain rfl := List.mem_singleton.1 hx
    rfl
 ·rw [h.mo] at hr
  have hm : ¬ (i : Int) < mst := fun hc => by
   have := hl.1 hc
   omega
  have := hl.2 hm
  exact ⟨Q, 8, _, e, rfl, ⟨⟨ds, n, hw⟩, h.mo, ⟨fun _ => by omega, fun _ => this⟩, by have := h.few; omega, h.free⟩, .inr ⟨hm, rfl⟩⟩
 ·exact absurd hs (by decide)
 ·have := h.few
  omega
theorem rF.last {mst : Int} {i : Nat} {Q : Qu} (h : rF mst i Q) (hi : i ≤ 12) :
  (Q.es = [] ∧ gU Q = (Q, 7) ∧ iI Q = z41) ∨ (0 < Q.es.length ∧ ∃ (x : S41) (Ql Qd Qm : Qu) (s : Int), gU Q = (Ql, 0) ∧ iI Q = ⟨x.f0, x.f1, true⟩ ∧ okR Ql ∧ 0 ≤ x.f0 ∧ x.f0 < 18446744073709551616 ∧ rX Ql x.f0 = (Qd, 0) ∧ okR Qd ∧ rE Qd ⟨#[121]⟩ = (Qm, 0) ∧ QU Qd ⟨#[121]⟩ = s ∧ Qm.es.length = Q.es.length) := by
 obtain ⟨ds, n, hw⟩ := h.ex
 cases he : Q.es with
 | nil => exact .inl ⟨rfl, QB hw he⟩
 | cons x r =>
  obtain ⟨h1, h2, h3, h4, h5, h6⟩ := MI hw h.free he
  have hl := hw.len
  have hfew := h.few
  have hle : Q.es.length = r.length + 1 := by rw [he]; rfl
  rcases SK h3 h4 (by unfold eP.most; omega) with ⟨Qd, ds', n', e1, e2, e3, e4, e5⟩ | ⟨_, _, _, _, _, e6⟩
  ·have hed : Qd.es = r := e3
   have hmo : Qd.most = Q.most := e4
   have hlo := h.len
   have hl2 := h.lo
   have qgM := h.mo
   have hll : Qd.L.l.length ≤ 13 := Nat.le_trans e5 (by show Q.L.l.length + 1 ≤ 13; omega)
   have hle2 : (Q.es.length : Int) ≤ mst := by
    by_cases hc : (i : Int) < mst
    ·have := hlo.1 hc
     omega
    ·have := hlo.2 hc
     omega
   rcases e2.qak (data := ⟨#[121]⟩) (by unfold eP.most; omega) with ⟨_, hr, hs, ha⟩ | ⟨hr, _⟩ | ⟨_, hs, _⟩ | ⟨_, _, _, _, hf⟩
   ·obtain ⟨Qm, f1, f2, _, f4, _, _, _⟩ := e2.put hr hs ha
    refine .inr ⟨by simp, x, _, Qd, Qm, _, h1, h2, h3.okR, h5, h6, e1, e2.okR, f1, f2, ?_⟩
    rw [f4, List.length_append, hed]
    rfl
   ·rw [hed, hmo, qgM] at hr
    omega
   ·exact absurd hs (by decide)
   ·omega
  ·have : 64 ≤ Q.L.l.length := e6
   omega
structure rM (mst : Int) (Q : Qu) (want : List ByteArray) (m : Nat) : Prop where
 ex : ∃ ds n, QW Q ds n m
 mo : Q.most = mst
 data : Q.es.map (fun x => x.f1) = want
 free : ∀ x ∈ Q.es, x.f2 = false
theorem rM.okr {mst : Int} {Q : Qu} {want : List ByteArray} {m : Nat} (h : rM mst Q want m) : okR Q := by
 obtain ⟨ds, n, hw⟩ := h.ex
 exact hw.okR
theorem rM.len {mst : Int} {Q : Qu} {want : List ByteArray} {m : Nat} (h : rM mst Q want m) : Q.es.length = want.length := by rw [← h.data, List.length_map]
theorem qfn {size mst : Int} (h0 : 1 ≤ size) (h1 : size ≤ 262144) (m0 : 1 ≤ mst) (m1 : mst ≤ 1024) : rM mst ⟨L0s size, [], mst⟩ [] 1 :=
 ⟨⟨[], 1, Z5 h0 h1 m0 m1⟩, rfl, rfl, fun x hx => by cases hx⟩
theorem rM.put {mst : Int} {Q : Qu} {want : List ByteArray} (s : ByteArray) (h : rM mst Q want (want.length + 1)) (hl : (want.length : Int) ≤ mst) :
  ∃ Q' e sq, rE Q s = (Q', e) ∧ QU Q s = sq ∧ okR Q' ∧ ((e = 0 ∧ rM mst Q' (want ++ [s]) ((want ++ [s]).length + 1) ∧ ((want ++ [s]).length : Int) ≤ mst) ∨ (e ≠ 0 ∧ (Q'.L.br = true ∨ ¬ (s.size : Int) < 65536 ∨ ¬ (Q.es.length : Int) < mst))) := by
 obtain ⟨ds, n, hw⟩ := h.ex
 have hlen := h.len
 have hhi := hw.hi
 rw [h.mo] at hhi
 rcases hw.qak (data := s) (by unfold eP.most; omega) with ⟨_, hr, hs, ha⟩ | ⟨hr, e⟩ | ⟨_, hs, e⟩ | ⟨hr, hs, hb, he, hf⟩
 ·obtain ⟨Q', e1, e2, e3, e4, e5, e6, e7⟩ := hw.put hr hs ha
  rw [h.mo] at hr
  refine ⟨Q', 0, _, e1, e2, e3.okR, .inl ⟨rfl, ⟨⟨_, _, by rw [List.length_append, List.length_singleton]; exact e3⟩, e5.trans h.mo, by rw [e4, List.map_append, h.data]; rfl, ?_⟩, ?_⟩⟩
  ·intro x hx
   rw [e4] at hx
   rcases List.mem_append.1 hx with hx | hx
   ·exact h.free x hx
   ·obtain rfl := List.mem_singleton.1 hx
    rfl
  ·rw [List.length_append, List.length_singleton]
   omega
 ·rw [h.mo] at hr
  exact ⟨Q, 8, _, e, rfl, hw.okR, .inr ⟨by decide, .inr (.inr (by omega))⟩⟩
 ·exact ⟨Q, 4, _, e, rfl, hw.okR, .inr ⟨by decide, .inr (.inl (by omega))⟩⟩
 ·refine ⟨(rE Q s).1, 8, _, Prod.ext rfl he, rfl, ?_, .inr ⟨by decide, .inl hb⟩⟩
  have hz : (P80 ++ s).size ≤ 65536 := by rw [yD]; omega
  have hp : (rE Q s).1 = ⟨(bV Q.L (P80 ++ s)).1, Q.es, Q.most⟩ := by
   have h1 : (rE Q s).2 ≠ 0 := by rw [he]; decide
   rw [rE, kR hw.ok hw.wf.br, J9, if_pos hr, if_pos hs] at h1 ⊢
   split at h1
   ·exact absurd rfl h1
   ·rename_i h2
    rw [if_neg h2]
  rw [hp]
  rcases wM (d := P80 ++ s) hw.wf.okL hw.wf.br with ⟨_, k, _, _⟩ | ⟨_, _, hL⟩ | ⟨_, _, k⟩
  ·have h1 := hw.okR
   exact ⟨by show 0 ≤ (bV Q.L _).1.fr; rw [k.fr]; exact h1.1, by show 0 ≤ (bV Q.L _).1.nx; rw [k.nx]; have := h1.2.1; show 0 ≤ Q.L.nx + 1; omega, by
    show (bV Q.L _).1.nx < _
    rw [k.nx]
    show Q.L.nx + 1 < _
    rw [hw.wf.nx]
    omega⟩
  ·show okR ⟨(bV Q.L _).1, Q.es, Q.most⟩
   rw [hL]
   exact hw.okR
  ·have h1 := hw.okR
   exact ⟨by show 0 ≤ (bV Q.L _).1.fr; rw [k.fr]; exact h1.1, by show 0 ≤ (bV Q.L _).1.nx; rw [k.nx]; exact h1.2.1, by show (bV Q.L _).1.nx < _; rw [k.nx]; exact h1.2.2⟩
theorem rM.step {mst : Int} {Q : Qu} {s : ByteArray} {want : List ByteArray} {m : Nat} (h : rM mst Q (s :: want) m) (hm : m + want.length ≤ 4096) :
  ∃ (x : S41) (Ql Qd : Qu), gU Q = (Ql, 0) ∧ iI Q = ⟨x.f0, s, true⟩ ∧ okR Ql ∧ 0 ≤ x.f0 ∧ x.f0 < 18446744073709551616 ∧ okR Qd ∧
   ((rX Ql x.f0 = (Qd, 0) ∧ rX Qd x.f0 = (Qd, 19) ∧ rM mst Qd want (m + 1)) ∨ (rX Ql x.f0 = (Qd, 8) ∧ rX Qd x.f0 = (Qd, 6) ∧ Qd.L.br = true)) := by
 obtain ⟨ds, n, hw⟩ := h.ex
 have hd := h.data
 cases he : Q.es with
 | nil =>
  rw [he] at hd
  cases hd
 | cons x r =>
  rw [he] at hd
  obtain ⟨hd1, hd2⟩ := List.cons.inj hd
  obtain ⟨h1, h2, h3, h4, h5, h6⟩ := MI hw h.free he
  have hx : x.f1 = s := hd1
  rw [hx] at h2
  rcases SK h3 h4 (by unfold eP.most; omega) with ⟨Qd, ds', n', e1, e2, e3, e4, e5⟩ | ⟨Qd, e1, e2, e3, e4, _⟩
  ·have hed : Qd.es = r := e3
   have hfr : ∀ y ∈ Qd.es, y.f2 = false := fun y hy => h.free y (by rw [he]; exact List.mem_cons_of_mem _ (by rw [← hed]; exact hy))
   exact ⟨x, _, Qd, h1, h2, h3.okR, h5, h6, e2.okR, .inl ⟨e1, qcJ e2.ok e2.wf.br hfr, ⟨⟨_, _, e2⟩, e4.trans h.mo, by rw [hed]; exact hd2, hfr⟩⟩⟩
  ·exact ⟨x, _, Qd, h1, h2, h3.okR, h5, h6, e4, .inr ⟨e1, e2, e3⟩⟩
theorem rM.none {mst : Int} {Q : Qu} {m : Nat} (h : rM mst Q [] m) : gU Q = (Q, 7) ∧ iI Q = z41 ∧ Q.es = [] := by
 obtain ⟨ds, n, hw⟩ := h.ex
 have he : Q.es = [] := List.map_eq_nil_iff.1 h.data
 exact ⟨(QB hw he).1, (QB hw he).2, he⟩
end Go.Proofs.YtanonhipicoigaaGreatDoor.U
