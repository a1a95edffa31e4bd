import Derived.BigRegion
import Derived.LoopN
import Derived.Deep.DeepCutAuto
import Derived.Test.YtanonhipicoigaaGreatDoorZQat
import Derived.Test.YtanonhipicoigaaGreatDoorZQas
import Derived.Test.YtanonhipicoigaaGreatDoorZQau
import Derived.Test.YtanonhipicoigaaGreatDoorZQaq
import Derived.Test.YtanonhipicoigaaGreatDoorZQag
set_option linter.unusedVariables false
set_option linter.unusedSimpArgs false
namespace Go.Proofs.YtanonhipicoigaaGreatDoor.U
open Go.RowKit Go.Proofs.YW.PrintWords Go.Proofs.YW.PrintLast Go.Proofs.YW.PrintMore Go.Proofs.YtanonhipicoigaaGreatDoor.Sp Go.Proofs.YtanonhipicoigaaGreatDoor.eP
theorem qag {L : Lg} {ds : List eP.Bytes} {n m k : Nat} (h : WF L ds n m) (hf : isFull L k) (hk : k ≤ 65552) : lI L.l (nameB L.nx.toNat) (bsOf L.l (nameB L.nx.toNat)) = false := by
 have hnx : L.nx.toNat = m := by rw [h.nx]; exact Int.toNat_natCast m
 rw [hnx]
 cases hh : lI L.l (nameB m) (bsOf L.l (nameB m)) with
 | false => rfl
 | true =>
  exfalso
  obtain ⟨x, hx, hxe⟩ := (uZ _ _ _).1 hh
  have hxn : x.f0 = nameB m := pR (by
   rw [ByteArray.toList_eq, ByteArray.toList_eq] at hxe
   exact hxe)
  have hmem : ((x, m) : Pl) ∈ aP L.l := lF.2 ⟨List.mem_of_getElem? hx, by show numOf x.f0 = some m; rw [hxn]; exact yA h.top⟩
  obtain ⟨a, e1, e2⟩ := qbD h.right h.ch hmem rfl
  have hlp : sU L.l = some (x, m) := by
   rw [sU, e1, List.getLast?_append]
   rfl
  unfold isFull at hf
  rw [hlp] at hf
  simp only at hf e2
  have := h.lo
  omega
theorem qah {L : Lg} {ds : List eP.Bytes} {n m k : Nat} (h : WF L ds n m) (hu : L.fu = -1) (ha : L.fa = -1) (hk : k ≤ 65552) (hl : 64 ≤ L.l.length) (hf : isFull L k) : (gQ L k).2 = 8 := by
 have hat := qag h hf hk
 have hrf : rfC (nameB L.nx.toNat) L.l.length (bsOf L.l (nameB L.nx.toNat)) (lI L.l (nameB L.nx.toNat) (bsOf L.l (nameB L.nx.toNat))) = 8 := by
  unfold rfC
  rw [hat, if_neg, if_neg (by simp), if_pos (by omega)]
  rw [PV, wF]
  intro hh
  rcases hh with hh | hh
  ·have := congrArg List.length hh
   rw [l9] at this
   cases this
  ·omega
 unfold gQ
 rw [if_pos hf, hu, ha, h.dn, kC, oP h.right, if_neg (by rw [hrf]; decide)]
 exact hrf
theorem SI {L : Lg} {ds : List eP.Bytes} {n m : Nat} {d : ByteArray} (h : WF L ds n m) (hu : L.fu = -1) (ha : L.fa = -1) (hd : d.size ≤ 65536) (hm : m < most) : (bV L d).2 = 0 ∨ ((bV L d).2 = 8 ∧ 64 ≤ L.l.length) := by
 by_cases hl : L.l.length < 64
 ·obtain ⟨R, hR, _⟩ := uD h hu ha hd hm hl
  exact .inl (by rw [hR])
 ·have hfs : (eX L.nx d).size = 16 + d.size := by rw [h.nx]; exact xR m d
  have hap : bV L d = if (gQ L (eX L.nx d).size).2 = 0 then pV (gQ L (eX L.nx d).size).1 (eX L.nx d) else gQ L (eX L.nx d).size := by
   rw [bV, if_pos h.okL, jG, h.br, if_neg (by simp), if_neg (by omega), if_neg (by rw [h.nx]; unfold most at hm; omega)]
  by_cases hf : isFull L (eX L.nx d).size
  ·have := qah h hu ha (by omega) (by omega) hf
   rw [hap, if_neg (by rw [this]; decide), this]
   exact .inr ⟨rfl, by omega⟩
  ·have e1 : gQ L (eX L.nx d).size = (L, 0) := by
    unfold gQ
    rw [if_neg hf]
   obtain ⟨w1, w2, w3, a, p, w4, w5⟩ := yC h e1
   obtain ⟨p1, _⟩ := PW (s := eX L.nx d) w1 hu ha w4 (by omega)
   rw [hap, e1, if_pos rfl]
   exact .inl p1
theorem VI {nx : Int} : ∀ {l : List S41} {least : Int} {i j : Nat} {x y : S41}, rW nx least l → l[i]? = some x → l[j]? = some y → i < j → x.f0 < y.f0
 | [], _, i, _, _, _, _, hx, _, _ => by simp at hx
 | z :: r, least, 0, 0, x, y, h, hx, hy, hl => by omega
 | z :: r, least, i + 1, 0, x, y, h, hx, hy, hl => by omega
 | z :: r, least, 0, j + 1, x, y, h, hx, hy, _ => by
  obtain rfl : z = x := by simpa using hx
  have := tC h.2.2.2 y (List.mem_of_getElem? (show r[j]? = some y by simpa using hy))
  omega
 | z :: r, least, i + 1, j + 1, x, y, h, hx, hy, hl => VI (i := i) (j := j) h.2.2.2 (by simpa using hx) (by simpa using hy) (by omega)
theorem qbH {p : S41 → Bool} : ∀ {l : List S41} {i : Nat} {x : S41}, l[i]? = some x → p x = true → (∀ j y, j < i → l[j]? = some y → p y = false) → lY p l = some i
 | [], i, x, hx, _, _ => by simp at hx
 | y :: r, 0, x, hx, hp, _ => by
  obtain rfl : y = x := by simpa using hx
  rw [lY, if_pos hp]
 | y :: r, i + 1, x, hx, hp, h => by
  have h1 := h 0 y (by omega) rfl
  rw [lY, if_neg (by rw [h1]; simp), qbH (i := i) (x := x) (by simpa using hx) hp (fun j z hj hz => h (j + 1) z (by omega) (by simpa using hz))]
  rfl
theorem XZ {p : S41 → Bool} : ∀ {l : List S41}, (∀ x ∈ l, p x = false) → lY p l = none
 | [], _ => rfl
 | y :: r, h => by
  rw [lY, if_neg (by rw [h y (List.mem_cons_self ..)]; simp), XZ (fun x hx => h x (List.mem_cons_of_mem _ hx))]
  rfl
theorem qeh {l : List S41} {i : Nat} {x : S41} (y : S41) (hx : l[i]? = some x) : (l.set i y).set i x = l := by
 rw [List.set_set]
 apply List.ext_getElem?
 intro k
 by_cases hk : i = k
 ·subst hk
  rw [List.getElem?_set_self (List.getElem?_eq_some_iff.1 hx).1, hx]
 ·rw [List.getElem?_set_ne hk]
theorem MG {Q : Qu} (h : (gU Q).2 ≠ 0) : iI Q = z41 := by
 rw [iI]
 split
 ·rename_i hc
  rw [gU, kR hc.1 hc.2, qI] at h
  rw [uN]
  cases hi : lY free Q.es with
  | none => rfl
  | some i =>
   rw [hi] at h
   exact absurd rfl h
 ·rfl
theorem MH {Q : Qu} (h : (gU Q).2 = 0) : okQ Q ∧ Q.L.br = false ∧ ∃ i x, lY free Q.es = some i ∧ Q.es[i]? = some x ∧ x.f2 = false ∧ gU Q = (⟨Q.L, Q.es.set i ⟨x.f0, x.f1, true⟩, Q.most⟩, 0) ∧ iI Q = ⟨x.f0, x.f1, true⟩ := by
 by_cases hok : okQ Q
 ·by_cases hb : Q.L.br = true
  ·rw [gU, XT hok hb] at h
   exact absurd h (show ¬ (6 : Int) = 0 by decide)
  ·have hb : Q.L.br = false := by simpa using hb
   rw [gU, kR hok hb, qI] at h
   cases hi : lY free Q.es with
   | none =>
    rw [hi] at h
    exact absurd h (show ¬ (7 : Int) = 0 by decide)
   | some i =>
    obtain ⟨x, hx, hp, _⟩ := xY hi
    refine ⟨hok, hb, i, x, rfl, hx, by simpa [free] using hp, ?_, ?_⟩
    ·rw [gU, kR hok hb, qI, hi]
     simp only [NQ, hx]
    ·rw [iI, if_pos ⟨hok, hb⟩, uN, hi]
     simp only [hx]
 ·rw [gU, qcF hok] at h
  exact absurd h (show ¬ (6 : Int) = 0 by decide)
theorem qfl {Q : Qu} {i : Nat} {x : S41} (b : Bool) (h : okQ Q) (hx : Q.es[i]? = some x) : okQ ⟨Q.L, Q.es.set i ⟨x.f0, x.f1, b⟩, Q.most⟩ := by
 refine ⟨h.1, h.2.1, h.2.2.1, ?_, ?_⟩
 ·show (Q.es.set _ _).length ≤ 1024
  rw [List.length_set]
  exact h.2.2.2.1
 ·show rW Q.L.nx Q.L.fr (Q.es.set _ _)
  rw [← wJ, SH _ _ _ _ hx, wJ]
  exact h.2.2.2.2
theorem qai {Q : Qu} (h0 : 0 ≤ Q.L.fr) (h : (gU Q).2 = 0) : ∃ (x : S41) (Qa : Qu), gU Q = (Qa, 0) ∧ iI Q = ⟨x.f0, x.f1, true⟩ ∧ okQ Q ∧ Qa.L = Q.L ∧ 0 ≤ x.f0 ∧ x.f0 < Q.L.nx ∧ sZ Qa x.f0 = (Q, 0) ∧
  ((gU Qa).2 = 0 → x.f0 < (iI Qa).f0 ∧ (gU Qa).1.es.length = Q.es.length) := by
 obtain ⟨hok, hb, i, x, hi, hx, hf, e1, e2⟩ := MH h
 obtain ⟨x2, hx2, _, hfirst⟩ := xY hi
 obtain rfl : x = x2 := Option.some.inj (hx.symm.trans hx2)
 have hl := (List.getElem?_eq_some_iff.1 hx).1
 have hn := qZ h0 hok.2.2.2.2 x (List.mem_of_getElem? hx)
 refine ⟨x, _, e1, e2, hok, rfl, hn.1, hn.2, ?_, fun h2 => ?_⟩
 ·have hs : (Q.es.set i ⟨x.f0, x.f1, true⟩)[i]? = some ⟨x.f0, x.f1, true⟩ := List.getElem?_set_self hl
  have hl2 : lY (iG x.f0) (Q.es.set i ⟨x.f0, x.f1, true⟩) = some i := by
   refine qbH hs (by simp [iG]) fun j y hj hy => ?_
   rw [List.getElem?_set_ne (by omega)] at hy
   have := VI hok.2.2.2.2 hy hx hj
   have : (y.f0 == x.f0) = false := by
    rw [beq_eq_false_iff_ne]
    omega
   simp [iG, this]
  rw [sZ, kR (qfl true hok hx) hb, pW]
  simp only [hl2, ZN, hs]
  rw [qeh _ (show Q.es[i]? = some ⟨x.f0, x.f1, false⟩ by rw [hx, ← hf])]
 ·obtain ⟨_, _, j, y, hj, hy, hyf, g1, g2⟩ := MH h2
  simp only at hj hy g1 g2
  rw [g1, g2]
  have hne : j ≠ i := by
   rintro rfl
   rw [List.getElem?_set_self hl] at hy
   rw [← Option.some.inj hy] at hyf
   cases hyf
  rw [List.getElem?_set_ne (fun e => hne e.symm)] at hy
  refine ⟨?_, by show ((Q.es.set _ _).set _ _).length = _; rw [List.length_set, List.length_set]⟩
  have hij : i < j := by
   by_cases hij : j < i
   ·have := hfirst j y hij hy
    simp [free, hyf] at this
   ·omega
  have h9 := VI hok.2.2.2.2 hx hy hij
  exact h9
theorem uO {l : List S67} {dn : Bool} {fu fa : Int} {s : ByteArray} {wr : Bool} {rf : Int → Bool → Int} {df : Int → List S67} (hr : bI l = true) (hg : rf (bsOf l s) (lI l s (bsOf l s)) = 0 → bI (df (bsOf l s)) = true) : bI (cZ l dn fu fa s wr rf df).1 = true := by
 unfold cZ
 rw [if_pos hr]
 split
 ·exact hr
 ·split
  ·rename_i hrf
   split
   ·exact hr
   ·split
    ·cases wr
     ·exact hr
     ·exact hg hrf
    ·exact hg hrf
  ·exact hr
structure Keeps (L R : Lg) : Prop where
 right : bI R.l = true
 size : R.size = L.size
 fr : R.fr = L.fr
 nx : R.nx = L.nx
theorem Keeps.refl {L : Lg} (h : bI L.l = true) : Keeps L L := ⟨h, rfl, rfl, rfl⟩
theorem Keeps.trans {L R S : Lg} (h : Keeps L R) (g : Keeps R S) : Keeps L S := ⟨g.right, g.size.trans h.size, g.fr.trans h.fr, g.nx.trans h.nx⟩
theorem KG {L : Lg} {R : O9} (h : bI R.1 = true) : Keeps L (chg L R) := ⟨h, rfl, rfl, rfl⟩
theorem VJ {L : Lg} {R : O9} (h : R.2.2.2.2 ≠ 0) : (chg L R).br = true := if_neg h
theorem QA {L : Lg} {R : O9} (h : R.2.2.2.2 = 0) : (chg L R).br = L.br := if_pos h
theorem qfm {b : Bool} (h : (if b = true then (0 : Int) else 7) = 0) : b = true := by
 cases b
 ·cases h
 ·rfl
theorem VK {l : List S67} {dn : Bool} {fu fa : Int} {s : ByteArray} (hr : bI l = true) : bI (kC l dn fu fa s).1 = true := uO hr fun h => by simpa using (xO hr h).1
theorem append_right {l : List S67} {dn : Bool} {fu fa : Int} {s d : ByteArray} (hr : bI l = true) : bI (jC l dn fu fa s d).1 = true := uO hr fun h => (xP hr d h).1
theorem qaj {l : List S67} {dn : Bool} {fu fa : Int} {s : ByteArray} (hr : bI l = true) : bI (rH l dn fu fa s).1 = true := uO hr fun h => (J5 hr (qfm h)).1
theorem X0 {L : Lg} {k : Nat} (hr : bI L.l = true) : Keeps L (gQ L k).1 ∧ ((gQ L k).2 ≠ 0 → (gQ L k).1.br = true) ∧ ((gQ L k).2 = 0 → (gQ L k).1.br = L.br) := by
 unfold gQ
 split
 ·exact ⟨KG (VK hr), VJ, QA⟩
 ·exact ⟨Keeps.refl hr, fun h => absurd rfl h, fun _ => rfl⟩
theorem X3 {L : Lg} {nm s : ByteArray} (hr : bI L.l = true) : Keeps L (fV L nm s).1 ∧ ((fV L nm s).2 ≠ 0 → (fV L nm s).1.br = true) ∧ ((fV L nm s).2 = 0 → (fV L nm s).1.br = L.br) := ⟨KG (append_right hr), VJ, QA⟩
theorem X4 {L : Lg} {nm : ByteArray} (hr : bI L.l = true) : Keeps L (stepS L nm).1 ∧ ((stepS L nm).2 ≠ 0 → (stepS L nm).1.br = true) ∧ ((stepS L nm).2 = 0 → (stepS L nm).1.br = L.br) := ⟨KG (qaj hr), VJ, QA⟩
theorem wM {L : Lg} {d : ByteArray} (h : okL L) (hb : L.br = false) :
  ((bV L d).2 = 0 ∧ Keeps ⟨L.l, L.dn, L.fu, L.fa, L.size, L.fr, L.nx + 1, L.br⟩ (bV L d).1 ∧ L.nx + 1 ≤ 4611686018427387904 ∧ (bV L d).1.br = false)
  ∨ ((bV L d).2 ≠ 0 ∧ (bV L d).2 ≠ 8 ∧ (bV L d).1 = L) ∨ ((bV L d).2 ≠ 0 ∧ (bV L d).1.br = true ∧ Keeps L (bV L d).1) := by
 rw [bV, if_pos h, jG, hb, if_neg (by simp)]
 split
 ·exact .inr (.inl ⟨(by decide : (4 : Int) ≠ 0), (by decide : (4 : Int) ≠ 8), rfl⟩)
 split
 ·exact .inr (.inl ⟨(by decide : (2 : Int) ≠ 0), (by decide : (2 : Int) ≠ 8), rfl⟩)
 rename_i hnx
 obtain ⟨c1, c2, c3⟩ := X0 (L := L) (k := (eX L.nx d).size) h.1
 split
 ·rename_i hc
  have c3 := c3 hc
  generalize (gQ L (eX L.nx d).size).1 = M at c1 c3 ⊢
  unfold pV
  obtain ⟨a1, a2, a3⟩ := X3 (L := M) (nm := oZ M.l) (s := eX L.nx d) c1.right
  split
  ·rename_i ha
   have a3 := a3 ha
   generalize (fV M (oZ M.l) (eX L.nx d)).1 = N at a1 a3 ⊢
   obtain ⟨s1, s2, s3⟩ := X4 (L := N) (nm := oZ M.l) a1.right
   split
   ·rename_i hs
    have k := (c1.trans a1).trans s1
    refine .inl ⟨rfl, ⟨k.right, k.size, k.fr, ?_⟩, by omega, ?_⟩
    ·show M.nx + 1 = L.nx + 1
     rw [c1.nx]
    ·exact (s3 hs).trans (a3.trans (c3.trans hb))
   ·rename_i hs
    exact .inr (.inr ⟨hs, s2 hs, (c1.trans a1).trans s1⟩)
  ·rename_i ha
   exact .inr (.inr ⟨ha, a2 ha, c1.trans a1⟩)
 ·rename_i hc
  exact .inr (.inr ⟨hc, c2 hc, c1⟩)
theorem qcI {L R : Lg} (h : okL L) (k : Keeps L R) : okL R := ⟨k.right, by rw [k.size]; exact h.2.1, by rw [k.size]; exact h.2.2.1, by rw [k.fr, k.nx]; exact h.2.2.2.1, by rw [k.nx]; exact h.2.2.2.2⟩
theorem QW.qak {Q : Qu} {ds : List eP.Bytes} {n m : Nat} {data : ByteArray} (h : QW Q ds n m) (hm : m < eP.most) :
  ((rE Q data).2 = 0 ∧ (Q.es.length : Int) < Q.most ∧ data.size < 65536 ∧ (bV Q.L (P80 ++ data)).2 = 0) ∨ (Q.most ≤ (Q.es.length : Int) ∧ rE Q data = (Q, 8)) ∨ ((Q.es.length : Int) < Q.most ∧ 65536 ≤ data.size ∧ rE Q data = (Q, 4)) ∨ ((Q.es.length : Int) < Q.most ∧ data.size < 65536 ∧ (rE Q data).1.L.br = true ∧ (rE Q data).2 = 8 ∧ 64 ≤ Q.L.l.length) := by
 rw [rE, kR h.ok h.wf.br, J9]
 split
 ·rename_i hr
  split
  ·rename_i hd
   have hz : (P80 ++ data).size ≤ 65536 := by rw [yD]; omega
   rcases SI h.wf h.fu h.fa hz hm with e | ⟨e, hl⟩
   ·rw [if_pos e]
    exact .inl ⟨rfl, hr, hd, e⟩
   ·rw [if_neg (by rw [e]; decide)]
    rcases wM (d := P80 ++ data) h.wf.okL h.wf.br with ⟨e2, _⟩ | ⟨_, e2, _⟩ | ⟨_, k1, _⟩
    ·rw [e] at e2
     cases e2
    ·exact absurd e e2
    ·exact .inr (.inr (.inr ⟨hr, hd, k1, e, hl⟩))
  ·exact .inr (.inr (.inl ⟨hr, by omega, rfl⟩))
 ·exact .inr (.inl ⟨by omega, rfl⟩)
theorem qal (q : Int) : (kP q).size ≤ 65536 := by rw [J8]; decide
theorem QW.qgq {Q : Qu} {ds : List eP.Bytes} {n m i : Nat} {q : Int} (h : QW Q ds n m) (hi : lY (iG q) Q.es = some i) (hm : m < eP.most) :
  (bV Q.L (kP q)).2 = 0 ∨ (∃ Q', rX Q q = (Q', 8) ∧ Q'.L.br = true ∧ okQ Q' ∧ Q'.L.fr = Q.L.fr ∧ Q'.L.nx = Q.L.nx ∧ 64 ≤ Q.L.l.length) := by
 rcases SI h.wf h.fu h.fa (qal q) hm with e | ⟨e, hl⟩
 ·exact .inl e
 ·rcases wM (d := kP q) h.wf.okL h.wf.br with ⟨e2, _⟩ | ⟨_, e2, _⟩ | ⟨_, k1, k2⟩
  ·rw [e] at e2
   cases e2
  ·exact absurd e e2
  ·refine .inr ⟨⟨(bV Q.L (kP q)).1, Q.es, Q.most⟩, ?_, k1, ⟨qcI h.wf.okL k2, h.lo, h.hi, h.len, ?_⟩, k2.fr, k2.nx, hl⟩
   ·rw [rX, kR h.ok h.wf.br, G5, hi]
    simp only
    rw [if_neg (by rw [e]; decide), e]
   ·show rW (bV Q.L (kP q)).1.nx (bV Q.L (kP q)).1.fr Q.es
    rw [k2.nx, k2.fr]
    exact h.oks
theorem qcJ {Q : Qu} {q : Int} (h : okQ Q) (hb : Q.L.br = false) (hf : ∀ x ∈ Q.es, x.f2 = false) : rX Q q = (Q, 19) := by
 rw [rX, kR h hb, G5, XZ (fun x hx => by simp [iG, hf x hx])]
theorem X5 {Q : Qu} {q : Int} (h : okQ Q) (hb : Q.L.br = true) : rX Q q = (Q, 6) := by rw [rX, XT h hb]
end Go.Proofs.YtanonhipicoigaaGreatDoor.U
