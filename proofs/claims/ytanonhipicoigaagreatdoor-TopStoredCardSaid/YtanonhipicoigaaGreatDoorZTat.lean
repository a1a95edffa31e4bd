import Derived.Test.YtanonhipicoigaaGreatDoorZTas
import Derived.Test.YtanonhipicoigaaGreatDoorZTai
import Derived.Test.YtanonhipicoigaaGreatDoorZTag
set_option linter.unusedVariables false
set_option linter.unusedSimpArgs false
set_option maxRecDepth 100000
namespace Go.Proofs.U
open Go.RowKit Go.Proofs.aA.aK Go.Proofs.aA.aW Go.Proofs.aA.aZ Go.Proofs.Sp Go.Proofs.dZ
theorem xA {l : List S67} {dn : Bool} {fu fa : Int} {s : ByteArray} {wr : Bool} {rf : Int → Bool → Int} {df : Int → List S67} (hr : bI l = true) (h : rf (bsOf l s) (kG l s (bsOf l s)) = 0) (he : (bW l dn fu fa s wr rf df).2.2.2.2 ≠ 0) :
    (bW l dn fu fa s wr rf df).2.2.2.2 = 17 ∨ (bW l dn fu fa s wr rf df).2.2.2.2 = 18 := by
  unfold bW at he ⊢
  rw [if_pos hr] at he ⊢
  by_cases hd : dn = true
  · rw [if_pos hd]
    exact .inl rfl
  · rw [if_neg hd, if_pos h] at he ⊢
    by_cases hf : fa = 0
    · rw [if_pos hf]
      exact .inr rfl
    · rw [if_neg hf] at he ⊢
      by_cases hu : fu = 0
      · rw [if_pos hu]
        exact .inl rfl
      · rw [if_neg hu] at he
        exact absurd rfl he
theorem I5 {l : List S67} {dn : Bool} {fu fa : Int} {s : ByteArray} {wr : Bool} {rf : Int → Bool → Int} {df : Int → List S67} (hr : bI l = true) (h : ¬ rf (bsOf l s) (kG l s (bsOf l s)) = 0) : (bW l dn fu fa s wr rf df).1 = l := by
 unfold bW
 rw [if_pos hr]
 by_cases hd : dn = true
 ·rw [if_pos hd]
 ·rw [if_neg hd, if_neg h]
theorem LV {L R : Lg} {ds : List dZ.Bytes} {n m : Nat} {d : ByteArray} {e : Int} (h : WF L ds n m) (hs : Sy L.l) (hR : bT L d = (R, e)) (he : e ≠ 0) :
  (∃ L1, WF L1 ds n m ∧ Sy L1.l ∧ R.l = L1.l) ∨ (Wet R.l ds n m d ∧ d.size ≤ 65536 ∧ m < dZ.most ∧ (e = 17 ∨ e = 18)) := by
 have hR0 := hR
 rw [bT, if_pos h.okL, iW, h.br, if_neg (by simp)] at hR
 split at hR
 ·obtain ⟨rfl, _⟩ := Prod.mk.inj hR
  exact .inl ⟨L, h, hs, rfl⟩
 rename_i hd
 split at hR
 ·obtain ⟨rfl, _⟩ := Prod.mk.inj hR
  exact .inl ⟨L, h, hs, rfl⟩
 rename_i hm
 have hm2 : m < dZ.most := by
  rw [h.nx] at hm
  unfold dZ.most
  omega
 split at hR
 case isFalse hz => exact .inl ⟨L, h, hs, TR h hR he⟩
 rename_i hz
 obtain ⟨L1, hL1⟩ : ∃ L1, gK L (dN L.nx d).size = (L1, 0) := ⟨_, Prod.ext rfl hz⟩
 rw [hL1] at hR
 obtain ⟨w1, w2, w3, a, p, w4, w5⟩ := tZ h hL1
 have hs1 := LM h hs hL1
 have hb : byt (dN L.nx d) = dZ.frame SU m (byt d) := by rw [h.nx]; exact pJ m d
 simp only at hR
 unfold oP at hR
 rw [sQ w4] at hR
 have hset := FY (dN L.nx d) w1 w4
 have hw := ZO w1 hs1 w4 hb
 obtain ⟨q1, q2, _⟩ := iZ w1.right w4
 split at hR
 ·rename_i hz1
  rcases hset with ⟨e1, e2⟩ | ⟨e1, _⟩
  case inr => exact absurd hz1 e1
  split at hR
  ·exact absurd (Prod.mk.inj hR).2.symm he
  ·rename_i hz2
   have e3 : R.l = (fC L1 p.1.f0 (dN L.nx d)).1.l := by
    have : R = (stepS (fC L1 p.1.f0 (dN L.nx d)).1 p.1.f0).1 := by rw [hR]
    rw [this]
    have hr2 : bI (fC L1 p.1.f0 (dN L.nx d)).1.l = true := by rw [e1]; exact e2
    rcases uF hr2 hz2 with k1 | ⟨k1, _⟩
    ·exact k1
    ·cases k1
   refine .inr ⟨?_, by omega, hm2, ?_⟩
   ·rw [e3, e1]
    exact hw e2
   ·have e4 : e = (stepS (fC L1 p.1.f0 (dN L.nx d)).1 p.1.f0).2 := by rw [hR]
    rw [e4]
    have hr2 : bI (fC L1 p.1.f0 (dN L.nx d)).1.l = true := by rw [e1]; exact e2
    refine xA hr2 ?_ hz2
    have hat : kG (fC L1 p.1.f0 (dN L.nx d)).1.l p.1.f0 (bsOf (fC L1 p.1.f0 (dN L.nx d)).1.l p.1.f0) = true := by
     rw [e1] at hr2 ⊢
     exact (tJ _ _ _).2 ⟨_, DT hr2 p.1.f0 (List.mem_of_getElem? (List.getElem?_set_self (List.getElem?_eq_some_iff.1 q1).1)) rfl, rfl⟩
    rw [hat]
    rfl
 ·rename_i hz1
  have hRR : R = (fC L1 p.1.f0 (dN L.nx d)).1 := by rw [hR]
  rcases hset with ⟨e1, e2⟩ | ⟨_, e1⟩
  ·by_cases hrf : rfW (dN L.nx d) L1.l (bsOf L1.l p.1.f0) (kG L1.l p.1.f0 (bsOf L1.l p.1.f0)) = 0
   ·refine .inr ⟨?_, by omega, hm2, ?_⟩
    ·rw [hRR, e1]
     exact hw e2
    ·have e4 : e = (fC L1 p.1.f0 (dN L.nx d)).2 := by rw [hR]
     rw [e4]
     exact xA w1.right hrf hz1
   ·exact .inl ⟨L1, w1, hs1, by rw [hRR]; exact I5 w1.right hrf⟩
  ·exact .inl ⟨L1, w1, hs1, by rw [hRR, e1]⟩
theorem ED (q : Int) : ∀ (ps : List Pl) (L : Lg) (ds : List dZ.Bytes) (n m : Nat), aN L.l = ps → bI L.l = true → Sy L.l → chain SU n ps ds m →
    ∃ rest d0 d1, aN (dV L ps q).1.l = rest ∧ bI (dV L ps q).1.l = true ∧ Sy (dV L ps q).1.l ∧ ds = d0 ++ d1 ∧ chain SU (n + d0.length) rest d1 m ∧ (rest = [] → ps = []) ∧ (d0 = [] ∨ ((n + d0.length : Nat) : Int) ≤ q) ∧ ((dV L ps q).2.1 = 0 ∨ (dV L ps q).2.1 = 17 ∨ (dV L ps q).2.1 = 18)
  | [], L, ds, n, m, hp, hr, hs, hc => ⟨[], [], ds, hp, hr, hs, rfl, hc, fun _ => rfl, .inl rfl, .inl rfl⟩
  | [p], L, ds, n, m, hp, hr, hs, hc => ⟨[p], [], ds, hp, hr, hs, rfl, hc, fun h => h, .inl rfl, .inl rfl⟩
  | p :: p2 :: r, L, ds, n, m, hp, hr, hs, hc => by
    by_cases hq : (p2.2 : Int) ≤ q
    · have hp' : aN L.l = [] ++ p :: (p2 :: r) := hp
      obtain ⟨g1, g2, _⟩ := iZ hr hp'
      have hz0 : (if kG L.l p.1.f0 (bsOf L.l p.1.f0) = true then (0 : Int) else 7) = 0 := if_pos g2
      by_cases hz : (fE L.l L.dn L.fu L.fa p.1.f0).2.2.2.2 = 0
      · obtain ⟨h1, h2, h3, h4, h5⟩ := kE hz
        have h4 : (fE L.l L.dn L.fu L.fa p.1.f0).1 = L.l.take (bsOf L.l p.1.f0) ++ L.l.drop (bsOf L.l p.1.f0 + 1) := by
          rw [fE, h4]
          simp only [Int.toNat_natCast]
        have hstep : dV L (p :: p2 :: r) q = dV (chg L (fE L.l L.dn L.fu L.fa p.1.f0)) (p2 :: r) q := by
          rw [dV, if_pos hq, if_pos hz]
        obtain ⟨c1, e1, e2, rfl, c2, c3⟩ := hc
        have hl : (chg L (fE L.l L.dn L.fu L.fa p.1.f0)).l = L.l.take (bsOf L.l p.1.f0) ++ L.l.drop (bsOf L.l p.1.f0 + 1) := h4
        obtain ⟨rest, d0, d1, k1, k2, k3, k4, k5, k6, k7, k8⟩ := ED q (p2 :: r) (chg L (fE L.l L.dn L.fu L.fa p.1.f0)) e2 (n + e1.length) m (by rw [hl]; exact oU hr hp') (by rw [hl]; exact sK hr _)
          (fun x hx => by
            rw [hl] at hx
            rcases List.mem_append.1 hx with h | h
            · exact hs x (List.mem_of_mem_take h)
            · exact hs x (List.mem_of_mem_drop h)) c3
        rw [hstep]
        refine ⟨rest, e1 ++ d0, d1, k1, k2, k3, by rw [k4, List.append_assoc], ?_, fun h => (by cases k6 h), .inr ?_, k8⟩
        · rw [List.length_append, ← Nat.add_assoc]
          exact k5
        · rcases k7 with rfl | k7
          · have := c3.1
            rw [List.append_nil]
            omega
          · rw [List.length_append, ← Nat.add_assoc]
            exact k7
      · have hl : (fE L.l L.dn L.fu L.fa p.1.f0).1 = L.l := by
          rcases uF hr hz with k1 | ⟨k1, _⟩
          · exact k1
          · cases k1
        have hstep : dV L (p :: p2 :: r) q = (chg L (fE L.l L.dn L.fu L.fa p.1.f0), (fE L.l L.dn L.fu L.fa p.1.f0).2.2.2.2, []) := by
          rw [dV, if_pos hq, if_neg hz]
        have hl2 : (chg L (fE L.l L.dn L.fu L.fa p.1.f0)).l = L.l := hl
        rw [hstep]
        exact ⟨p :: p2 :: r, [], ds, by rw [hl2]; exact hp, by rw [hl2]; exact hr, by rw [hl2]; exact hs, rfl, hc, fun h => h, .inl rfl, .inr (xA hr hz0 hz)⟩
    · rw [dV, if_neg hq]
      exact ⟨p :: p2 :: r, [], ds, hp, hr, hs, rfl, hc, fun h => h, .inl rfl, .inl rfl⟩
theorem qaV {L : Lg} {ds : List dZ.Bytes} {n m : Nat} {q : Int} (h : WF L ds n m) (hs : Sy L.l) (hq : q ≤ L.nx) (ks : List Int) :
  ∃ d0 d1, ds = d0 ++ d1 ∧ (d0 = [] ∨ ((n + d0.length : Nat) : Int) ≤ q) ∧ bI (kH L q).1.l = true ∧ Back (fA (kH L q).1.l ks) d1 (n + d0.length) ∧ ((kH L q).2 = 0 ∨ (kH L q).2 = 17 ∨ (kH L q).2 = 18) := by
 obtain ⟨rest, d0, d1, k1, k2, k3, k4, k5, k6, k7, k8⟩ := ED q (aN L.l) L ds n m rfl h.right hs h.ch
 have hl : (kH L q).1.l = (dV L (aN L.l) q).1.l ∧ ((kH L q).2 = 0 ∨ (kH L q).2 = 17 ∨ (kH L q).2 = 18) := by
  rw [kH, if_pos h.okL, tN, h.br, if_neg (by simp), if_neg (by omega)]
  split
  ·refine ⟨?_, .inl rfl⟩
   show (vO _ _).l = _
   unfold vO
   split <;> rfl
  ·exact ⟨rfl, k8⟩
 rw [hl.1]
 refine ⟨d0, d1, k4, k7, k2, ?_, hl.2⟩
 rw [uD k3]
 have hf : dP rest = n + d0.length := by
  cases rest with
  | nil =>
   have hps := k6 rfl
   have hf := h.first
   have hc := h.ch
   rw [hps] at hf hc
   obtain ⟨hc1, _⟩ := hc
   rw [hc1] at k4
   have h0 : d0 = [] := (List.append_eq_nil_iff.1 k4.symm).1
   subst h0
   exact hf
  | cons p r => exact k5.1
 have hw : WF ⟨(dV L (aN L.l) q).1.l, false, -1, -1, 1, ((n + d0.length : Nat) : Int), (m : Int), false⟩ d1 (n + d0.length) m :=
  ⟨k2, rfl, rfl, by show (1 : Int) ≤ 1; decide, by show (1 : Int) ≤ 262144; decide, by show dP (aN _) = _; rw [k1]; exact hf, by show chain SU _ (aN _) d1 m; rw [k1]; exact k5, h.top, rfl, rfl⟩
 exact hw.back k3
def QB (l : List S67) (es : List S41) : Prop := (∃ ds n, Back l ds n ∧ dH (bU ds n) = es) ∧ es.length ≤ 1024
theorem QB.opens {l : List S67} {es : List S41} {size mst : Int} (h : QB l es) (h0 : 1 ≤ size) (h1 : size ≤ 262144) (m0 : 1 ≤ mst) (m1 : mst ≤ 1024) : ∃ L, l7 l false (-1) (-1) size mst = (⟨L, es, mst⟩, 0) := by
 obtain ⟨⟨ds, n, hb, he⟩, hl⟩ := h
 obtain ⟨L, g, _⟩ := WO (most := mst) hb h0 h1 m0 m1 (by rw [he]; exact hl)
 rw [he] at g
 exact ⟨L, g⟩
def xB (l : List S41) (k : Int) (sd : ByteArray) (sq e : Int) : List S41 := (if k = 4 then l.filter (fun x => decide (x.f0 ≠ sq)) else l) ++ (if k = 1 then [⟨e, sd, false⟩] else [])
theorem zG {l : List S41} {k sq e : Int} {sd : ByteArray} (h4 : ¬ k = 4) (h1 : ¬ k = 1) : xB l k sd sq e = l := by rw [xB, if_neg h4, if_neg h1, List.append_nil]
theorem F7 {l : List S41} {sq e : Int} {sd : ByteArray} : xB l 1 sd sq e = l ++ [⟨e, sd, false⟩] := by rw [xB, if_neg (by decide), if_pos rfl]
theorem zH {l : List S41} {sq e : Int} {sd : ByteArray} : xB l 4 sd sq e = l.filter (fun x => decide (x.f0 ≠ sq)) := by rw [xB, if_pos rfl, if_neg (by decide), List.append_nil]
theorem QW.set {Q : Qu} {ds : List dZ.Bytes} {n m i : Nat} {x : S41} (b : Bool) (h : QW Q ds n m) (hx : Q.es[i]? = some x) : QW ⟨Q.L, Q.es.set i ⟨x.f0, x.f1, b⟩, Q.most⟩ ds n m :=
 ⟨h.wf, h.sy, h.fu, h.fa, h.lo, h.hi, by show (Q.es.set _ _).length ≤ 1024; rw [List.length_set]; exact h.len, by show strip (Q.es.set _ _) = _; rw [zF _ _ _ _ hx]; exact h.es⟩
theorem UF {Q : Qu} {data : ByteArray} (h : okQ Q) (hb : Q.L.br = false) (hz : (pR Q data).2 = 0) : (Q.es.length : Int) < Q.most ∧ data.size < 65536 ∧ (bT Q.L (P80 ++ data)).2 = 0 := by
 rw [pR, iE h hb, BF] at hz
 split at hz
 ·rename_i h1
  split at hz
  ·rename_i h2
   split at hz
   ·rename_i h3
    exact ⟨h1, h2, h3⟩
   ·rename_i h3
    exact absurd hz h3
  ·cases hz
 ·cases hz
theorem UG {Q : Qu} {q : Int} (h : okQ Q) (hb : Q.L.br = false) (hz : (pU Q q).2 = 0) : ∃ i, oQ (jL q) Q.es = some i ∧ (bT Q.L (kD q)).2 = 0 := by
 rw [pU, iE h hb, zK] at hz
 split at hz
 ·cases hz
 ·rename_i i hi
  split at hz
  ·rename_i h3
   exact ⟨i, hi, h3⟩
  ·rename_i h3
   exact absurd hz h3
theorem QK {Q : Qu} {q : Int} (h : okQ Q) (hb : Q.L.br = false) (hz : (rG Q q).2 = 0) : ∃ i x, Q.es[i]? = some x ∧ rG Q q = (⟨Q.L, Q.es.set i ⟨x.f0, x.f1, false⟩, Q.most⟩, 0) := by
 rw [rG, iE h hb, KU] at hz ⊢
 split at hz
 ·rename_i i hi
  obtain ⟨x, hx, _⟩ := yL hi
  refine ⟨i, x, hx, ?_⟩
  simp only [hi, qca, hx]
 ·cases hz
theorem QW.step {Q : Qu} {ds : List dZ.Bytes} {n m : Nat} {k sq : Int} {sd : ByteArray} (h : QW Q ds n m) (hz : (doQ Q k sd sq).2.2 = 0) :
  ∃ ds' n' m', QW (doQ Q k sd sq).1 ds' n' m' ∧ strip (doQ Q k sd sq).1.es = xB (strip Q.es) k sd sq (doQ Q k sd sq).2.1.f0 ∧ (doQ Q k sd sq).1.most = Q.most ∧ (doQ Q k sd sq).1.L.size = Q.L.size := by
 unfold doQ at hz ⊢
 split at hz
 ·rename_i hk
  subst hk
  rw [if_pos rfl]
  obtain ⟨z1, z2, z3⟩ := UF h.ok h.wf.br hz
  obtain ⟨Q', e1, e2, e3, e4, e5, _, e7⟩ := h.put z1 z2 z3
  rw [e1, e2]
  refine ⟨_, _, _, e3, ?_, e5, e7⟩
  rw [F7]
  show strip Q'.es = _
  rw [e4]
  exact List.map_append ..
 rename_i hk1
 rw [if_neg hk1]
 split at hz
 ·rename_i hk
  subst hk
  rw [if_pos rfl]
  obtain ⟨_, _, i, x, hi, hx, _, e1, _⟩ := IL hz
  rw [e1]
  refine ⟨_, _, _, h.set true hx, ?_, rfl, rfl⟩
  rw [zG (by decide) (by decide)]
  exact zF _ _ _ _ hx
 rename_i hk2
 rw [if_neg hk2]
 split at hz
 ·rename_i hk
  subst hk
  rw [if_pos rfl]
  obtain ⟨i, x, hx, e1⟩ := QK h.ok h.wf.br hz
  rw [e1]
  refine ⟨_, _, _, h.set false hx, ?_, rfl, rfl⟩
  rw [zG (by decide) (by decide)]
  exact zF _ _ _ _ hx
 rename_i hk3
 rw [if_neg hk3]
 split at hz
 ·rename_i hk
  subst hk
  rw [if_pos rfl]
  obtain ⟨i, hi, ha⟩ := UG h.ok h.wf.br hz
  obtain ⟨Q', ds', n', e1, e2, e3, e4, e5⟩ := h.ack hi ha
  obtain ⟨x, hx, hxq, _⟩ := yS hi
  rw [e1]
  refine ⟨_, _, _, e2, ?_, e4, e5⟩
  rw [zH, qF h.oks hx hxq]
  show strip Q'.es = _
  rw [e3]
 ·rw [iE h.ok h.wf.br] at hz
  cases hz
theorem QW.last {Q : Qu} {ds : List dZ.Bytes} {n m : Nat} (h : QW Q ds n m) (fu fa : Int) (ks : List Int) (k : Int) (sd : ByteArray) (sq : Int) :
  ∃ D, D = doQ ⟨⟨Q.L.l, Q.L.dn, fu, fa, Q.L.size, Q.L.fr, Q.L.nx, Q.L.br⟩, Q.es, Q.most⟩ k sd sq ∧ bI D.1.L.l = true ∧ (D.2.2 = 0 → QB (fA D.1.L.l ks) (xB (strip Q.es) k sd sq D.2.1.f0)) ∧
   (D.2.2 ≠ 0 → QB (fA D.1.L.l ks) (strip Q.es) ∨ (QB (fA D.1.L.l ks) (xB (strip Q.es) k sd sq Q.L.nx) ∧ (D.2.2 = 17 ∨ D.2.2 = 18))) := by
 obtain ⟨P, hP⟩ : ∃ P : Qu, P = ⟨⟨Q.L.l, Q.L.dn, fu, fa, Q.L.size, Q.L.fr, Q.L.nx, Q.L.br⟩, Q.es, Q.most⟩ := ⟨_, rfl⟩
 rw [← hP]
 have hw : WF P.L ds n m := by rw [hP]; exact h.wf.refuse fu fa
 have hes : P.es = Q.es := by rw [hP]
 have hmo : P.most = Q.most := by rw [hP]
 have hsy : Sy P.L.l := by rw [hP]; exact h.sy
 have hok : okQ P := ⟨hw.okL, by rw [hmo]; exact h.lo, by rw [hmo]; exact h.hi, by rw [hes]; exact h.len, by rw [hes, hP]; exact h.oks⟩
 have hb : P.L.br = false := hw.br
 have hnx : P.L.nx = Q.L.nx := by rw [hP]
 have hsl : (strip Q.es).length ≤ 1024 := by rw [NU]; exact h.len
 have stay : ∀ R : Lg, R.l = P.L.l → QB (fA R.l ks) (strip Q.es) := fun R hR => ⟨⟨ds, n, by rw [hR, uD hsy]; exact hw.back hsy, h.es.symm⟩, hsl⟩
 refine ⟨_, rfl, ?_⟩
 unfold doQ
 split
 ·rename_i hk
  subst hk
  rw [pR, KW, pR, iE hok hb, BF]
  split
  ·rename_i hr
   have hlen : (strip Q.es ++ [(⟨Q.L.nx, sd, false⟩ : S41)]).length ≤ 1024 := by
    have h1 := h.hi
    rw [hes, hmo] at hr
    simp only [List.length_append, List.length_singleton, NU]
    omega
   have hput : ∀ l, Back l (ds ++ [byt (P80 ++ sd)]) n → QB l (strip Q.es ++ [(⟨Q.L.nx, sd, false⟩ : S41)]) := fun l hbk => ⟨⟨_, n, hbk, by
    rw [EC hw, yP, ← h.es, ← hw.nx, hnx]⟩, hlen⟩
   split
   ·obtain ⟨R, e, hA⟩ : ∃ R e, bT P.L (P80 ++ sd) = (R, e) := ⟨_, _, rfl⟩
    rw [hA]
    simp only
    split
    ·rename_i he
     subst he
     obtain ⟨g1, g2, _⟩ := uP hw hsy hA ks
     refine ⟨g1, fun _ => ?_, fun g => absurd rfl g⟩
     rw [F7]
     show QB (fA R.l ks) (strip Q.es ++ [⟨(if (0 : Int) = 0 then P.L.nx else 0), sd, false⟩])
     rw [if_pos rfl, hnx]
     exact hput _ (g2 rfl).2.2
    ·rename_i he
     obtain ⟨g1, _, _⟩ := uP hw hsy hA ks
     refine ⟨g1, fun g => absurd g he, fun _ => ?_⟩
     rcases LV hw hsy hA he with ⟨L1, k1, k2, k3⟩ | ⟨k1, k2, k3, k4⟩
     ·exact .inl ⟨⟨ds, n, by rw [k3, uD k2]; exact k1.back k2, h.es.symm⟩, hsl⟩
     ·rcases FX k1 k2 k3 ks with k5 | k5
      ·exact .inl ⟨⟨ds, n, k5, h.es.symm⟩, hsl⟩
      ·refine .inr ⟨?_, k4⟩
       rw [F7]
       exact hput _ k5
   ·exact ⟨hw.right, fun g => (by cases g), fun _ => .inl (stay P.L rfl)⟩
  ·exact ⟨hw.right, fun g => (by cases g), fun _ => .inl (stay P.L rfl)⟩
 split
 ·rename_i hk
  subst hk
  have hl : (iP P).1.L = P.L := by
   rw [iP, iE hok hb, qE]
   split <;> rfl
  refine ⟨by show bI (iP P).1.L.l = true; rw [hl]; exact hw.right, fun _ => ?_, fun _ => .inl (stay _ (by rw [hl]))⟩
  rw [zG (by decide) (by decide)]
  exact stay _ (by rw [hl])
 split
 ·rename_i hk
  subst hk
  have hl : (rG P sq).1.L = P.L := by
   rw [rG, iE hok hb, KU]
   split <;> rfl
  refine ⟨by show bI (rG P sq).1.L.l = true; rw [hl]; exact hw.right, fun _ => ?_, fun _ => .inl (stay _ (by rw [hl]))⟩
  rw [zG (by decide) (by decide)]
  exact stay _ (by rw [hl])
 split
 ·rename_i hk
  subst hk
  rw [pU, iE hok hb, zK]
  split
  ·exact ⟨hw.right, fun g => (by cases g), fun _ => .inl (stay P.L rfl)⟩
  ·rename_i i hi
   rw [hes] at hi
   obtain ⟨x, hx, hxq, _⟩ := yS hi
   have hq := rF h.fr0 h.oks x (List.mem_of_getElem? hx)
   have qjb := h.nx0
   have qdY : ((strip Q.es).filter (fun x => decide (x.f0 ≠ sq))).length ≤ 1024 := Nat.le_trans (List.length_filter_le _ _) hsl
   have hack : dH (bU (ds ++ [byt (kD sq)]) n) = (strip Q.es).filter (fun x => decide (x.f0 ≠ sq)) := by
    rw [EC hw, yQ (q := sq) (NV (by rw [← hxq]; exact hq.1) (by rw [← hxq]; omega)), ← h.es]
   obtain ⟨R, e, hA⟩ : ∃ R e, bT P.L (kD sq) = (R, e) := ⟨_, _, rfl⟩
   rw [hA]
   simp only
   split
   ·rename_i he
    subst he
    obtain ⟨g1, g2, _⟩ := uP hw hsy hA ks
    obtain ⟨w1, s1, _⟩ := g2 rfl
    have hnx1 : Q.L.nx ≤ R.nx := by rw [← hnx, hw.nx, w1.nx]; omega
    have hok2 : tX R.nx Q.L.fr (Q.es.eraseIdx i) := QH hnx1 (BK i h.oks)
    have hfx : uN (Q.es.eraseIdx i) R.nx ≤ R.nx := by
     cases hE : Q.es.eraseIdx i with
     | nil => exact Int.le_refl _
     | cons y r =>
      rw [hE] at hok2
      show y.f0 ≤ _
      have := hok2.2.2.1
      omega
    rw [hes]
    obtain ⟨d0, d1, k3, k4, k5, k6, k7⟩ := qaV w1 s1 hfx ks
    have hE : dH (bU (ds ++ [byt (kD sq)]) n) = strip (Q.es.eraseIdx i) := hack.trans (qF h.oks hx hxq)
    have hE2 : dH (bU d1 (n + d0.length)) = strip (Q.es.eraseIdx i) := by
     rw [k3, rD] at hE
     obtain ⟨X, g1, g2⟩ := uY (bU d1 (n + d0.length)) (bU d0 n)
     rw [g1] at hE
     cases X with
     | nil => exact hE
     | cons y X =>
      exfalso
      obtain ⟨r, hr, hry⟩ := g2 y (List.mem_cons_self ..)
      obtain ⟨j, hj⟩ := List.getElem?_of_mem hr
      have h1 := D5 d0 n j r hj
      have h2 := (List.getElem?_eq_some_iff.1 hj).1
      rw [pK] at h2
      have hy : y ∈ strip (Q.es.eraseIdx i) := by rw [← hE]; exact List.mem_append_left _ (List.mem_cons_self ..)
      obtain ⟨y2, hy2, rfl⟩ := List.mem_map.1 hy
      have h3 := IK (nx' := R.nx) hok2 y2 hy2
      have h4 : r.f0 = y2.f0 := hry
      rcases k4 with k4 | k4
      ·subst k4
       cases hr
      ·omega
    have hqb : QB (fA (kH R (uN (Q.es.eraseIdx i) R.nx)).1.l ks) ((strip Q.es).filter (fun x => decide (x.f0 ≠ sq))) :=
     ⟨⟨_, _, k6, by rw [hE2, qF h.oks hx hxq]⟩, qdY⟩
    rw [zH, zH]
    refine ⟨k5, fun _ => hqb, fun g => .inr ⟨hqb, ?_⟩⟩
    rcases k7 with k7 | k7
    ·exact absurd k7 g
    ·exact k7
   ·rename_i he
    obtain ⟨g1, _, _⟩ := uP hw hsy hA ks
    refine ⟨g1, fun g => absurd g he, fun _ => ?_⟩
    rcases LV hw hsy hA he with ⟨L1, k1, k2, k3⟩ | ⟨k1, k2, k3, k4⟩
    ·exact .inl ⟨⟨ds, n, by rw [k3, uD k2]; exact k1.back k2, h.es.symm⟩, hsl⟩
    ·rcases FX k1 k2 k3 ks with k5 | k5
     ·exact .inl ⟨⟨ds, n, k5, h.es.symm⟩, hsl⟩
     ·refine .inr ⟨?_, k4⟩
      rw [zH]
      exact ⟨⟨_, n, k5, hack⟩, qdY⟩
 ·rename_i h1 h2 h3 h4
  rw [iE hok hb]
  exact ⟨hw.right, fun g => (by cases g), fun _ => .inl (stay P.L rfl)⟩
structure vV (size : Int) (Q : Qu) (want : List ByteArray) (m : Nat) : Prop where
 ex : ∃ ds n, QW Q ds n m
 mo : Q.most = 1024
 sz : Q.L.size = size
 data : Q.es.map (fun x => x.f1) = want
 free : ∀ x ∈ Q.es, x.f2 = false
theorem vV.ord {size : Int} {Q : Qu} {want : List ByteArray} {m : Nat} (h : vV size Q want m) : vU 1024 Q want m := ⟨h.ex, h.mo, h.data, h.free⟩
theorem vV.okr {size : Int} {Q : Qu} {want : List ByteArray} {m : Nat} (h : vV size Q want m) : okR Q := h.ord.okr
theorem qeM {size : Int} (h0 : 1 ≤ size) (h1 : size ≤ 262144) : vV size ⟨L0s size, [], 1024⟩ [] 1 :=
 ⟨⟨[], 1, qeK h0 h1 (by decide) (by decide)⟩, rfl, rfl, rfl, fun x hx => by cases hx⟩
theorem vV.put {size : Int} {Q : Qu} {want : List ByteArray} (s : ByteArray) (h : vV size Q want (want.length + 1)) (hl : want.length ≤ 1024) :
  ∃ Q' e sq, pR Q s = (Q', e) ∧ KW Q s = sq ∧ okR Q' ∧ ((e = 0 ∧ vV size Q' (want ++ [s]) ((want ++ [s]).length + 1)) ∨ e ≠ 0) := by
 obtain ⟨Q', e, sq, h1, h2, h3, h4⟩ := h.ord.put s (by omega)
 refine ⟨Q', e, sq, h1, h2, h3, ?_⟩
 rcases h4 with ⟨h5, h6, _⟩ | ⟨h5, _⟩
 ·refine .inl ⟨h5, h6.ex, h6.mo, ?_, h6.data, h6.free⟩
  obtain ⟨ds, n, hw⟩ := h.ex
  obtain ⟨z1, z2, z3⟩ := UF hw.ok hw.wf.br (by rw [h1]; exact h5)
  obtain ⟨Q2, e1, _, _, _, _, _, e7⟩ := hw.put z1 z2 z3
  rw [h1] at e1
  rw [(Prod.mk.inj e1).1, e7, h.sz]
 ·exact .inr h5
theorem vV.step {size : Int} {Q : Qu} {s : ByteArray} {want : List ByteArray} {m : Nat} (h : vV size Q (s :: want) m) (hm : m + want.length ≤ 4096) :
  ∃ (x : S41) (Ql Qd : Qu), iP Q = (Ql, 0) ∧ jH Q = ⟨x.f0, s, true⟩ ∧ okR Ql ∧ 0 ≤ x.f0 ∧ x.f0 < 18446744073709551616 ∧ okR Qd ∧ ((pU Ql x.f0 = (Qd, 0) ∧ vV size Qd want (m + 1)) ∨ pU Ql x.f0 = (Qd, 8)) := by
 obtain ⟨x, Ql, Qd, h1, h2, h3, h4, h5, h6, h7⟩ := h.ord.step hm
 refine ⟨x, Ql, Qd, h1, h2, h3, h4, h5, h6, ?_⟩
 rcases h7 with ⟨h8, _, h9⟩ | ⟨h8, _⟩
 ·refine .inl ⟨h8, h9.ex, h9.mo, ?_, h9.data, h9.free⟩
  obtain ⟨ds, n, hw⟩ := h.ex
  obtain ⟨_, _, i, y, hi, hy, _, e1, e2⟩ := IL (Q := Q) (by rw [h1])
  obtain ⟨f1, f2, f3⟩ := hw.qdX hi hy
  rw [h1] at e1
  obtain rfl := (Prod.mk.inj e1).1
  obtain ⟨k, hk, ha⟩ := UG f3.ok f3.wf.br (by rw [h8])
  obtain ⟨Q', _, _, g1, _, _, _, g5⟩ := f3.ack hk ha
  rw [h8] at g1
  rw [(Prod.mk.inj g1).1, g5]
  exact h.sz
 ·exact .inr h8
theorem vV.again {size : Int} {Q : Qu} {want : List ByteArray} {m : Nat} (ks : List Int) (h : vV size Q want m) : bI Q.L.l = true ∧ l7 (fA Q.L.l ks) false (-1) (-1) size 1024 = (Q, 0) := by
 obtain ⟨ds, n, hw⟩ := h.ex
 refine ⟨hw.wf.right, ?_⟩
 have ho := hw.wf.opens
 rw [hw.wf.dn, hw.fu, hw.fa, h.sz] at ho
 have hes : dH (bU ds n) = Q.es := by
  rw [← hw.es]
  unfold strip
  conv => rhs; rw [← List.map_id Q.es]
  apply List.map_congr_left
  intro x hx
  have := h.free x hx
  cases x
  simp only at this
  subst this
  rfl
 rw [uD hw.sy, l7, if_pos hw.wf.right, if_neg (by decide), ho]
 simp only
 rw [if_pos trivial, hes, if_neg (by have := hw.len; omega)]
 have hmo := h.mo
 cases Q
 simp only at hmo
 subst hmo
 rfl
theorem vV.len {size : Int} {Q : Qu} {want : List ByteArray} {m : Nat} (h : vV size Q want m) : Q.es.length = want.length := h.ord.len
theorem vV.get {size : Int} {Q : Qu} {want : List ByteArray} {m k : Nat} {x : S41} (h : vV size Q want m) (hx : Q.es[k]? = some x) : want[k]? = some x.f1 := by rw [← h.data, List.getElem?_map, hx]; rfl
end Go.Proofs.U
namespace Go.Proofs.U
open Go.RowKit Go.Proofs.aA.aK Go.Proofs.aA.aW Go.Proofs.aA.aZ
attribute [local go_sem] gV gW iU iV fU fV gZ iC
def iK.l0 : Nat → List Int → Int → Option (List Int)
 | 0, _, _ => none
 | k + 1, x0, x1 => if x1 > 127 then (if x0.length < 140737488355328 then (iK.l0 k (x0 ++ [Go.bits .or .u8 ((x1) % 256) 128]) (x1 / 128)) else (none)) else (if x0.length < 140737488355328 then (some (x0 ++ [(x1) % 256])) else (none))
def iK.f (k : Nat) (l0 : List Int) (a1 : Int) : Option (List Int) := iK.l0 k l0 a1
set_option maxHeartbeats 8000000 in
theorem iK.calls (k : Nat) (P0_ : Nat → Prop) (WX : Value) (l0 : List Int) (a1 : Int) (r : List Int) (w0 w : World) (hB : Below w0.heap.size w0 w) (ho0 : Kd.R (Kd.int .u8) 5 w w0.heap.size P0_ WX l0) (h : iK.f k l0 a1 = some r) :
  Calls Tryz.prog 97 #[WX, .int .u64 a1] w fun e w' => ∃ v0_ : Value, e = .returned (v0_) ∧ Kd.R (Kd.int .u8) 5 w' w0.heap.size (fun k_ => (P0_ k_ ∨ w.heap.size ≤ k_)) v0_ r ∧ Below w0.heap.size w0 w' ∧ Kept w w' (fun k_ => P0_ k_) := by
 have HO0 := aC.mk (show Kd.R (Kd.int .u8) 5 w w0.heap.size (fun k_ => (P0_ k_ ∨ w.heap.size ≤ k_)) WX l0 from Kd.rJ ho0 (fun k_ hk => (.inl hk)))
 have HK := aC.mk (Kept.refl w (fun k_ => P0_ k_))
 have HW0 := aC.mk hB.size
 have HB := aC.mk hB
 clear hB
 have H : (iK.l0 k l0 a1) = some r := h
 clear h
 have H' := aC.mk H
 clear H
 go_enter Tryz.func97, Tryz.ntmps97
 go_wp2
 go_loopg [0, 1] k (fun kq v0 v1 w' => ∃ (QL : List Int) (EF : Int), v1 = .int .u64 EF ∧ aC (iK.l0 kq QL EF = some r) ∧ aC (kq ≤ k) ∧ aC (Kd.R (Kd.int .u8) 5 w' w0.heap.size (fun k_ => (P0_ k_ ∨ w.heap.size ≤ k_)) v0 QL) ∧ aC (Kept w w' (fun k_ => P0_ k_)) ∧ aC (Below w0.heap.size w0 w'))
 case atStart => exact ⟨(l0), (a1), (by first | rfl | (simp; done) | (simp [*]; done)), H', ⟨Nat.le_refl _⟩, ⟨by (with_reducible repeat (first | apply Kd.DF | apply Kd.DI | apply Kd.ES)); exact HO0.out⟩, ⟨by repeat (first | (with_reducible first | exact HK.out | apply Kept.alloc | apply Kept.drewN | apply Kept.drew) | exact HK.out)⟩, ⟨by repeat (first | (with_reducible first | exact HB.out | apply aU | apply aT | apply aY) | exact HB.out)⟩⟩
 case round =>
  clear H'
  try clear p2
  obtain ⟨QL, EF, rfl, HA, HK1, qaW, HK, HB⟩ := hrel
  cases gk with
  | zero => exact absurd HA.out (by simp [iK.l0])
  | succ k1 =>
   have H := HA.out
   clear HA
   simp only [iK.l0] at H
   by_cases c3 : EF > 127
   ·rw [if_pos c3] at H
    have KP : decide (127 < EF) = true := decide_eq_true c3
    clear c3
    by_cases c4 : QL.length < 140737488355328
    ·rw [if_pos c4] at H
     have qio := aC.mk c4
     clear c4
     obtain ⟨qfB, UH⟩ : ∃ y_ : List Int, y_ = (QL ++ [Go.bits .or .u8 ((EF) % 256) 128]) := ⟨_, rfl⟩
     replace H : (iK.l0 k1 qfB (EF / 128)) = some r := by first | (rw [UH]; with_reducible exact H) | (have H2_ := (Option.bind_some _ _).symm.trans H; rw [UH]; with_reducible exact H2_) | (have H2_ := (Option.bind_some _ _).symm.trans H; with_reducible exact H2_) | with_reducible exact H | (rw [UH]; exact H) | exact H
     have qfC := aC.mk UH
     clear UH
     have H' := aC.mk H
     clear H
     go_wp2_with (first | ((with_reducible refine iF (b := .append) (xs := #[.tmp 7, .tmp 11]) rfl ?_); at_builtin; refine Kd.JG (Kd.int .u8) (w0 := w0) w0.heap.size rfl (.tmp 7) (.tmp 11) 147 5 (.int .u8 0) 1 rfl Tryz.underlying147 info5 rfl (by decide) (by omega) u0 QL (Go.bits .or .u8 ((EF) % 256) 128) [.int .u8 (Go.bits .or .u8 ((EF) % 256) 128)] (fun k_ => (P0_ k_ ∨ w.heap.size ≤ k_)) (fun _ => False) rfl rfl ?aP (fun _ hk => hk.elim) ?aF ?aO ?aB ?aS ?aL ?_; (case aP => exact rfl); (case aB => exact (by repeat (first | (with_reducible first | exact HB.out | apply aU | apply aT | apply aY) | exact HB.out))); (case aF => exact (fun k_ hk => (.inr (Nat.le_trans (by first | exact HK.out.1 | exact (show Kept w _ (fun k_ => P0_ k_) from by repeat (first | (with_reducible first | exact HK.out | apply Kept.alloc | apply Kept.drewN | apply Kept.drew) | exact HK.out)).1) hk)))); (case aO => exact (by (with_reducible repeat (first | apply Kd.DF | apply Kd.DI | apply Kd.ES)); exact qaW.out)); (case aS => exact (dU (by repeat (first | (with_reducible first | exact HB.out | apply aU | apply aT | apply aY) | exact HB.out)))); (case aL => have := qio.out; omega); intro qjc w5 ho hb hg hat; rw [← qfC.out] at ho; have n0_ := aC.mk (hb); have n1_ := aC.mk (Kept.sU (S := (fun k_ => P0_ k_)) hg (by repeat (first | (with_reducible first | exact HK.out | apply Kept.alloc | apply Kept.drewN | apply Kept.drew) | exact HK.out)) (fun k_ e_ => (qaW.out.1 k_ e_))); have n2_ := aC.mk (ho); clear HB; clear HK; clear qaW; have HB := n0_; have HK := n1_; have qfD := n2_; clear n0_ n1_ n2_; clear ho hb hg hat))
     go_roundg k1
     case measure => have := HK1.out; omega
     case rel => exact ⟨(qfB), (EF / 128), (by first | rfl | (simp; done) | (simp [*]; done)), H', ⟨by have := HK1.out; omega⟩, ⟨by (with_reducible repeat (first | apply Kd.DF | apply Kd.DI | apply Kd.ES)); exact qfD.out⟩, ⟨by repeat (first | (with_reducible first | exact HK.out | apply Kept.alloc | apply Kept.drewN | apply Kept.drew) | exact HK.out)⟩, ⟨by repeat (first | (with_reducible first | exact HB.out | apply aU | apply aT | apply aY) | exact HB.out)⟩⟩
    ·rw [if_neg c4] at H
     exact absurd H (by simp)
   ·rw [if_neg c3] at H
    have KP : decide (127 < EF) = false := decide_eq_false c3
    clear c3
    by_cases c6 : QL.length < 140737488355328
    ·rw [if_pos c6] at H
     have qip := aC.mk c6
     clear c6
     obtain ⟨qiq, UJ⟩ : ∃ y_ : List Int, y_ = (QL ++ [(EF) % 256]) := ⟨_, rfl⟩
     replace H : (some qiq) = some r := by first | (rw [UJ]; with_reducible exact H) | (have H2_ := (Option.bind_some _ _).symm.trans H; rw [UJ]; with_reducible exact H2_) | (have H2_ := (Option.bind_some _ _).symm.trans H; with_reducible exact H2_) | with_reducible exact H | (rw [UJ]; exact H) | exact H
     have qfE := aC.mk UJ
     clear UJ
     obtain rfl := Option.some.inj H
     go_wp2_with (first | ((with_reducible refine iF (b := .append) (xs := #[.tmp 15, .tmp 18]) rfl ?_); at_builtin; refine Kd.JG (Kd.int .u8) (w0 := w0) w0.heap.size rfl (.tmp 15) (.tmp 18) 147 5 (.int .u8 0) 1 rfl Tryz.underlying147 info5 rfl (by decide) (by omega) u0 QL ((EF) % 256) [.int .u8 ((EF) % 256)] (fun k_ => (P0_ k_ ∨ w.heap.size ≤ k_)) (fun _ => False) rfl rfl ?aP (fun _ hk => hk.elim) ?aF ?aO ?aB ?aS ?aL ?_; (case aP => exact rfl); (case aB => exact (by repeat (first | (with_reducible first | exact HB.out | apply aU | apply aT | apply aY) | exact HB.out))); (case aF => exact (fun k_ hk => (.inr (Nat.le_trans (by first | exact HK.out.1 | exact (show Kept w _ (fun k_ => P0_ k_) from by repeat (first | (with_reducible first | exact HK.out | apply Kept.alloc | apply Kept.drewN | apply Kept.drew) | exact HK.out)).1) hk)))); (case aO => exact (by (with_reducible repeat (first | apply Kd.DF | apply Kd.DI | apply Kd.ES)); exact qaW.out)); (case aS => exact (dU (by repeat (first | (with_reducible first | exact HB.out | apply aU | apply aT | apply aY) | exact HB.out)))); (case aL => have := qip.out; omega); intro qjd w7 ho hb hg hat; rw [← qfE.out] at ho; have n0_ := aC.mk (hb); have n1_ := aC.mk (Kept.sU (S := (fun k_ => P0_ k_)) hg (by repeat (first | (with_reducible first | exact HK.out | apply Kept.alloc | apply Kept.drewN | apply Kept.drew) | exact HK.out)) (fun k_ e_ => (qaW.out.1 k_ e_))); have n2_ := aC.mk (ho); clear HB; clear HK; clear qaW; have HB := n0_; have HK := n1_; have qfF := n2_; clear n0_ n1_ n2_; clear ho hb hg hat))
     go_ret
     exact ⟨_, by first | rfl | (simp [eG, eH] <;> rfl) | (simp [*, eG, eH] <;> rfl), by (with_reducible repeat (first | apply Kd.DF | apply Kd.DI | apply Kd.ES)); exact qfF.out, by repeat (first | (with_reducible first | exact HB.out | apply aU | apply aT | apply aY) | exact HB.out), by repeat (first | (with_reducible first | exact HK.out | apply Kept.alloc | apply Kept.drewN | apply Kept.drew) | exact HK.out)⟩
    ·rw [if_neg c6] at H
     exact absurd H (by simp)
end Go.Proofs.U
namespace Go.Proofs.U
open Go.RowKit Go.Proofs.aA.aK Go.Proofs.aA.aW Go.Proofs.aA.aZ
attribute [local go_sem] gV gW iU iV fU fV gZ iC
def vW.f (k : Nat) (a0 : Int) : Option (ByteArray) := (iK.f k ([] : List Int) a0).bind fun qaX => (some (strOfNums qaX))
set_option maxHeartbeats 8000000 in
theorem vW.calls (k : Nat) (a0 : Int) (r : ByteArray) (w : World) (h : vW.f k a0 = some r) :
  Calls Tryz.prog 48 #[.int .u64 a0] w fun e w' => e = .returned (.string r) ∧ Below w.heap.size w w' := by
 have HB := aC.mk (Below.refl w.heap.size w)
 have H : ((iK.f k ([] : List Int) a0).bind fun qaX => (some (strOfNums qaX))) = some r := h
 clear h
 replace H := Option.bind_eq_some_iff.mp H
 obtain ⟨qaX, A20, H⟩ := H
 replace H : (some (strOfNums qaX)) = some r := H
 have A2 := aC.mk A20
 clear A20
 obtain rfl := Option.some.inj H
 go_enter Tryz.func48, Tryz.ntmps48
 go_wp2_with (first | ((with_reducible refine iT (f := 97) rfl ?_); refine rO (some 4) rfl rfl Tryz.func97 (by kernel_rfl) rfl #[.slice none 0 0, .int .u64 a0] rfl (by (try simp only [List.map_toArray, List.map_cons, List.map_nil]); first | done | rfl | (simp only [List.length_drop, List.length_take]; rfl)) ?_; (refine (iK.calls k (fun k_ => some k_ = (.slice none 0 0 : Value).ownBlock) (.slice none 0 0) ([] : List Int) a0 qaX w _ ?qB ?qC A2.out).mono ?_); (case qB => repeat (first | (with_reducible first | exact HB.out | apply aU | apply aT | apply aY) | exact HB.out)); (case qC => exact Kd.xI _ _ _ _ _); rintro e w3 ⟨qje, rfl, ho0, hb, hkp⟩; refine ⟨_, rfl, ?_⟩; have n0_ := aC.mk (Kd.rJ (ok' := fun k_ => True) ho0 (fun k_ hk_ => trivial)); have n1_ := aC.mk (hb); clear HB; have qfG := n0_; have HB := n1_; clear n0_ n1_; (try clear hb); (try clear hkp); (try clear ho0); have qjf := UM (P := Tryz.prog) Tryz.underlying147 Tryz.underlying5 Tryz.underlying9 (Kd.qU qfG.out)))
 go_ret
 exact ⟨by first | rfl | (simp [eG, eH] <;> rfl) | (simp [*, eG, eH] <;> rfl), by repeat (first | (with_reducible first | exact HB.out | apply aU | apply aT | apply aY) | exact HB.out)⟩
end Go.Proofs.U
namespace Go.Proofs.U
open Go.RowKit Go.Proofs.aA.aK Go.Proofs.aA.aW Go.Proofs.aA.aZ
attribute [local go_sem] gV gW iU iV fU fV gZ iC
def vX.f (a0 : Int) : Option (Int) := some (Go.bits .xor .u64 (IntKind.u64.wrap ((IntKind.u64.wrap (a0)) * 2)) (IntKind.u64.wrap (a0 / 9223372036854775808)))
set_option maxHeartbeats 8000000 in
theorem vX.calls (a0 : Int) (r : Int) (w : World) (h : vX.f a0 = some r) :
  Calls Tryz.prog 49 #[.int .i64 a0] w fun e w' => e = .returned (.int .u64 r) ∧ iH w w' := by
 have H : (some (Go.bits .xor .u64 (IntKind.u64.wrap ((IntKind.u64.wrap (a0)) * 2)) (IntKind.u64.wrap (a0 / 9223372036854775808)))) = some r := h
 clear h
 obtain rfl := Option.some.inj H
 go_enter Tryz.func49, Tryz.ntmps49
 go_wp2
 go_ret
 exact ⟨by first | rfl | (simp; done) | (simp [*]; done), by repeat (first | exact iH.refl _ | apply iH.step)⟩
end Go.Proofs.U
namespace Go.Proofs.U
open Go.RowKit Go.Proofs.aA.aK Go.Proofs.aA.aW Go.Proofs.aA.aZ
attribute [local go_sem] gV gW iU iV fU fV gZ iC
def o9.f (k : Nat)  : Option (Bool) := (vW.f k 300).bind fun I7 => (if I7.toList = ([172, 2] : List UInt8) then ((vX.f (-1)).bind fun UK => (some (UK == 1))) else (some false))
set_option maxHeartbeats 8000000 in
theorem o9.calls (k : Nat)  (r : Bool) (w : World) (h : o9.f k  = some r) :
  Calls Tryz.prog 17 #[] w fun e w' => e = .returned (.bool r) ∧ Below w.heap.size w w' := by
 have HB := aC.mk (Below.refl w.heap.size w)
 have H : ((vW.f k 300).bind fun I7 => (if I7.toList = ([172, 2] : List UInt8) then ((vX.f (-1)).bind fun UK => (some (UK == 1))) else (some false))) = some r := h
 clear h
 replace H := Option.bind_eq_some_iff.mp H
 obtain ⟨I7, A10, H⟩ := H
 replace H : (if I7.toList = ([172, 2] : List UInt8) then ((vX.f (-1)).bind fun UK => (some (UK == 1))) else (some false)) = some r := H
 have A1 := aC.mk A10
 clear A10
 by_cases c2 : I7.toList = ([172, 2] : List UInt8)
 ·rw [if_pos c2] at H
  have qir : (I7.toList == ([172, 2] : List UInt8)) = true := beq_iff_eq.mpr c2
  have qis : (I7.toList != ([172, 2] : List UInt8)) = false := bne_eq_false_iff_eq.mpr c2
  clear c2
  replace H := Option.bind_eq_some_iff.mp H
  obtain ⟨UK, A30, H⟩ := H
  replace H : (some (UK == 1)) = some r := H
  have A3 := aC.mk A30
  clear A30
  obtain rfl := Option.some.inj H
  go_enter Tryz.func17, Tryz.ntmps17
  go_wp2_with (first | ((with_reducible refine iT (f := 48) rfl ?_); refine rO (some 1) rfl rfl Tryz.func48 (by kernel_rfl) rfl #[.int .u64 300] rfl (by (try simp only [List.map_toArray, List.map_cons, List.map_nil]); first | done | rfl | (simp only [List.length_drop, List.length_take]; rfl)) ?_; (with_reducible refine (vW.calls k 300 I7 _ A1.out).mono ?_); rintro e w4 ⟨rfl, hb⟩; refine ⟨_, rfl, ?_⟩; have n0_ := aC.mk (bD (by repeat (first | (with_reducible first | exact HB.out | apply aU | apply aT | apply aY) | exact HB.out)) hb); clear HB; have HB := n0_; clear n0_; (try clear hb); (try clear hb2); (try clear hk); (try clear hi)) | (go_at_call 49; (with_reducible refine (vX.calls (-1) UK _ A3.out).mono ?_); rintro e w' ⟨rfl, ⟨nd, rfl⟩⟩))
  go_ret
  exact ⟨by first | rfl | (simp [eG, eH] <;> rfl) | (simp [*, eG, eH] <;> rfl), by repeat (first | (with_reducible first | exact HB.out | apply aU | apply aT | apply aY) | exact HB.out)⟩
 ·rw [if_neg c2] at H
  have qir : (I7.toList == ([172, 2] : List UInt8)) = false := beq_eq_false_iff_ne.mpr c2
  have qis : (I7.toList != ([172, 2] : List UInt8)) = true := bne_iff_ne.mpr c2
  obtain rfl := Option.some.inj H
  go_enter Tryz.func17, Tryz.ntmps17
  go_wp2_with (first | ((with_reducible refine iT (f := 48) rfl ?_); refine rO (some 1) rfl rfl Tryz.func48 (by kernel_rfl) rfl #[.int .u64 300] rfl (by (try simp only [List.map_toArray, List.map_cons, List.map_nil]); first | done | rfl | (simp only [List.length_drop, List.length_take]; rfl)) ?_; (with_reducible refine (vW.calls k 300 I7 _ A1.out).mono ?_); rintro e w5 ⟨rfl, hb⟩; refine ⟨_, rfl, ?_⟩; have n0_ := aC.mk (bD (by repeat (first | (with_reducible first | exact HB.out | apply aU | apply aT | apply aY) | exact HB.out)) hb); clear HB; have HB := n0_; clear n0_; (try clear hb); (try clear hb2); (try clear hk); (try clear hi)))
  go_ret
  exact ⟨by first | rfl | (simp [eG, eH] <;> rfl) | (simp [*, eG, eH] <;> rfl), by repeat (first | (with_reducible first | exact HB.out | apply aU | apply aT | apply aY) | exact HB.out)⟩
end Go.Proofs.U
namespace Go.Proofs.U
open Go.RowKit Go.Proofs.aA.aK Go.Proofs.aA.aW Go.Proofs.aA.aZ
attribute [local go_sem] gV gW iU iV fU fV gZ iC
def qG.f  : Option ((List (S67)) × Bool × Int × Int) := some (([] : List (S67)), false, (-1), (-1))
set_option maxHeartbeats 8000000 in
theorem qG.calls  (r1 : List (S67)) (r2 : Bool) (r3 : Int) (r4 : Int) (w : World) (h : qG.f  = some (r1, r2, r3, r4)) :
  Calls Tryz.prog 19 #[] w fun e w' => ∃ v0_ : Value, e = .returned (.agg #[v0_, .bool r2, .int .i64 r3, .int .i64 r4]) ∧ Kd.R k67 67 w' w.heap.size (fun _ => True) v0_ r1 ∧ Below w.heap.size w w' := by
 have qhZ := Tryz.underlying27
 have HB := aC.mk (Below.refl w.heap.size w)
 have H : (some (([] : List (S67)), false, (-1), (-1))) = some (r1, r2, r3, r4) := h
 clear h
 simp only [Option.some.injEq, Prod.mk.injEq] at H
 obtain ⟨rfl, rfl, rfl, rfl⟩ := H
 go_enter Tryz.func19, Tryz.ntmps19
 go_wp2_with (first | ((with_reducible refine aV (N := 0) rfl ?_); refine dL ?hg (N := 0) ?hd (cs := #[.slice none 0 0, .bool false, .int .i64 0, .int .i64 0]) (t := 27) ?hr ?_; (case hd => rfl); (case hg => rfl); (case hr => first | (go_simp; done) | (go_simp; rfl)); intro LX hg w1 hbox hb; have n0_ := aC.mk (bD (by repeat (first | (with_reducible first | exact HB.out | apply aU | apply aT | apply aY) | exact HB.out)) hb); have n1_ := aC.mk (hbox); have n2_ := aC.mk ((by rw [hg]; exact (dU (by repeat (first | (with_reducible first | exact HB.out | apply aU | apply aT | apply aY) | exact HB.out))) : w.heap.size ≤ LX)); have n3_ := aC.mk ((by rw [hg]; exact (dU (by repeat (first | (with_reducible first | exact HB.out | apply aU | apply aT | apply aY) | exact HB.out))) : w.heap.size ≤ LX)); clear HB; have HB := n0_; have EG := n1_; have qiS := n2_; have qfH := n3_; clear n0_ n1_ n2_ n3_; clear hb hbox hg; have qit : w1.cell? ⟨LX, 0, none⟩ = some (.slice none 0 0) := (aH EG.out 0).trans rfl; have qiu : w1.cell? ⟨LX, 1, none⟩ = some (.bool false) := (aH EG.out 1).trans rfl; have qiv : w1.cell? ⟨LX, 2, none⟩ = some (.int .i64 0) := (aH EG.out 2).trans rfl; have qiw : w1.cell? ⟨LX, 3, none⟩ = some (.int .i64 0) := (aH EG.out 3).trans rfl; have qix := aG EG.out 0; have qiy := aG EG.out 1; have qiz := aG EG.out 2; have qiA := aG EG.out 3))
 refine bodyPost_ret (results_cell_row rfl _ _ LX 27 #[.slice none 0 0, .bool false, .int .i64 (-1), .int .i64 (-1)] (0, 0) _ rfl (by (with_reducible repeat (first | refine bZ ?_ _ | refine bQ ?_ | refine bG ?_ _)); refine gI (cs := #[.slice none 0 0, .bool false, .int .i64 (-1), .int .i64 0]) ?_ 3 _ rfl; (with_reducible repeat (first | refine bZ ?_ _ | refine bQ ?_ | refine bG ?_ _)); refine gI (cs := #[.slice none 0 0, .bool false, .int .i64 0, .int .i64 0]) ?_ 2 _ rfl; (with_reducible repeat (first | refine bZ ?_ _ | refine bQ ?_ | refine bG ?_ _)); refine gI (cs := #[.slice none 0 0, .bool false, .int .i64 0, .int .i64 0]) ?_ 1 _ rfl; (with_reducible repeat (first | refine bZ ?_ _ | refine bQ ?_ | refine bG ?_ _)); refine gI (cs := #[.slice none 0 0, .bool false, .int .i64 0, .int .i64 0]) ?_ 0 _ rfl; (with_reducible repeat (first | refine bZ ?_ _ | refine bQ ?_ | refine bG ?_ _)); exact EG.out) Tryz.underlying27 rfl (by kernel_rfl)) rfl ?_
 exact ⟨_, by first | rfl | (simp [eG, eH] <;> rfl) | (simp [*, eG, eH] <;> rfl), by first | exact Kd.xI _ _ _ _ _ | exact Kd.qeV _ _ _ _ _ | exact Kd.qeW _ _ _ _ _ | exact Kd.qeP _ _ _ _ _ | exact Kd.qeT _ _ _ _ _, by repeat (first | (with_reducible first | exact HB.out | apply aU | apply aT | apply aY | refine bK ?_ qfH.out) | exact HB.out)⟩
end Go.Proofs.U
