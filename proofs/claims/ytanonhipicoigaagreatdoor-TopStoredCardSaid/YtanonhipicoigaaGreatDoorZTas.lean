import Derived.Test.YtanonhipicoigaaGreatDoorZTar
import Derived.Test.YtanonhipicoigaaGreatDoorZTai
import Derived.Test.YtanonhipicoigaaGreatDoorZTap
import Derived.Test.YtanonhipicoigaaGreatDoorZTag
set_option linter.unusedVariables false
set_option linter.unusedSimpArgs false
set_option maxRecDepth 100000
namespace Go.Proofs.U
open Go.RowKit Go.Proofs.aA.aK Go.Proofs.aA.aW Go.Proofs.aA.aZ Go.Proofs.Sp Go.Proofs.dZ
def fuN (fu : Int) : Int := if 0 < fu then wrap64 (fu - 1) else fu
theorem IG {l : List S67} {fu : Int} {s : ByteArray} (h : bI l = true) (hi : kG l s (bsOf l s) = true) :
  fE l false fu (-1) s = if fu = 0 then (l, true, fu, -1, 17) else (l.take (bsOf l s) ++ l.drop (bsOf l s + 1), false, fuN fu, -1, 0) := by
 simp [fE, bW, h, hi, fuN]
theorem qco {l : List S67} {fu : Int} {s : ByteArray} {x : S67} {e : Nat} (h : bI l = true) (hi : kG l s (bsOf l s) = true) (hx : l[bsOf l s]? = some x) (he : e ≤ x.f1.size) :
  DU l false fu (-1) s (e : Int) = if fu = 0 then (l, true, fu, -1, 17) else (l.set (bsOf l s) ⟨x.f0, x.f1.extract 0 e, (e : Int)⟩, false, fuN fu, -1, 0) := by
 have hrf : rfT (e : Int) l (bsOf l s : Int) (kG l s (bsOf l s)) = 0 := by
  rw [rfT, hi, if_pos rfl, iM hx, if_neg (by omega)]
 rw [DU]
 simp [bW, h, hrf, fuN, iM hx]
def rmL : List S67 → List Pl → List S67
 | l, [] => l
 | l, p :: r => rmL (l.take (bsOf l p.1.f0) ++ l.drop (bsOf l p.1.f0 + 1)) r
theorem NM : ∀ (g : List Pl) (l : List S67), bI l = true → bI (rmL l g) = true
 | [], l, h => h
 | p :: g, l, h => NM g _ (sK h _)
theorem LK : ∀ (g : List Pl) (l : List S67) (front : List Pl), bI l = true → aN l = front ++ g.reverse → aN (rmL l g) = front
 | [], l, front, h, hp => by
  rw [List.reverse_nil, List.append_nil] at hp
  exact hp
 | p :: g, l, front, h, hp => by
  have hp' : aN l = (front ++ g.reverse) ++ p :: [] := by rw [hp]; simp
  exact LK g _ front (sK h _) (by rw [oU h hp']; simp)
theorem ZN : ∀ (gs : List Pl) (L : Lg) (front : List Pl), aN L.l = front ++ gs.reverse → bI L.l = true → L.dn = false → L.fa = -1 →
  (∃ fu', lZ L gs = (⟨rmL L.l gs, false, fu', -1, L.size, L.fr, L.nx, L.br⟩, 0) ∧ (L.fu = -1 → fu' = -1)) ∨
  (L.fu ≠ -1 ∧ ∃ g1 g2 R, gs = g1 ++ g2 ∧ lZ L gs = (R, 17) ∧ R.l = rmL L.l g1 ∧ R.br = true)
 | [], ⟨l, dn, fu, fa, size, fr, nx, br⟩, front, hp, hr, hd, ha => by
  simp only at hd ha
  subst hd ha
  exact .inl ⟨fu, rfl, fun h => h⟩
 | p :: gs, ⟨l, dn, fu, fa, size, fr, nx, br⟩, front, hp, hr, hd, ha => by
  simp only at hd ha hp hr
  subst hd ha
  have hp' : aN l = (front ++ gs.reverse) ++ p :: [] := by rw [hp]; simp
  obtain ⟨g1, g2, _⟩ := iZ hr hp'
  have hc := IG (fu := fu) hr g2
  by_cases hf : fu = 0
  ·subst hf
   rw [if_pos rfl] at hc
   refine .inr ⟨by show (0 : Int) ≠ -1; decide, [], p :: gs, chg ⟨l, false, 0, -1, size, fr, nx, br⟩ (l, true, 0, -1, 17), rfl, ?_, rfl, rfl⟩
   rw [lZ]
   simp only [hc]
   rfl
  ·rw [if_neg hf] at hc
   have hstep : lZ ⟨l, false, fu, -1, size, fr, nx, br⟩ (p :: gs) = lZ ⟨l.take (bsOf l p.1.f0) ++ l.drop (bsOf l p.1.f0 + 1), false, fuN fu, -1, size, fr, nx, br⟩ gs := by
    rw [lZ]
    simp only [hc]
    rfl
   have hp2 := oU hr hp'
   rw [List.append_nil] at hp2
   rcases ZN gs ⟨l.take (bsOf l p.1.f0) ++ l.drop (bsOf l p.1.f0 + 1), false, fuN fu, -1, size, fr, nx, br⟩ front hp2 (sK hr _) rfl rfl with ⟨fu', h1, h2⟩ | ⟨h0, a, b, R, h1, h2, h3, h4⟩
   ·exact .inl ⟨fu', by rw [hstep, h1]; rfl, fun e => h2 (by show fuN fu = -1; rw [show fu = -1 from e]; decide)⟩
   ·exact .inr ⟨fun e => h0 (by show fuN fu = -1; rw [show fu = -1 from e]; decide), p :: a, b, R, by rw [h1]; rfl, by rw [hstep, h2], h3, h4⟩
theorem find_spec (l : List S67) : ∃ front, aN l = front ++ (findF l).gone ∧ (front = [] → (findF l).gone = []) ∧ ((findF l).rC = none ∨ ∃ a p e, (findF l).rC = some (p, e) ∧ front = a ++ [p] ∧ e < p.1.f1.size) := by
 obtain ⟨kept, ds, m, hc, hh⟩ := xZ SU (aN l) (dP (aN l))
 have e : findF l = goF SU (aN l) (dP (aN l)) := rfl
 rw [← e] at hh
 rcases hh with ⟨a1, a2, a3, a4, a5⟩ | ⟨p, e, dt, a1, a2, a3, a4, a5, a6, a7⟩
 ·refine ⟨kept, a2, fun hk => ?_, .inl a1⟩
  subst hk
  obtain ⟨_, rfl⟩ := hc
  cases hg : (findF l).gone with
  | nil => rfl
  | cons p r =>
   exact absurd (by rw [a2, hg]; rfl) (a5 p r hg)
 ·refine ⟨kept ++ [p], by rw [a2]; simp, fun hk => by simp at hk, .inr ⟨kept, p, e, a1, rfl, a5⟩⟩
noncomputable def WI (l : List S67) : List S67 := match (findF l).rC with
 | none => rmL l (findF l).gone.reverse
 | some x => (rmL l (findF l).gone.reverse).set (bsOf (rmL l (findF l).gone.reverse) x.1.1.f0) ⟨x.1.1.f0, x.1.1.f1.extract 0 x.2, (x.2 : Int)⟩
theorem qaL {l : List S67} {size : Int} (fu : Int) (hr : bI l = true) (h0 : 1 ≤ size) (h1 : size ≤ 262144) :
  (∃ fu', jG l false fu (-1) size = (⟨WI l, false, fu', -1, size, (dP (aN l) : Int), ((findF l).next : Int), false⟩, bU (findF l).recs (dP (aN l)), 0) ∧ (fu = -1 → fu' = -1)) ∨
  (fu ≠ -1 ∧ ∃ g1 g2 R, (findF l).gone.reverse = g1 ++ g2 ∧ jG l false fu (-1) size = (R, [], 17) ∧ R.l = rmL l g1 ∧ R.br = true) := by
 obtain ⟨front, hf, _, ht⟩ := find_spec l
 have hopen : jG l false fu (-1) size = ((iO ⟨l, false, fu, -1, size, 0, 0, false⟩ (findF l) (dP (aN l))).1, if (iO ⟨l, false, fu, -1, size, 0, 0, false⟩ (findF l) (dP (aN l))).2 = 0 then bU (findF l).recs (dP (aN l)) else [],
   (iO ⟨l, false, fu, -1, size, 0, 0, false⟩ (findF l) (dP (aN l))).2) := by
  rw [jG, if_pos hr, if_neg (by omega), if_neg (by simp)]
 rw [hopen]
 rcases ZN (findF l).gone.reverse ⟨l, false, fu, -1, size, 0, 0, false⟩ front (by rw [List.reverse_reverse]; exact hf) hr rfl rfl with ⟨fu', e1, e2⟩ | ⟨e0, g1, g2, R, e1, e2, e3, e4⟩
 ·simp only at e1 e2
  rcases ht with ht | ⟨a, p, e, ht, hfr, he⟩
  ·have hD : iO ⟨l, false, fu, -1, size, 0, 0, false⟩ (findF l) (dP (aN l)) = (⟨WI l, false, fu', -1, size, (dP (aN l) : Int), ((findF l).next : Int), false⟩, 0) := by
    rw [iO, e1, ht, WI, ht]
    simp [oV]
   rw [hD]
   exact .inl ⟨fu', by rw [if_pos rfl], e2⟩
  ·have hpl : aN (rmL l (findF l).gone.reverse) = a ++ p :: [] := by
    rw [LK _ l front hr (by rw [List.reverse_reverse]; exact hf), hfr]
   have hr2 := NM (findF l).gone.reverse l hr
   obtain ⟨k1, k2, _⟩ := iZ hr2 hpl
   have hc := qco (fu := fu') (e := e) hr2 k2 k1 (by omega)
   by_cases hz : fu' = 0
   ·have hD : iO ⟨l, false, fu, -1, size, 0, 0, false⟩ (findF l) (dP (aN l)) = (⟨rmL l (findF l).gone.reverse, true, fu', -1, size, 0, 0, true⟩, 17) := by
     rw [iO, e1, ht]
     rw [if_pos hz] at hc
     simp only [oV, hc, chg, if_true]
     rw [if_neg (by decide)]
     rfl
    rw [hD]
    exact .inr ⟨fun h => by have := e2 h; omega, (findF l).gone.reverse, [], _, by simp, by rw [if_neg (by simp)], rfl, rfl⟩
   ·have hD : iO ⟨l, false, fu, -1, size, 0, 0, false⟩ (findF l) (dP (aN l)) = (⟨WI l, false, fuN fu', -1, size, (dP (aN l) : Int), ((findF l).next : Int), false⟩, 0) := by
     rw [iO, e1, ht]
     rw [if_neg hz] at hc
     simp only [oV, hc, chg, if_true]
     rw [WI, ht]
    rw [hD]
    exact .inl ⟨fuN fu', by rw [if_pos rfl], fun h => by rw [e2 h]; decide⟩
 ·have hD : iO ⟨l, false, fu, -1, size, 0, 0, false⟩ (findF l) (dP (aN l)) = (R, 17) := by
   rw [iO, e2, if_neg (by simp)]
  rw [hD]
  exact .inr ⟨e0, g1, g2, R, e1, by rw [if_neg (by simp)], e3, e4⟩
theorem NP {l : List S67} {size : Int} (hr : bI l = true) (h0 : 1 ≤ size) (h1 : size ≤ 262144) :
  jG l false (-1) (-1) size = (⟨WI l, false, -1, -1, size, (dP (aN l) : Int), ((findF l).next : Int), false⟩, bU (findF l).recs (dP (aN l)), 0) := by
 rcases qaL (-1) hr h0 h1 with ⟨fu', h, h2⟩ | ⟨h, _⟩
 ·rw [h, h2 rfl]
 ·exact absurd rfl h
theorem TQ : ∀ (a b : List Bytes) (n : Nat), bU a n = bU b n → a = b
 | [], [], _, _ => rfl
 | [], d :: b, n, h => by simp [bU] at h
 | d :: a, [], n, h => by simp [bU] at h
 | d :: a, e :: b, n, h => by
  simp only [bU, List.cons.injEq, S62.mk.injEq, true_and] at h
  have hd := congrArg byt h.1
  rw [qK, qK] at hd
  rw [hd, TQ a b _ h.2]
theorem QF {l : List S67} {size : Int} (hr : bI l = true) (h0 : 1 ≤ size) (h1 : size ≤ 262144) :
  WF ⟨WI l, false, -1, -1, size, (dP (aN l) : Int), ((findF l).next : Int), false⟩ (findF l).recs (dP (aN l)) (findF l).next := by
 obtain ⟨ds, n, m, hw, hrs, _⟩ := KZ (NP hr h0 h1)
 have h2 : dP (aN l) = n := by have := hw.fr; simp only at this; omega
 have h3 : (findF l).next = m := by have := hw.nx; simp only at this; omega
 rw [h2] at hrs
 rw [TQ _ _ _ hrs, h3]
 rw [h2, h3] at hw
 rw [h2]
 exact hw
def Sy (l : List S67) : Prop := ∀ x ∈ l, (x.f1.size : Int) = x.f2
theorem uD {l : List S67} (h : Sy l) (ks : List Int) : fA l ks = l := by
 apply List.ext_getElem?
 intro i
 cases e : l[i]? with
 | none => rw [List.getElem?_eq_none (by rw [jB]; exact List.getElem?_eq_none_iff.1 e)]
 | some x => rw [AQ e, IC (h x (List.mem_of_getElem? e))]
theorem qcp {l : List S67} (h : bI l = true) (ks : List Int) : Sy (fA l ks) := by
 intro y hy
 obtain ⟨i, x, hx, rfl⟩ := NI hy
 exact (NH (((iR l).1 h).2.1 x (List.mem_of_getElem? hx)) _).2
theorem uF {l : List S67} {dn : Bool} {fu fa : Int} {s : ByteArray} {wr : Bool} {rf : Int → Bool → Int} {df : Int → List S67} (hr : bI l = true) (h : (bW l dn fu fa s wr rf df).2.2.2.2 ≠ 0) :
  (bW l dn fu fa s wr rf df).1 = l ∨ (wr = true ∧ rf (bsOf l s) (kG l s (bsOf l s)) = 0 ∧ (bW l dn fu fa s wr rf df).1 = df (bsOf l s)) := by
 unfold bW at h ⊢
 rw [if_pos hr] at h ⊢
 split
 ·exact .inl rfl
 ·split
  ·rename_i hrf
   split
   ·exact .inl rfl
   ·split
    ·cases wr
     ·exact .inl rfl
     ·exact .inr ⟨rfl, hrf, rfl⟩
    ·rename_i h1 h2 h3
     rw [if_neg (by assumption), if_pos hrf, if_neg h2, if_neg h3] at h
     exact absurd rfl h
  ·exact .inl rfl
structure Wet (l : List S67) (ds : List Bytes) (n m : Nat) (d : ByteArray) : Prop where
 right : bI l = true
 ex : ∃ (a : List Pl) (p : Pl) (t : ByteArray), aN l = a ++ [((⟨p.1.f0, p.1.f1 ++ t, p.1.f2⟩ : S67), p.2)] ∧ chain SU n (a ++ [p]) ds m ∧ dP (a ++ [p]) = n ∧ (p.1.f1.size : Int) = p.1.f2 ∧ byt t = frame SU m (byt d) ∧ ∀ x ∈ l, x.f0.toList ≠ p.1.f0.toList → (x.f1.size : Int) = x.f2
structure Back (l : List S67) (es : List Bytes) (n : Nat) : Prop where
 right : bI l = true
 sy : Sy l
 first : dP (aN l) = n
 recs : (findF l).recs = es
 next : (findF l).next = n + es.length
theorem WF.back {L : Lg} {ds : List Bytes} {n m : Nat} (h : WF L ds n m) (hs : Sy L.l) : Back L.l ds n :=
 ⟨h.right, hs, h.first, by rw [h.find], by rw [h.find]; exact oZ SU n _ ds m h.ch⟩
theorem qeH {y : Pl} {k : Nat} (h : y.2 = k) : (goF SU [y] k).recs = (readB SU (byt y.1.f1) k).1 ∧ (goF SU [y] k).next = k + (readB SU (byt y.1.f1) k).1.length := by
 rw [goF, if_pos h]
 split
 ·exact ⟨rfl, rfl⟩
 ·simp [goF]
theorem qdz {l : List S67} {n m j : Nat} {a : List Pl} {p y : Pl} {ds : List Bytes} {d : ByteArray} (hr : bI l = true) (hs : Sy l) (hp : aN l = a ++ [y]) (hch : chain SU n (a ++ [p]) ds m) (hf : dP (a ++ [p]) = n) (hk : y.2 = p.2)
  (hb : byt y.1.f1 = byt p.1.f1 ++ (frame SU m (byt d)).take j) (hd : d.size ≤ 65536) (hm : m < most) : Back l ds n ∨ Back l (ds ++ [byt d]) n := by
 have hfn : dP (aN l) = n := by
  rw [hp, ← hf]
  cases a with
  | nil => exact hk
  | cons q r => rfl
 obtain ⟨d1, d2, k, c1, c2, c3⟩ := uO SU n a [p] ds m hch
 have hnk := oZ SU n _ d1 k c1
 obtain ⟨c4, e1, e2, rfl, c5, c6⟩ := c2
 obtain ⟨rfl, c7⟩ := c6
 obtain ⟨w1, w2⟩ := rH c5
 have hread := wK SU e1 k ((frame SU m (byt d)).take j) w2 (by omega)
 rw [← w1, ← hb, ← c7] at hread
 have hgo := EZ SU n a [y] d1 k c1
 obtain ⟨o1, o2⟩ := qeH (y := y) (k := k) (hk.trans c4)
 have hF : findF l = goF SU (a ++ [y]) n := by rw [findF, hfn, hp]
 rw [hgo] at hF
 have hfl := iG SU m (byt d)
 by_cases hj : j < (frame SU m (byt d)).length
 ·left
  have hno : readB SU ((frame SU m (byt d)).take j) m = ([], 0) := AU (SA SU (by rw [dG]; exact hd) hj)
  rw [hno] at hread
  refine ⟨hr, hs, hfn, ?_, ?_⟩
  ·rw [hF, c3]
   simp only [o1, hread, List.append_nil]
  ·rw [hF, c3]
   simp only [o2, hread, List.append_nil, List.length_append]
   omega
 ·right
  have hyes : readB SU ((frame SU m (byt d)).take j) m = ([byt d], 16 + d.size) := by
   rw [List.take_of_length_le (by omega)]
   have := xY SU (n := m) (d := byt d) (r := []) (by rw [dG]; exact hd) hm
   rw [List.append_nil] at this
   rw [this, dG]
   rfl
  rw [hyes] at hread
  refine ⟨hr, hs, hfn, ?_, ?_⟩
  ·rw [hF, c3]
   simp only [o1, hread, List.append_nil, List.append_assoc]
  ·rw [hF, c3]
   simp only [o2, hread, List.append_nil, List.length_append, List.length_singleton]
   omega
theorem FX {l : List S67} {ds : List Bytes} {n m : Nat} {d : ByteArray} (h : Wet l ds n m d) (hd : d.size ≤ 65536) (hm : m < most) (ks : List Int) : Back (fA l ks) ds n ∨ Back (fA l ks) (ds ++ [byt d]) n := by
 have hr := h.right
 obtain ⟨a, p, t, h1, h2, h3, h4, h5, h6⟩ := h.ex
 obtain ⟨y, hy⟩ : ∃ y : S67, y = ⟨p.1.f0, p.1.f1 ++ t, p.1.f2⟩ := ⟨_, rfl⟩
 rw [← hy] at h1
 have hyn : y.f0 = p.1.f0 := by rw [hy]
 have h1' : aN l = a ++ ((y, p.2) : Pl) :: [] := h1
 obtain ⟨g1, g2, _⟩ := iZ hr h1'
 simp only at g1 g2
 have hc : fA l ks = l.set (bsOf l y.f0) (rU y ks[bsOf l y.f0]?) := by
  apply List.ext_getElem?
  intro i
  cases e : l[i]? with
  | none =>
   have := List.getElem?_eq_none_iff.1 e
   rw [List.getElem?_eq_none (by rw [jB]; exact this), List.getElem?_eq_none (by rw [List.length_set]; exact this)]
  | some x =>
   have hil := (List.getElem?_eq_some_iff.1 e).1
   rw [AQ e]
   by_cases hi : bsOf l y.f0 = i
   ·subst hi
    rw [g1] at e
    injection e with e
    subst e
    rw [List.getElem?_set_self hil]
   ·rw [List.getElem?_set_ne hi, e, IC (h6 x (List.mem_of_getElem? e) fun e2 => hi (J6 hr g1 e (by rw [hyn]; exact e2.symm)))]
 have hpl : aN (fA l ks) = a ++ [((rU y ks[bsOf l y.f0]?, p.2) : Pl)] := by
  rw [hc]
  exact qQ hr h1' rfl
 have hok := pG hr g1
 have hrange := wJ hok.2.2.1 hok.2.2.2 ks[bsOf l y.f0]?
 have hy2 : y.f2 = (p.1.f1.size : Int) := by rw [hy]; exact h4.symm
 refine qdz (j := (lV y ks[bsOf l y.f0]?).toNat - p.1.f1.size) (TL hr ks) (qcp hr ks) hpl h2 h3 rfl ?_ hd hm
 show byt (y.f1.extract 0 (lV y ks[bsOf l y.f0]?).toNat) = _
 rw [qZ, List.drop_zero, ← h5]
 have : byt y.f1 = byt p.1.f1 ++ byt t := by rw [hy]; exact wL _ _
 rw [this, List.take_append, List.take_of_length_le (by rw [dG]; omega), dG]
theorem qfy {l : List S67} {z : S67} {s : List UInt8} (h : bI l = true) (hz : z ∈ l) (hn : z.f0.toList = s) (h1 : (z.f1.size : Int) = z.f2) (h2 : ∀ x ∈ l, x.f0.toList ≠ s → (x.f1.size : Int) = x.f2) : Sy l := by
 intro x hx
 by_cases e : x.f0.toList = s
 ·obtain ⟨i, hi⟩ := List.getElem?_of_mem hx
  obtain ⟨j, hj⟩ := List.getElem?_of_mem hz
  have := J6 h hi hj (e.trans hn.symm)
  subst this
  rw [hi] at hj
  injection hj with hj
  rw [hj]
  exact h1
 ·exact h2 x hx e
theorem LM {L R : Lg} {ds : List Bytes} {n m k : Nat} (h : WF L ds n m) (hs : Sy L.l) (hR : gK L k = (R, 0)) : Sy R.l := by
 unfold gK at hR
 split at hR
 ·obtain ⟨hs1, hz⟩ := Prod.mk.inj hR
  obtain ⟨h1, h2, h3, h4, h5⟩ := kE hz
  rw [← hs1]
  show Sy (jO L.l L.dn L.fu L.fa (nameB L.nx.toNat)).1
  rw [jO, h4]
  intro x hx
  rcases (JB _ _ _).1 hx with rfl | hx
  ·rfl
  ·exact hs x hx
 ·obtain ⟨rfl, _⟩ := Prod.mk.inj hR
  exact hs
theorem TR {L R : Lg} {ds : List Bytes} {n m k : Nat} {e : Int} (h : WF L ds n m) (hR : gK L k = (R, e)) (he : e ≠ 0) : R.l = L.l := by
 unfold gK at hR
 split at hR
 ·obtain ⟨hs1, hz⟩ := Prod.mk.inj hR
  rw [← hs1]
  show (jO L.l L.dn L.fu L.fa (nameB L.nx.toNat)).1 = L.l
  rcases uF h.right (by show (jO L.l L.dn L.fu L.fa (nameB L.nx.toNat)).2.2.2.2 ≠ 0; rw [hz]; exact he) with h1 | ⟨h1, _⟩
  ·exact h1
  ·cases h1
 ·exact absurd (Prod.mk.inj hR).2.symm he
theorem FY {L : Lg} {ds : List Bytes} {n m : Nat} {a : List Pl} {p : Pl} (s : ByteArray) (h : WF L ds n m) (hp : aN L.l = a ++ [p]) :
  (fC L p.1.f0 s).1.l = L.l.set (bsOf L.l p.1.f0) ⟨p.1.f0, p.1.f1 ++ s, p.1.f2⟩ ∧ bI (L.l.set (bsOf L.l p.1.f0) ⟨p.1.f0, p.1.f1 ++ s, p.1.f2⟩) = true ∨ (fC L p.1.f0 s).2 ≠ 0 ∧ (fC L p.1.f0 s).1.l = L.l := by
 have hp' : aN L.l = a ++ p :: [] := hp
 obtain ⟨g1, g2, _⟩ := iZ h.right hp'
 have key : rfW s L.l (bsOf L.l p.1.f0) (kG L.l p.1.f0 (bsOf L.l p.1.f0)) = 0 → bI (L.l.set (bsOf L.l p.1.f0) ⟨p.1.f0, p.1.f1 ++ s, p.1.f2⟩) = true := by
  intro h3
  have hg := (yG h.right s h3).1
  simpa only [Int.toNat_natCast, iM g1] using hg
 by_cases hz : (jI L.l L.dn L.fu L.fa p.1.f0 s).2.2.2.2 = 0
 ·obtain ⟨h1, h2, h3, h4, h5⟩ := kE hz
  refine .inl ⟨?_, key h3⟩
  show (jI L.l L.dn L.fu L.fa p.1.f0 s).1 = _
  rw [jI, h4]
  simp only [Int.toNat_natCast, iM g1]
 ·rcases uF h.right hz with h1 | ⟨_, h3, h4⟩
  ·exact .inr ⟨hz, h1⟩
  ·refine .inl ⟨?_, key h3⟩
   show (jI L.l L.dn L.fu L.fa p.1.f0 s).1 = _
   rw [jI, h4]
   simp only [Int.toNat_natCast, iM g1]
theorem ZO {L : Lg} {ds : List Bytes} {n m : Nat} {a : List Pl} {p : Pl} {s d : ByteArray} (h : WF L ds n m) (hs : Sy L.l) (hp : aN L.l = a ++ [p]) (hb : byt s = frame SU m (byt d)) (hr : bI (L.l.set (bsOf L.l p.1.f0) ⟨p.1.f0, p.1.f1 ++ s, p.1.f2⟩) = true) :
  Wet (L.l.set (bsOf L.l p.1.f0) ⟨p.1.f0, p.1.f1 ++ s, p.1.f2⟩) ds n m d := by
 have hp' : aN L.l = a ++ p :: [] := hp
 obtain ⟨g1, g2, _⟩ := iZ h.right hp'
 refine ⟨hr, a, p, s, qQ h.right hp' rfl, by rw [← hp]; exact h.ch, by rw [← hp]; exact h.first, hs p.1 (List.mem_of_getElem? g1), hb, fun x hx hne => ?_⟩
 exact hs x ((mem_set (y := ⟨p.1.f0, p.1.f1 ++ s, p.1.f2⟩) (z := x) h.right g1 rfl hne).1 hx)
theorem qcq {L R : Lg} {ds : List Bytes} {n m : Nat} {a : List Pl} {p : Pl} {s : ByteArray} (h : WF L ds n m) (hs : Sy L.l) (hp : aN L.l = a ++ [p]) (hR : oP L s = (R, 0)) : Sy R.l := by
 unfold oP at hR
 rw [sQ hp] at hR
 split at hR
 case isFalse hz => exact absurd (by rw [hR]) hz
 rename_i hz
 split at hR
 case isFalse hz2 => exact absurd (by rw [hR]) hz2
 rename_i hz2
 obtain ⟨hR, _⟩ := Prod.mk.inj hR
 have hp' : aN L.l = a ++ p :: [] := hp
 obtain ⟨g1, g2, _⟩ := iZ h.right hp'
 rcases FY s h hp with ⟨e1, e2⟩ | ⟨e1, _⟩
 case inr => exact absurd hz e1
 obtain ⟨y, hy⟩ : ∃ y : S67, y = ⟨p.1.f0, p.1.f1 ++ s, p.1.f2⟩ := ⟨_, rfl⟩
 rw [← hy] at e1 e2
 have hyn : y.f0 = p.1.f0 := by rw [hy]
 have hp2 : aN (fC L p.1.f0 s).1.l = a ++ ((y, p.2) : Pl) :: [] := by rw [e1]; exact qQ h.right hp' hyn
 have hr2 : bI (fC L p.1.f0 s).1.l = true := by rw [e1]; exact e2
 obtain ⟨j1, j2, _⟩ := iZ hr2 hp2
 simp only [hyn] at j1 j2
 have hz2' : (rW (fC L p.1.f0 s).1.l (fC L p.1.f0 s).1.dn (fC L p.1.f0 s).1.fu (fC L p.1.f0 s).1.fa p.1.f0).2.2.2.2 = 0 := hz2
 obtain ⟨h1, h2, h3, h4, h5⟩ := kE hz2'
 have e3 : R.l = (fC L p.1.f0 s).1.l.set (bsOf (fC L p.1.f0 s).1.l p.1.f0) ⟨y.f0, y.f1, (y.f1.size : Int)⟩ := by
  rw [← hR]
  show (rW (fC L p.1.f0 s).1.l (fC L p.1.f0 s).1.dn (fC L p.1.f0 s).1.fu (fC L p.1.f0 s).1.fa p.1.f0).1 = _
  rw [rW, h4]
  simp only [Int.toNat_natCast, iM j1]
 have hr3 : bI R.l = true := by
  have hg := (FQ hr2 j2).1
  simp only [Int.toNat_natCast, iM j1] at hg
  rw [e3]
  exact hg
 refine qfy (z := ⟨y.f0, y.f1, (y.f1.size : Int)⟩) (s := p.1.f0.toList) hr3 (by rw [e3]; exact OM j1) (by rw [← hyn]) rfl fun x hx hne => ?_
 rw [e3] at hx
 have hx2 := (mem_set (y := ⟨y.f0, y.f1, (y.f1.size : Int)⟩) (z := x) hr2 j1 rfl (by rw [hyn]; exact hne)).1 hx
 rw [e1] at hx2
 exact hs x ((mem_set (z := x) h.right g1 hyn hne).1 hx2)
theorem FZ {L R : Lg} {ds : List Bytes} {n m : Nat} {d : ByteArray} (h : WF L ds n m) (hs : Sy L.l) (hR : bT L d = (R, 0)) : Sy R.l := by
 rw [bT, if_pos h.okL, iW, h.br, if_neg (by simp)] at hR
 split at hR
 ·cases hR
 split at hR
 ·cases hR
 split at hR
 case isFalse hz => exact absurd (by rw [hR]) hz
 rename_i hz
 obtain ⟨L1, hL1⟩ : ∃ L1, gK L (dN L.nx d).size = (L1, 0) := ⟨_, Prod.ext rfl hz⟩
 rw [hL1] at hR
 obtain ⟨w1, w2, w3, a, p, w4, w5⟩ := tZ h hL1
 exact qcq w1 (LM h hs hL1) w4 hR
theorem qaM {L R : Lg} {ds : List Bytes} {n m : Nat} {d : ByteArray} {e : Int} (h : WF L ds n m) (hs : Sy L.l) (hR : bT L d = (R, e)) (he : e ≠ 0) :
  (∃ L1, WF L1 ds n m ∧ Sy L1.l ∧ R.l = L1.l) ∨ (Wet R.l ds n m d ∧ d.size ≤ 65536 ∧ m < most) := by
 rw [bT, if_pos h.okL, iW, h.br, if_neg (by simp)] at hR
 split at hR
 ·obtain ⟨rfl, _⟩ := Prod.mk.inj hR
  exact .inl ⟨L, h, hs, rfl⟩
 rename_i hd
 split at hR
 ·obtain ⟨rfl, _⟩ := Prod.mk.inj hR
  exact .inl ⟨L, h, hs, rfl⟩
 rename_i hm
 have hm2 : m < most := by
  rw [h.nx] at hm
  unfold most
  omega
 split at hR
 case isFalse hz => exact .inl ⟨L, h, hs, TR h hR he⟩
 rename_i hz
 obtain ⟨L1, hL1⟩ : ∃ L1, gK L (dN L.nx d).size = (L1, 0) := ⟨_, Prod.ext rfl hz⟩
 rw [hL1] at hR
 obtain ⟨w1, w2, w3, a, p, w4, w5⟩ := tZ h hL1
 have hs1 := LM h hs hL1
 have hb : byt (dN L.nx d) = frame SU m (byt d) := by rw [h.nx]; exact pJ m d
 simp only at hR
 unfold oP at hR
 rw [sQ w4] at hR
 have hset := FY (dN L.nx d) w1 w4
 have hw := ZO w1 hs1 w4 hb
 split at hR
 ·rename_i hz1
  rcases hset with ⟨e1, e2⟩ | ⟨e1, _⟩
  case inr => exact absurd hz1 e1
  split at hR
  ·exact absurd (Prod.mk.inj hR).2.symm he
  ·rename_i hz2
   have e3 : R.l = (fC L1 p.1.f0 (dN L.nx d)).1.l := by
    have : R = (stepS (fC L1 p.1.f0 (dN L.nx d)).1 p.1.f0).1 := by rw [hR]
    rw [this]
    have hr2 : bI (fC L1 p.1.f0 (dN L.nx d)).1.l = true := by rw [e1]; exact e2
    rcases uF hr2 hz2 with k1 | ⟨k1, _⟩
    ·exact k1
    ·cases k1
   refine .inr ⟨?_, by omega, hm2⟩
   rw [e3, e1]
   exact hw e2
 ·rename_i hz1
  have hRR : R = (fC L1 p.1.f0 (dN L.nx d)).1 := by rw [hR]
  rcases hset with ⟨e1, e2⟩ | ⟨_, e1⟩
  ·refine .inr ⟨?_, by omega, hm2⟩
   rw [hRR, e1]
   exact hw e2
  ·exact .inl ⟨L1, w1, hs1, by rw [hRR, e1]⟩
theorem uP {L R : Lg} {ds : List Bytes} {n m : Nat} {d : ByteArray} {e : Int} (h : WF L ds n m) (hs : Sy L.l) (hR : bT L d = (R, e)) (ks : List Int) :
  bI R.l = true ∧ (e = 0 → WF R (ds ++ [byt d]) n (m + 1) ∧ Sy R.l ∧ Back (fA R.l ks) (ds ++ [byt d]) n) ∧ (Back (fA R.l ks) ds n ∨ Back (fA R.l ks) (ds ++ [byt d]) n) := by
 by_cases he : e = 0
 ·subst he
  obtain ⟨w1, _⟩ := zD h hR
  have hsy := FZ h hs hR
  have hb : Back (fA R.l ks) (ds ++ [byt d]) n := by rw [uD hsy]; exact w1.back hsy
  exact ⟨w1.right, fun _ => ⟨w1, hsy, hb⟩, .inr hb⟩
 ·rcases qaM h hs hR he with ⟨L1, k1, k2, k3⟩ | ⟨k1, k2, k3⟩
  ·refine ⟨by rw [k3]; exact k1.right, fun e0 => absurd e0 he, .inl ?_⟩
   rw [k3, uD k2]
   exact k1.back k2
  ·exact ⟨k1.right, fun e0 => absurd e0 he, FX k1 k2 k3 ks⟩
theorem Back.opens {l : List S67} {es : List Bytes} {n : Nat} {size : Int} (h : Back l es n) (h0 : 1 ≤ size) (h1 : size ≤ 262144) :
  ∃ M, jG l false (-1) (-1) size = (M, bU es n, 0) ∧ WF M es n (n + es.length) ∧ M.fu = -1 ∧ M.fa = -1 ∧ M.size = size := by
 have hw := QF h.right h0 h1
 have ho := NP h.right h0 h1
 rw [h.first, h.recs, h.next] at hw ho
 exact ⟨_, ho, hw, rfl, rfl, rfl⟩
theorem BJ {l : List S67} {s : ByteArray} {wr : Bool} {rf : Int → Bool → Int} {df : Int → List S67} (hr : bI l = true) : (bW l false (-1) (-1) s wr rf df).2.2.1 = -1 ∧ (bW l false (-1) (-1) s wr rf df).2.2.2.1 = -1 := by
 rw [oM hr]
 split <;> exact ⟨rfl, rfl⟩
theorem NQ {L R : Lg} {ds : List Bytes} {n m : Nat} {d : ByteArray} (h : WF L ds n m) (hu : L.fu = -1) (ha : L.fa = -1) (hR : bT L d = (R, 0)) : R.fu = -1 ∧ R.fa = -1 := by
 rw [bT, if_pos h.okL, iW, h.br, if_neg (by simp)] at hR
 split at hR
 ·cases hR
 split at hR
 ·cases hR
 split at hR
 case isFalse hz => exact absurd (by rw [hR]) hz
 rename_i hd hm hz
 obtain ⟨L1, hL1⟩ : ∃ L1, gK L (dN L.nx d).size = (L1, 0) := ⟨_, Prod.ext rfl hz⟩
 rw [hL1] at hR
 obtain ⟨w1, w2, w3, a, p, w4, w5⟩ := tZ h hL1
 have h1 : L1.fu = -1 ∧ L1.fa = -1 := by
  unfold gK at hL1
  split at hL1
  ·obtain ⟨hs1, _⟩ := Prod.mk.inj hL1
   rw [← hs1, hu, ha, h.dn]
   exact BJ h.right
  ·obtain ⟨rfl, _⟩ := Prod.mk.inj hL1
   exact ⟨hu, ha⟩
 simp only at hR
 unfold oP at hR
 rw [sQ w4] at hR
 split at hR
 case isFalse hz1 => exact absurd (by rw [hR]) hz1
 rename_i hz1
 split at hR
 case isFalse hz2 => exact absurd (by rw [hR]) hz2
 rename_i hz2
 obtain ⟨hR, _⟩ := Prod.mk.inj hR
 have h2 : (fC L1 p.1.f0 (dN L.nx d)).1.fu = -1 ∧ (fC L1 p.1.f0 (dN L.nx d)).1.fa = -1 := by
  rw [fC, h1.1, h1.2, w1.dn]
  exact BJ w1.right
 have hp' : aN L1.l = a ++ p :: [] := w4
 obtain ⟨k1, k2, k3, k4⟩ := BH (L := L1) hp' hz1
 have k1' : bI (fC L1 p.1.f0 (dN L.nx d)).1.l = true := k1
 have k3' : (fC L1 p.1.f0 (dN L.nx d)).1.dn = false := k3
 rw [← hR]
 show (stepS (fC L1 p.1.f0 (dN L.nx d)).1 p.1.f0).1.fu = -1 ∧ (stepS (fC L1 p.1.f0 (dN L.nx d)).1 p.1.f0).1.fa = -1
 rw [stepS, h2.1, h2.2, k3']
 exact BJ k1'
theorem qeI (d : ByteArray) : (⟨(byt d).toArray⟩ : ByteArray) = d := pY (qK _)
theorem WF.refuse {L : Lg} {ds : List Bytes} {n m : Nat} (h : WF L ds n m) (fu fa : Int) : WF { L with fu := fu, fa := fa } ds n m :=
 ⟨h.right, h.dn, h.br, h.lo, h.hi, h.first, h.ch, h.top, h.fr, h.nx⟩
theorem ZP (q : Int) : ∀ (ps : List Pl) (L : Lg) (ds : List Bytes) (n m : Nat), aN L.l = ps → bI L.l = true → L.dn = false → L.fu = -1 → L.fa = -1 → L.br = false → chain SU n ps ds m →
  ∃ R rest d0 d1, dV L ps q = (R, 0, rest) ∧ aN R.l = rest ∧ bI R.l = true ∧ R.dn = false ∧ R.fu = -1 ∧ R.fa = -1 ∧ R.br = false ∧ R.size = L.size ∧ R.nx = L.nx ∧ R.fr = L.fr ∧ ds = d0 ++ d1 ∧ chain SU (n + d0.length) rest d1 m ∧
   (rest = [] → ps = []) ∧ (d0 = [] ∨ ((n + d0.length : Nat) : Int) ≤ q) ∧ (Sy L.l → Sy R.l)
 | [], L, ds, n, m, hp, hr, hd, hu, ha, hb, hc => ⟨L, [], [], ds, rfl, hp, hr, hd, hu, ha, hb, rfl, rfl, rfl, rfl, hc, fun _ => rfl, .inl rfl, fun h => h⟩
 | [p], L, ds, n, m, hp, hr, hd, hu, ha, hb, hc => ⟨L, [p], [], ds, rfl, hp, hr, hd, hu, ha, hb, rfl, rfl, rfl, rfl, hc, fun h => h, .inl rfl, fun h => h⟩
 | p :: p2 :: r, ⟨l, dn, fu, fa, size, fr, nx, br⟩, ds, n, m, hp, hr, hd, hu, ha, hb, hc => by
  simp only at hp hr hd hu ha hb
  subst hd hu ha hb
  by_cases hq : (p2.2 : Int) ≤ q
  ·have hp' : aN l = [] ++ p :: (p2 :: r) := hp
   obtain ⟨g1, g2, _⟩ := iZ hr hp'
   have hcm := IG (fu := -1) hr g2
   rw [if_neg (by decide)] at hcm
   have hstep : dV ⟨l, false, -1, -1, size, fr, nx, false⟩ (p :: p2 :: r) q = dV ⟨l.take (bsOf l p.1.f0) ++ l.drop (bsOf l p.1.f0 + 1), false, -1, -1, size, fr, nx, false⟩ (p2 :: r) q := by
    rw [dV, if_pos hq]
    simp only [hcm]
    rfl
   obtain ⟨c1, e1, e2, rfl, c2, c3⟩ := hc
   obtain ⟨R, rest, d0, d1, k1, k2, k3, k4, k5, k6, k7, k8, k9, k10, k11, k12, k13, k14, k15⟩ := ZP q (p2 :: r) ⟨l.take (bsOf l p.1.f0) ++ l.drop (bsOf l p.1.f0 + 1), false, -1, -1, size, fr, nx, false⟩ e2 (n + e1.length) m (oU hr hp') (sK hr _) rfl rfl rfl rfl c3
   refine ⟨R, rest, e1 ++ d0, d1, by rw [hstep, k1], k2, k3, k4, k5, k6, k7, k8, k9, k10, by rw [k11, List.append_assoc], ?_, fun h => (by cases k13 h), .inr ?_, fun hs => k15 fun x hx => ?_⟩
   ·rw [List.length_append, ← Nat.add_assoc]
    exact k12
   ·rcases k14 with rfl | k14
    ·have := c3.1
     rw [List.append_nil]
     omega
    ·rw [List.length_append, ← Nat.add_assoc]
     exact k14
   ·rcases List.mem_append.1 hx with h | h
    ·exact hs x (List.mem_of_mem_take h)
    ·exact hs x (List.mem_of_mem_drop h)
  ·exact ⟨_, p :: p2 :: r, [], ds, by rw [dV, if_neg hq], hp, hr, rfl, rfl, rfl, rfl, rfl, rfl, rfl, rfl, hc, fun h => h, .inl rfl, fun h => h⟩
theorem qcr {L : Lg} {ds : List Bytes} {n m : Nat} {q : Int} (h : WF L ds n m) (hu : L.fu = -1) (ha : L.fa = -1) (hq : q ≤ L.nx) :
  ∃ R d0 d1, kH L q = (R, 0) ∧ WF R d1 (n + d0.length) m ∧ ds = d0 ++ d1 ∧ (d0 = [] ∨ ((n + d0.length : Nat) : Int) ≤ q) ∧ R.size = L.size ∧ R.fu = -1 ∧ R.fa = -1 ∧ (Sy L.l → Sy R.l) := by
 obtain ⟨R, rest, d0, d1, k1, k2, k3, k4, k5, k6, k7, k8, k9, k10, k11, k12, k13, k14, k15⟩ := ZP q (aN L.l) L ds n m rfl h.right h.dn hu ha h.br h.ch
 have hfr : vO R rest = { R with fr := ((n + d0.length : Nat) : Int) } := by
  cases rest with
  | nil =>
   have hps := k13 rfl
   have hc := h.ch
   rw [hps] at hc
   obtain ⟨hc1, _⟩ := hc
   rw [hc1] at k11
   have h0 : d0 = [] := (List.append_eq_nil_iff.1 k11.symm).1
   subst h0
   show R = _
   have : R.fr = ((n + ([] : List Bytes).length : Nat) : Int) := by rw [k10, h.fr]; rfl
   rw [← this]
  | cons p r =>
   show { R with fr := (p.2 : Int) } = _
   rw [k12.1]
 refine ⟨vO R rest, d0, d1, ?_, ?_, k11, k14, ?_, ?_, ?_, ?_⟩
 ·rw [kH, if_pos h.okL, tN, h.br, if_neg (by simp), if_neg (by omega), k1]
  simp
 ·rw [hfr]
  refine ⟨k3, k4, k7, by show 1 ≤ R.size; rw [k8]; exact h.lo, by show R.size ≤ 262144; rw [k8]; exact h.hi, ?_, by show chain SU _ (aN R.l) d1 m; rw [k2]; exact k12, h.top, rfl, by show R.nx = _; rw [k9]; exact h.nx⟩
  show dP (aN R.l) = _
  rw [k2]
  cases rest with
  | nil =>
   have hps := k13 rfl
   have hf := h.first
   have hc := h.ch
   rw [hps] at hf hc
   obtain ⟨hc1, _⟩ := hc
   rw [hc1] at k11
   have h0 : d0 = [] := (List.append_eq_nil_iff.1 k11.symm).1
   subst h0
   exact hf
  | cons p r => exact k12.1
 ·rw [hfr]; exact k8
 ·rw [hfr]; exact k5
 ·rw [hfr]; exact k6
 ·rw [hfr]; exact k15
theorem zU (S : Sum) : ∀ (n : Nat) (ds : List Bytes), 16 * ds.length ≤ (fQ S n ds).length
 | n, [] => by simp [fQ]
 | n, d :: r => by
  have := zU S (n + 1) r
  simp only [fQ, List.length_append, iG, List.length_cons]
  omega
theorem II : ∀ (n : Nat) (a : List Pl) (ds : List Bytes) (m : Nat), chain SU n a ds m → (∀ p ∈ a, p.1.f1.size ≤ 262144) → ds.length ≤ 16384 * a.length
 | n, [], ds, m, h, _ => by obtain ⟨rfl, _⟩ := h; simp
 | n, p :: r, ds, m, h, hs => by
  obtain ⟨h1, d1, d2, rfl, h3, h4⟩ := h
  have h5 := II _ r d2 m h4 (fun q hq => hs q (List.mem_cons_of_mem _ hq))
  have h6 := hs p (List.mem_cons_self ..)
  have h7 := zU SU n d1
  rw [← (rH h3).1, dG] at h7
  simp only [List.length_append, List.length_cons]
  omega
theorem WF.few {L : Lg} {ds : List Bytes} {n m : Nat} (h : WF L ds n m) : ds.length ≤ 1048576 := by
 have h1 := II n _ ds m h.ch (fun p hp => (((iR L.l).1 h.right).2.1 p.1 (lC.1 hp).1).2.1)
 have h2 := o7 L.l
 have h3 := lJ h.right
 omega
noncomputable def l7 (l : List S67) (dn : Bool) (fu fa size most : Int) : Qu × Int :=
 if bI l = true then
  if most < 1 ∨ 1024 < most then (Qz, 2)
  else if (jG l dn fu fa size).2.2 = 0 then
   (if 1024 < (dH (jG l dn fu fa size).2.1).length then (Qz, 3) else (⟨(jG l dn fu fa size).1, dH (jG l dn fu fa size).2.1, most⟩, 0))
  else if (jG l dn fu fa size).1.br = true then (⟨(jG l dn fu fa size).1, [], most⟩, (jG l dn fu fa size).2.2)
  else (Qz, (jG l dn fu fa size).2.2)
 else (Qz, 6)
theorem WJ {ds : List dZ.Bytes} {n : Nat} (h : n + ds.length ≤ 4611686018427387904) : ∀ x ∈ bU ds n, 0 ≤ x.f0 ∧ x.f0 < 18446744073709551616 := by
 intro x hx
 obtain ⟨i, hi⟩ := List.getElem?_of_mem hx
 have h1 := D5 ds n i x hi
 have h2 := (List.getElem?_eq_some_iff.1 hi).1
 rw [pK] at h2
 rw [h1]
 omega
theorem qaN {l : List S67} {dn : Bool} {fu fa size : Int} {R : Lg} {rs : List S62} (h : jG l dn fu fa size = (R, rs, 0)) : rs.length ≤ 1048576 ∧ ∀ x ∈ rs, 0 ≤ x.f0 ∧ x.f0 < 18446744073709551616 := by
 obtain ⟨ds, n, m, hw, rfl, _⟩ := KZ h
 have h1 := oZ SU n _ ds m hw.ch
 have h2 := hw.top
 unfold most at h2
 exact ⟨by rw [pK]; exact hw.few, WJ (by omega)⟩
set_option maxHeartbeats 8000000 in
theorem NR (A : Option Addr) (c : Nat) (l : List S67) (dn : Bool) (fu fa size most : Int) (w : World) (hr : Kd.C k67 w A l.length l) (hc : l.length ≤ c) (hG : Gl w) :
  Calls Tryz.prog 18 #[.agg #[.slice A l.length c, .bool dn, .int .i64 fu, .int .i64 fa], .int .i64 size, .int .i64 most] w fun e w' => ∃ A' c' B' d', e = .returned (.tuple #[.agg (qc A' c' B' d' (l7 l dn fu fa size most).1).toArray, .int .i64 (l7 l dn fu fa size most).2])
   ∧ aC (Sep w w' [oO A' c' (l7 l dn fu fa size most).1.L.l, uG B' d' (l7 l dn fu fa size most).1.es]) := by
 have HRp := aC.mk hr
 have HCp := aC.mk hc
 have HG := aC.mk hG
 clear hr hc hG
 obtain ⟨O, hO⟩ : ∃ O, O = l7 l dn fu fa size most := ⟨_, rfl⟩
 rw [← hO]
 have HO := aC.mk hO
 clear hO
 have H := aC.mk (Sep.start w)
 go_enter Tryz.func18, Tryz.ntmps18
 go_wp2_with (first
 |((with_reducible refine aV (N := 3) rfl ?_);
   refine bP rfl H (cs := [.slice A l.length c, .bool dn, .int .i64 fu, .int .i64 fa]) (t := 27) ?hr ?_;
   (case hr => first | (go_simp; done) | (go_simp; rfl));
   intro gd wd1 n_;
   simp only [Act.put, zA, zZ, zS];
   clear H;
   have H := n_;
   clear n_;
   have c_d := H.out.cell (g := gd) aQ)
 |((with_reducible refine aV (N := 6) rfl ?_);
   refine bP rfl H (cs := [.slice none 0 0, .bool false, .int .i64 0, .int .i64 0, .int .i64 0, .int .u64 0, .int .u64 0, .bool false, .slice none 0 0, .int .i64 0]) (t := 33) ?hr ?_;
   (case hr => first | (go_simp; done) | (go_simp; rfl));
   intro gz wd2 n_;
   simp only [Act.put, zA, zZ, zS];
   clear H c_d;
   have H := n_;
   clear n_;
   have c_z := H.out.cell (g := gz) aQ;
   have z_z := H.out.frozen (g := gz) aQ;
   have c_d := H.out.cell (g := gd) mem1)
 |fail)
 by_cases hok : bI l = true
 ·
  refine ((dO.calls A c l dn fu fa 0 _ (H.out.came HRp.out) HCp.out (by rw [dO.f, if_pos hok])).mono ?_)
  rintro e wd3 ⟨rfl, hb_⟩
  have n_ : aC (Sep w wd3 [box gz [.slice none 0 0, .bool false, .int .i64 0, .int .i64 0, .int .i64 0, .int .u64 0, .int .u64 0, .bool false, .slice none 0 0, .int .i64 0] 33, box gd [.slice A l.length c, .bool dn, .int .i64 fu, .int .i64 fa] 27]) := ⟨H.out.step hb_⟩
  clear H c_z z_z c_d
  have H := n_
  clear n_
  have c_z := H.out.cell (g := gz) aQ
  have z_z := H.out.frozen (g := gz) aQ
  have c_d := H.out.cell (g := gd) mem1
  clear hb_
  have HOK := aC.mk hok
  clear hok
  by_cases hm1 : most < 1
  ·
   have hOV : O = (Qz, 2) := by rw [HO.out, l7, if_pos HOK.out, if_pos (.inl hm1)]
   go_wp2_with (first
 |((with_reducible refine aX (t := 33) (p := 6) rfl ?_);
   refine bM (rs1 := [box gz [.slice none 0 0, .bool false, .int .i64 0, .int .i64 0, .int .i64 0, .int .u64 0, .int .u64 0, .bool false, .slice none 0 0, .int .i64 0] 33, box gd [.slice A l.length c, .bool dn, .int .i64 fu, .int .i64 fa] 27]) rfl (t := 33) (p := 6) rfl rfl ?hr (H1 := (Sep.set0 (Sep.set0 (Sep.set0 (Sep.set0 (Sep.set0 (Sep.set0 (Sep.set0 (Sep.set0 (Sep.set0 (Sep.set0 H.out 0 (.slice none 0 0) rfl) 1 (.bool false) rfl) 2 (.int .i64 0) rfl) 3 (.int .i64 0) rfl) 4 (.int .i64 0) rfl) 5 (.int .u64 0) rfl) 6 (.int .u64 0) rfl) 7 (.bool false) rfl) 8 (.slice none 0 0) rfl) 9 (.int .i64 0) rfl)) ?_;
   (case hr => first | (go_simp; done) | (go_simp; rfl));
   intro wd4 n_;
   clear H c_z z_z c_d;
   have H := n_;
   clear n_;
   have c_z := H.out.cell (g := gz) aQ;
   have z_z := H.out.frozen (g := gz) aQ;
   have c_d := H.out.cell (g := gd) mem1)
 |fail)
   refine bodyPost_ret (dS (rs := [.cell 6 33, .tmp 7]) rfl (by simp) (.cell gz 33 _ _ _ rfl (H.out.lD (g := gz) aQ) Tryz.underlying33 rfl info33 (.tmp .nil))) rfl ?_
   subst hOV
   exact ⟨none, 0, none, 0, rfl, ⟨Sep.eX (Sep.eX (Sep.dJ (Sep.drop1 H.out)))⟩⟩
  ·
   by_cases hm2 : 1024 < most
   ·
    have hOV : O = (Qz, 2) := by rw [HO.out, l7, if_pos HOK.out, if_pos (.inr hm2)]
    go_wp2_with (first
 |((with_reducible refine aX (t := 33) (p := 6) rfl ?_);
   refine bM (rs1 := [box gz [.slice none 0 0, .bool false, .int .i64 0, .int .i64 0, .int .i64 0, .int .u64 0, .int .u64 0, .bool false, .slice none 0 0, .int .i64 0] 33, box gd [.slice A l.length c, .bool dn, .int .i64 fu, .int .i64 fa] 27]) rfl (t := 33) (p := 6) rfl rfl ?hr (H1 := (Sep.set0 (Sep.set0 (Sep.set0 (Sep.set0 (Sep.set0 (Sep.set0 (Sep.set0 (Sep.set0 (Sep.set0 (Sep.set0 H.out 0 (.slice none 0 0) rfl) 1 (.bool false) rfl) 2 (.int .i64 0) rfl) 3 (.int .i64 0) rfl) 4 (.int .i64 0) rfl) 5 (.int .u64 0) rfl) 6 (.int .u64 0) rfl) 7 (.bool false) rfl) 8 (.slice none 0 0) rfl) 9 (.int .i64 0) rfl)) ?_;
   (case hr => first | (go_simp; done) | (go_simp; rfl));
   intro wd5 n_;
   clear H c_z z_z c_d;
   have H := n_;
   clear n_;
   have c_z := H.out.cell (g := gz) aQ;
   have z_z := H.out.frozen (g := gz) aQ;
   have c_d := H.out.cell (g := gd) mem1)
 |fail)
    refine bodyPost_ret (dS (rs := [.cell 6 33, .tmp 7]) rfl (by simp) (.cell gz 33 _ _ _ rfl (H.out.lD (g := gz) aQ) Tryz.underlying33 rfl info33 (.tmp .nil))) rfl ?_
    subst hOV
    exact ⟨none, 0, none, 0, rfl, ⟨Sep.eX (Sep.eX (Sep.dJ (Sep.drop1 H.out)))⟩⟩
   ·
    have HM : aC (¬ (most < 1 ∨ 1024 < most)) := ⟨by omega⟩
    obtain ⟨R, rs, e, hOF⟩ : ∃ R rs e, jG l dn fu fa size = (R, rs, e) := ⟨_, _, _, rfl⟩
    have HOP := aC.mk (fun A c w hr hc hG => open_any A c l dn fu fa size w hr hc hG)
    rw [hOF] at HOP
    dsimp only at HOP
    have HOF := aC.mk hOF
    clear hOF
    go_wp2_with fail
    refine ((HOP.out A c _ (H.out.came HRp.out) HCp.out (HG.out.below H.out.below)).mono ?_)
    rintro e wd6 ⟨A1, c1, A2, c2, rfl, HJ⟩
    have n_ : aC (Sep w wd6 [row k67 67 (.slice A1 (R.l).length c1) R.l, row k62 62 (.slice A2 (rs).length c2) rs, box gz [.slice none 0 0, .bool false, .int .i64 0, .int .i64 0, .int .i64 0, .int .u64 0, .int .u64 0, .bool false, .slice none 0 0, .int .i64 0] 33, box gd [.slice A l.length c, .bool dn, .int .i64 fu, .int .i64 fa] 27]) := ⟨gX H.out HJ.out⟩
    clear H c_z z_z c_d
    have H := n_
    clear n_
    have c_z := H.out.cell (g := gz) mem2
    have z_z := H.out.frozen (g := gz) mem2
    have c_d := H.out.cell (g := gd) mem3
    clear HJ
    simp only [lgc]
    clear HOP
    clear c_z z_z c_d
    have c_z := H.out.cell (g := gz) mem2
    have z_z := H.out.frozen (g := gz) mem2
    have c_d := H.out.cell (g := gd) mem3
    by_cases hz : e = 0
    ·
     subst hz
     have HRL := aC.mk (qaN HOF.out)
     obtain ⟨es, hes⟩ : ∃ es, es = dH rs := ⟨_, rfl⟩
     have HES := aC.mk hes
     have hOV : O = if 1024 < es.length then (Qz, 3) else (⟨R, es, most⟩, 0) := by rw [HO.out, l7, if_pos HOK.out, if_neg HM.out, HOF.out, if_pos rfl, hes]
     have HOV := aC.mk hOV
     clear HO hOV hes
     go_upto_region 11 with (first
 |((with_reducible refine aV (N := 9) rfl ?_);
   refine bP rfl H (cs := [.slice none 0 0, .bool false, .int .i64 0, .int .i64 0, .int .i64 0, .int .u64 0, .int .u64 0, .bool false]) (t := 30) ?hr ?_;
   (case hr => first | (go_simp; done) | (go_simp; rfl));
   intro gb wd7 n_;
   simp only [Act.put, zA, zZ, zS];
   clear H c_z z_z c_d;
   have H := n_;
   clear n_;
   have c_b := H.out.cell (g := gb) aQ;
   have z_b := H.out.frozen (g := gb) aQ;
   have c_z := H.out.cell (g := gz) mem3;
   have z_z := H.out.frozen (g := gz) mem3;
   have c_d := H.out.cell (g := gd) dM)
 |((with_reducible refine aX (t := 30) (p := 9) rfl ?_);
   refine bM (rs1 := [box gb [.slice A1 R.l.length c1, .bool R.dn, .int .i64 R.fu, .int .i64 R.fa, .int .i64 R.size, .int .u64 R.fr, .int .u64 R.nx, .bool R.br] 30, row k67 67 (.slice A1 (R.l).length c1) R.l, row k62 62 (.slice A2 (rs).length c2) rs, box gz [.slice none 0 0, .bool false, .int .i64 0, .int .i64 0, .int .i64 0, .int .u64 0, .int .u64 0, .bool false, .slice none 0 0, .int .i64 0] 33, box gd [.slice A l.length c, .bool dn, .int .i64 fu, .int .i64 fa] 27]) rfl (t := 30) (p := 9) rfl rfl ?hr (H1 := (Sep.set0 (Sep.set0 (Sep.set0 (Sep.set0 (Sep.set0 (Sep.set0 (Sep.set0 (Sep.set0 H.out 0 (.slice A1 R.l.length c1) rfl) 1 (.bool R.dn) rfl) 2 (.int .i64 R.fu) rfl) 3 (.int .i64 R.fa) rfl) 4 (.int .i64 R.size) rfl) 5 (.int .u64 R.fr) rfl) 6 (.int .u64 R.nx) rfl) 7 (.bool R.br) rfl)) ?_;
   (case hr => first | (go_simp; done) | (go_simp; rfl));
   intro wd8 n_;
   clear H c_b z_b c_z z_z c_d;
   have H := n_;
   clear n_;
   have c_b := H.out.cell (g := gb) aQ;
   have z_b := H.out.frozen (g := gb) aQ;
   have c_z := H.out.cell (g := gz) mem3;
   have z_z := H.out.frozen (g := gz) mem3;
   have c_d := H.out.cell (g := gd) dM)
 |fail)
     refine iI (n := 7) (S := fun w' => (∀ j : Nat, w'.cell? ⟨gb, j, none⟩ = [.slice A1 R.l.length c1, .bool R.dn, .int .i64 R.fu, .int .i64 R.fa, .int .i64 R.size, .int .u64 R.fr, .int .u64 R.nx, .bool R.br][j]?) ∧ Sp.Sep w w' [box gb [.slice A1 R.l.length c1, .bool R.dn, .int .i64 R.fu, .int .i64 R.fa, .int .i64 R.size, .int .u64 R.fr, .int .u64 R.nx, .bool R.br] 30, row k67 67 (.slice A1 (R.l).length c1) R.l, row k62 62 (.slice A2 (rs).length c2) rs, box gz [.slice none 0 0, .bool false, .int .i64 0, .int .i64 0, .int .i64 0, .int .u64 0, .int .u64 0, .bool false, .slice none 0 0, .int .i64 0] 33, box gd [.slice A l.length c, .bool dn, .int .i64 fu, .int .i64 fa] 27]) (ds := [6]) #[false, false, false, false, false, false, false] (by kernel_rfl) rfl rfl ⟨(fun j => ((Sep.drew H.out)).cell (g := gb) aQ j), (Sep.drew H.out)⟩ (fun hHeld => ?_)
     refine puS (i := 1) (N := some 51) (v := ?_) (a' := ?_) rfl rfl (by kernel_rfl) (fun _ _ _ h => h) (Or.inl ⟨by rfl, ?_⟩) ?_ ?_
     rotate_left
     ·intro w'
      go_simp
      with_reducible rfl
     rotate_left
     ·simp only [Act.put, zA, zZ, zS, aI, aJ]
      rfl
     refine puS (i := 3) (N := some 53) (v := ?_) (a' := ?_) rfl rfl (by kernel_rfl) (fun _ _ _ h => h) (Or.inl ⟨by rfl, ?_⟩) ?_ ?_
     rotate_left
     ·intro w'
      go_simp
      with_reducible rfl
     rotate_left
     ·simp only [Act.put, zA, zZ, zS, aI, aJ]
      rfl
     refine tkS (i := 0) (N := some 50) (v := ?_) (a' := ?_) rfl rfl (by kernel_rfl) (fun _ _ _ h => h) (Or.inl ⟨by rfl, ?_⟩) hHeld ?_ ?_
     rotate_left
     ·rintro w' ⟨s0, s1⟩
      go_simp
      with_reducible rfl
     rotate_left
     ·simp only [Act.put, zA, zZ, zS, aI, aJ]
      rfl
     refine qdF (σ := Nat × Option Addr × Nat) 1 #[true, true, true, true, true, true, false] (fun s => [(52, .slice s.2.1 es.length s.2.2), (54, .agg #[.slice A1 R.l.length c1, .bool R.dn, .int .i64 R.fu, .int .i64 R.fa, .int .i64 R.size, .int .u64 R.fr, .int .u64 R.nx, .bool R.br, .slice s.2.1 es.length s.2.2, .int .i64 most]), (12, .pointer (some ⟨s.1, 0, none⟩))]) (fun s w' => (∀ j : Nat, w'.cell? ⟨gb, j, none⟩ = [.slice A1 R.l.length c1, .bool R.dn, .int .i64 R.fu, .int .i64 R.fa, .int .i64 R.size, .int .u64 R.fr, .int .u64 R.nx, .bool R.br][j]?) ∧ Sp.Sep w w' (box s.1 [.slice none 0 0, .bool false, .int .i64 0, .int .i64 0, .int .i64 0, .int .u64 0, .int .u64 0, .bool false, .slice none 0 0, .int .i64 0] 33 :: row k41 41 (.slice s.2.1 es.length s.2.2) es :: [box gb [.slice A1 R.l.length c1, .bool R.dn, .int .i64 R.fu, .int .i64 R.fa, .int .i64 R.size, .int .u64 R.fr, .int .u64 R.nx, .bool R.br] 30, row k67 67 (.slice A1 (R.l).length c1) R.l, row k62 62 (.slice A2 (rs).length c2) rs, box gz [.slice none 0 0, .bool false, .int .i64 0, .int .i64 0, .int .i64 0, .int .u64 0, .int .u64 0, .bool false, .slice none 0 0, .int .i64 0] 33, box gd [.slice A l.length c, .bool dn, .int .i64 fu, .int .i64 fa] 27])) ?_ ?_
     rotate_left
     ·intro TS
      refine qeS (i := 2) (j := 5) (Ni := some 52) (Nj := some 12) #[true, true, true, true, false, false, false] #[true, true, false, true, false, true, false] rfl rfl rfl rfl (by kernel_rfl) (by decide) (by decide) (fun K hK => ?_) (fun K hK => ?_)
      ·skip
       refine pV Tryz.func51 (by kernel_rfl) rfl #[.slice A2 rs.length c2] (by rfl) rfl rfl (by simp only [List.map_toArray, List.map_cons, List.map_nil]; rfl) ?_
       with_reducible refine (IE A2 c2 rs _ (Sep.reads (A := A2) hHeld.2 mem2).2.2 HRL.out.1 HRL.out.2).mono ?_
       rintro e w70 ⟨A7, c7, rfl, HJ⟩
       have hS2 := gX hHeld.2 HJ.out
       rw [← HES.out] at hS2 ⊢
       refine ⟨_, rfl, ?_⟩
       refine hK.out _ _ ⟨(fun j => (hS2).cell (g := gb) mem1 j), (hS2).dJ⟩ (fun hHeld => ?_)
       clear hK K
       refine fH (a' := ?_) ?_ ?_
       rotate_left
       ·show Act.put _ (some 52) _ = _
        simp only [Act.put, zA, zZ, zS, aI, aJ]
        rfl
       refine puS (i := 4) (N := some 54) (v := ?_) (a' := ?_) rfl rfl (by kernel_rfl) (fun _ _ _ h => h) (Or.inl ⟨by rfl, ?_⟩) ?_ ?_
       rotate_left
       ·intro w'
        go_simp
        with_reducible rfl
       rotate_left
       ·simp only [Act.put, zA, zZ, zS, aI, aJ]
        rfl
       refine onS (i := 5) (N := some 12) rfl rfl (by kernel_rfl) (by decide) (fun K hK => ?_)
       refine xK (N := some 12) (by rfl) rfl hS2 [.slice none 0 0, .bool false, .int .i64 0, .int .i64 0, .int .i64 0, .int .u64 0, .int .u64 0, .bool false, .slice none 0 0, .int .i64 0] 33 ?_ ?_
       ·first | (go_simp; done) | (go_simp; rfl)
       intro g12 qja hS5
       refine hK.out _ _ ⟨(fun j => (hS5).cell (g := gb) mem2 j), (hS5).dJ.dJ⟩ (fun hHeld => ?_)
       clear hK K
       refine fH (a' := ?_) ?_ ?_
       rotate_left
       ·show Act.put _ (some 12) _ = _
        simp only [Act.put, zA, zZ, zS, aI, aJ]
        rfl
       exact fH (by simp only [wB, Act.put, zA, zZ, zS]) (TS ⟨g12, A7, c7⟩ _ ⟨(fun j => ((hS5).dJ.dJ).cell (g := gb) aQ j), hS5⟩)
      ·skip
       refine xK (N := some 12) (by rfl) rfl hHeld.2 [.slice none 0 0, .bool false, .int .i64 0, .int .i64 0, .int .i64 0, .int .u64 0, .int .u64 0, .bool false, .slice none 0 0, .int .i64 0] 33 ?_ ?_
       ·first | (go_simp; done) | (go_simp; rfl)
       intro g12 qim hS5
       refine hK.out _ _ ⟨(fun j => (hS5).cell (g := gb) mem1 j), (hS5).dJ⟩ (fun hHeld => ?_)
       clear hK K
       refine fH (a' := ?_) ?_ ?_
       rotate_left
       ·show Act.put _ (some 12) _ = _
        simp only [Act.put, zA, zZ, zS, aI, aJ]
        rfl
       refine onS (i := 2) (N := some 52) rfl rfl (by kernel_rfl) (by decide) (fun K hK => ?_)
       refine pV Tryz.func51 (by kernel_rfl) rfl #[.slice A2 rs.length c2] (by rfl) rfl rfl (by simp only [List.map_toArray, List.map_cons, List.map_nil]; rfl) ?_
       with_reducible refine (IE A2 c2 rs _ (Sep.reads (A := A2) hS5 mem3).2.2 HRL.out.1 HRL.out.2).mono ?_
       rintro e w71 ⟨A7, c7, rfl, HJ⟩
       have hS2 := gX hS5 HJ.out
       rw [← HES.out] at hS2 ⊢
       refine ⟨_, rfl, ?_⟩
       refine hK.out _ _ ⟨(fun j => (hS2).cell (g := gb) mem2 j), (hS2).dJ.dJ⟩ (fun hHeld => ?_)
       clear hK K
       refine fH (a' := ?_) ?_ ?_
       rotate_left
       ·show Act.put _ (some 52) _ = _
        simp only [Act.put, zA, zZ, zS, aI, aJ]
        rfl
       refine puS (i := 4) (N := some 54) (v := ?_) (a' := ?_) rfl rfl (by kernel_rfl) (fun _ _ _ h => h) (Or.inl ⟨by rfl, ?_⟩) ?_ ?_
       rotate_left
       ·intro w'
        go_simp
        with_reducible rfl
       rotate_left
       ·simp only [Act.put, zA, zZ, zS, aI, aJ]
        rfl
       exact fH (by simp only [wB, Act.put, zA, zZ, zS]) (TS ⟨g12, A7, c7⟩ _ ⟨(fun j => ((hS2.jK).dJ.dJ).cell (g := gb) aQ j), hS2.jK⟩)
     rintro ⟨g12, A7, c7⟩ w18 ⟨qeJ, F5⟩
     dsimp only at F5 ⊢
     have hHeld : (∀ j : Nat, w18.cell? ⟨gb, j, none⟩ = [.slice A1 R.l.length c1, .bool R.dn, .int .i64 R.fu, .int .i64 R.fa, .int .i64 R.size, .int .u64 R.fr, .int .u64 R.nx, .bool R.br][j]?) ∧ Sp.Sep w w18 [box gb [.slice A1 R.l.length c1, .bool R.dn, .int .i64 R.fu, .int .i64 R.fa, .int .i64 R.size, .int .u64 R.fr, .int .u64 R.nx, .bool R.br] 30, row k67 67 (.slice A1 (R.l).length c1) R.l, row k62 62 (.slice A2 (rs).length c2) rs, box gz [.slice none 0 0, .bool false, .int .i64 0, .int .i64 0, .int .i64 0, .int .u64 0, .int .u64 0, .bool false, .slice none 0 0, .int .i64 0] 33, box gd [.slice A l.length c, .bool dn, .int .i64 fu, .int .i64 fa] 27] := ⟨qeJ, F5.dJ.dJ⟩
     have k18 := fun j => F5.cell (g := g12) aQ j
     have f18 := fun j => F5.frozen (g := g12) aQ j
     refine fH (a' := ?_) ?_ ?_
     rotate_left
     ·simp only [wB, Act.put, zA, zZ, zS]
      rfl
     refine laS (i := 6) (N := none) rfl rfl (by kernel_rfl) (by decide) (fun K hK => ?_)
     refine xO (w1 := ?_) (by rfl) rfl ?_ ?_
     rotate_left
     ·go_simp
      rfl
     refine hK.out _ _ ?_
     clear hK K
     refine jT (by kernel_rfl) ?_
     refine uI (rs := [box g12 [.slice A1 R.l.length c1, .bool R.dn, .int .i64 R.fu, .int .i64 R.fa, .int .i64 R.size, .int .u64 R.fr, .int .u64 R.nx, .bool R.br, .slice A7 es.length c7, .int .i64 most] 33, row k41 41 (.slice A7 (es).length c7) es, box gb [.slice A1 R.l.length c1, .bool R.dn, .int .i64 R.fu, .int .i64 R.fa, .int .i64 R.size, .int .u64 R.fr, .int .u64 R.nx, .bool R.br] 30, row k67 67 (.slice A1 (R.l).length c1) R.l, row k62 62 (.slice A2 (rs).length c2) rs, box gz [.slice none 0 0, .bool false, .int .i64 0, .int .i64 0, .int .i64 0, .int .u64 0, .int .u64 0, .bool false, .slice none 0 0, .int .i64 0] 33, box gd [.slice A l.length c, .bool dn, .int .i64 fu, .int .i64 fa] 27]) (Sep.set0 (Sep.set0 (Sep.set0 (Sep.set0 (Sep.set0 (Sep.set0 (Sep.set0 (Sep.set0 (Sep.set0 (Sep.set0 F5 0 (.slice A1 R.l.length c1) rfl) 1 (.bool R.dn) rfl) 2 (.int .i64 R.fu) rfl) 3 (.int .i64 R.fa) rfl) 4 (.int .i64 R.size) rfl) 5 (.int .u64 R.fr) rfl) 6 (.int .u64 R.nx) rfl) 7 (.bool R.br) rfl) 8 (.slice A7 es.length c7) rfl) 9 (.int .i64 most) rfl) ?_
     clear F5 k18 f18
     intro wd9 n_
     clear H c_b z_b c_z z_z c_d
     have H := n_
     clear n_
     have c_k := H.out.cell (g := g12) aQ
     have c_b := H.out.cell (g := gb) mem2
     have z_b := H.out.frozen (g := gb) mem2
     have c_z := H.out.cell (g := gz) eF
     have z_z := H.out.frozen (g := gz) eF
     have c_d := H.out.cell (g := gd) rP
     by_cases h24 : 1024 < es.length
     ·
      have qin : (1024 : Int) < (es.length : Int) := by omega
      have hOV := HOV.out
      rw [if_pos h24] at hOV
      go_wp2_with (first
 |((with_reducible refine aX (t := 33) (p := 6) rfl ?_);
   refine bM (rs1 := [box g12 [.slice A1 R.l.length c1, .bool R.dn, .int .i64 R.fu, .int .i64 R.fa, .int .i64 R.size, .int .u64 R.fr, .int .u64 R.nx, .bool R.br, .slice A7 es.length c7, .int .i64 most] 33, row k41 41 (.slice A7 (es).length c7) es, box gb [.slice A1 R.l.length c1, .bool R.dn, .int .i64 R.fu, .int .i64 R.fa, .int .i64 R.size, .int .u64 R.fr, .int .u64 R.nx, .bool R.br] 30, row k67 67 (.slice A1 (R.l).length c1) R.l, row k62 62 (.slice A2 (rs).length c2) rs, box gz [.slice none 0 0, .bool false, .int .i64 0, .int .i64 0, .int .i64 0, .int .u64 0, .int .u64 0, .bool false, .slice none 0 0, .int .i64 0] 33, box gd [.slice A l.length c, .bool dn, .int .i64 fu, .int .i64 fa] 27]) rfl (t := 33) (p := 6) rfl rfl ?hr (H1 := (Sep.iJ (Sep.iJ (Sep.iJ (Sep.iJ (Sep.iJ (Sep.iJ (Sep.iJ (Sep.iJ (Sep.iJ (Sep.iJ H.out 0 (.slice none 0 0) rfl) 1 (.bool false) rfl) 2 (.int .i64 0) rfl) 3 (.int .i64 0) rfl) 4 (.int .i64 0) rfl) 5 (.int .u64 0) rfl) 6 (.int .u64 0) rfl) 7 (.bool false) rfl) 8 (.slice none 0 0) rfl) 9 (.int .i64 0) rfl)) ?_;
   (case hr => first | (go_simp; done) | (go_simp; rfl));
   intro FN n_;
   clear H c_k c_b z_b c_z z_z c_d;
   have H := n_;
   clear n_;
   have c_k := H.out.cell (g := g12) aQ;
   have c_b := H.out.cell (g := gb) mem2;
   have z_b := H.out.frozen (g := gb) mem2;
   have c_z := H.out.cell (g := gz) eF;
   have z_z := H.out.frozen (g := gz) eF;
   have c_d := H.out.cell (g := gd) rP)
 |fail)
      refine bodyPost_ret (dS (rs := [.cell 6 33, .tmp 7]) rfl (by simp) (.cell gz 33 _ _ _ rfl (H.out.lD (g := gz) eF) Tryz.underlying33 rfl info33 (.tmp .nil))) rfl ?_
      subst hOV
      exact ⟨none, 0, none, 0, rfl, ⟨Sep.eX (Sep.eX (Sep.dJ (Sep.drop1 (Sep.drop2 (Sep.jU (Sep.oK (Sep.xQ (Sep.XB H.out))))))))⟩⟩
     ·
      have qin : ¬ (1024 : Int) < (es.length : Int) := by omega
      have hOV := HOV.out
      rw [if_neg h24] at hOV
      go_wp2_with (first
 |((with_reducible refine aX (t := 33) (p := 6) rfl ?_);
   refine bM (rs1 := [box g12 [.slice A1 R.l.length c1, .bool R.dn, .int .i64 R.fu, .int .i64 R.fa, .int .i64 R.size, .int .u64 R.fr, .int .u64 R.nx, .bool R.br, .slice A7 es.length c7, .int .i64 most] 33, row k41 41 (.slice A7 (es).length c7) es, box gb [.slice A1 R.l.length c1, .bool R.dn, .int .i64 R.fu, .int .i64 R.fa, .int .i64 R.size, .int .u64 R.fr, .int .u64 R.nx, .bool R.br] 30, row k67 67 (.slice A1 (R.l).length c1) R.l, row k62 62 (.slice A2 (rs).length c2) rs, box gz [.slice A1 R.l.length c1, .bool R.dn, .int .i64 R.fu, .int .i64 R.fa, .int .i64 R.size, .int .u64 R.fr, .int .u64 R.nx, .bool R.br, .slice A7 es.length c7, .int .i64 most] 33, box gd [.slice A l.length c, .bool dn, .int .i64 fu, .int .i64 fa] 27]) rfl (t := 33) (p := 6) rfl rfl ?hr (H1 := (Sep.iJ (Sep.iJ (Sep.iJ (Sep.iJ (Sep.iJ (Sep.iJ (Sep.iJ (Sep.iJ (Sep.iJ (Sep.iJ H.out 0 (.slice A1 R.l.length c1) rfl) 1 (.bool R.dn) rfl) 2 (.int .i64 R.fu) rfl) 3 (.int .i64 R.fa) rfl) 4 (.int .i64 R.size) rfl) 5 (.int .u64 R.fr) rfl) 6 (.int .u64 R.nx) rfl) 7 (.bool R.br) rfl) 8 (.slice A7 es.length c7) rfl) 9 (.int .i64 most) rfl)) ?_;
   (case hr => first | (go_simp; done) | (go_simp; rfl));
   intro OU n_;
   clear H c_k c_b z_b c_z z_z c_d;
   have H := n_;
   clear n_;
   have c_k := H.out.cell (g := g12) aQ;
   have c_b := H.out.cell (g := gb) mem2;
   have z_b := H.out.frozen (g := gb) mem2;
   have c_z := H.out.cell (g := gz) eF;
   have z_z := H.out.frozen (g := gz) eF;
   have c_d := H.out.cell (g := gd) rP)
 |fail)
      refine bodyPost_ret (dS (rs := [.cell 6 33, .tmp 7]) rfl (by simp) (.cell gz 33 _ _ _ rfl (H.out.lD (g := gz) eF) Tryz.underlying33 rfl info33 (.tmp .nil))) rfl ?_
      subst hOV
      exact ⟨A1, c1, A7, c7, rfl, ⟨(Sep.jK (Sep.dJ (Sep.drop2 (Sep.oK (Sep.xQ (Sep.XB H.out))))))⟩⟩
    ·
     cases hbr : R.br
     ·
      have hOV : O = (Qz, e) := by rw [HO.out, l7, if_pos HOK.out, if_neg HM.out, HOF.out]; simp only; rw [if_neg hz, hbr, if_neg (by simp)]
      go_wp2_with (first
 |((with_reducible refine aV (N := 9) rfl ?_);
   refine bP rfl H (cs := [.slice none 0 0, .bool false, .int .i64 0, .int .i64 0, .int .i64 0, .int .u64 0, .int .u64 0, .bool false]) (t := 30) ?hr ?_;
   (case hr => first | (go_simp; done) | (go_simp; rfl));
   intro gb FP n_;
   simp only [Act.put, zA, zZ, zS];
   clear H c_z z_z c_d;
   have H := n_;
   clear n_;
   have c_b := H.out.cell (g := gb) aQ;
   have z_b := H.out.frozen (g := gb) aQ;
   have c_z := H.out.cell (g := gz) mem3;
   have z_z := H.out.frozen (g := gz) mem3;
   have c_d := H.out.cell (g := gd) dM)
 |((with_reducible refine aX (t := 30) (p := 9) rfl ?_);
   refine bM (rs1 := [box gb [.slice A1 R.l.length c1, .bool R.dn, .int .i64 R.fu, .int .i64 R.fa, .int .i64 R.size, .int .u64 R.fr, .int .u64 R.nx, .bool false] 30, row k67 67 (.slice A1 (R.l).length c1) R.l, row k62 62 (.slice A2 (rs).length c2) rs, box gz [.slice none 0 0, .bool false, .int .i64 0, .int .i64 0, .int .i64 0, .int .u64 0, .int .u64 0, .bool false, .slice none 0 0, .int .i64 0] 33, box gd [.slice A l.length c, .bool dn, .int .i64 fu, .int .i64 fa] 27]) rfl (t := 30) (p := 9) rfl rfl ?hr (H1 := (Sep.set0 (Sep.set0 (Sep.set0 (Sep.set0 (Sep.set0 (Sep.set0 (Sep.set0 (Sep.set0 H.out 0 (.slice A1 R.l.length c1) rfl) 1 (.bool R.dn) rfl) 2 (.int .i64 R.fu) rfl) 3 (.int .i64 R.fa) rfl) 4 (.int .i64 R.size) rfl) 5 (.int .u64 R.fr) rfl) 6 (.int .u64 R.nx) rfl) 7 (.bool false) rfl)) ?_;
   (case hr => first | (go_simp; done) | (go_simp; rfl));
   intro SX n_;
   clear H c_b z_b c_z z_z c_d;
   have H := n_;
   clear n_;
   have c_b := H.out.cell (g := gb) aQ;
   have z_b := H.out.frozen (g := gb) aQ;
   have c_z := H.out.cell (g := gz) mem3;
   have z_z := H.out.frozen (g := gz) mem3;
   have c_d := H.out.cell (g := gd) dM)
 |((with_reducible refine aX (t := 33) (p := 6) rfl ?_);
   refine bM (rs1 := [box gb [.slice A1 R.l.length c1, .bool R.dn, .int .i64 R.fu, .int .i64 R.fa, .int .i64 R.size, .int .u64 R.fr, .int .u64 R.nx, .bool false] 30, row k67 67 (.slice A1 (R.l).length c1) R.l, row k62 62 (.slice A2 (rs).length c2) rs, box gz [.slice none 0 0, .bool false, .int .i64 0, .int .i64 0, .int .i64 0, .int .u64 0, .int .u64 0, .bool false, .slice none 0 0, .int .i64 0] 33, box gd [.slice A l.length c, .bool dn, .int .i64 fu, .int .i64 fa] 27]) rfl (t := 33) (p := 6) rfl rfl ?hr (H1 := (Sep.eU (Sep.eU (Sep.eU (Sep.eU (Sep.eU (Sep.eU (Sep.eU (Sep.eU (Sep.eU (Sep.eU H.out 0 (.slice none 0 0) rfl) 1 (.bool false) rfl) 2 (.int .i64 0) rfl) 3 (.int .i64 0) rfl) 4 (.int .i64 0) rfl) 5 (.int .u64 0) rfl) 6 (.int .u64 0) rfl) 7 (.bool false) rfl) 8 (.slice none 0 0) rfl) 9 (.int .i64 0) rfl)) ?_;
   (case hr => first | (go_simp; done) | (go_simp; rfl));
   intro qav n_;
   clear H c_b z_b c_z z_z c_d;
   have H := n_;
   clear n_;
   have c_b := H.out.cell (g := gb) aQ;
   have z_b := H.out.frozen (g := gb) aQ;
   have c_z := H.out.cell (g := gz) mem3;
   have z_z := H.out.frozen (g := gz) mem3;
   have c_d := H.out.cell (g := gd) dM)
 |fail)
      refine bodyPost_ret (dS (rs := [.cell 6 33, .tmp 7]) rfl (by simp) (.cell gz 33 _ _ _ rfl (H.out.lD (g := gz) mem3) Tryz.underlying33 rfl info33 (.tmp .nil))) rfl ?_
      subst hOV
      exact ⟨none, 0, none, 0, rfl, ⟨Sep.eX (Sep.eX (Sep.dJ (Sep.drop1 (Sep.drop2 (Sep.jU (Sep.oK H.out))))))⟩⟩
     ·
      have hOV : O = (⟨R, [], most⟩, e) := by rw [HO.out, l7, if_pos HOK.out, if_neg HM.out, HOF.out]; simp only; rw [if_neg hz, hbr, if_pos rfl]
      go_wp2_with (first
 |((with_reducible refine aV (N := 9) rfl ?_);
   refine bP rfl H (cs := [.slice none 0 0, .bool false, .int .i64 0, .int .i64 0, .int .i64 0, .int .u64 0, .int .u64 0, .bool false]) (t := 30) ?hr ?_;
   (case hr => first | (go_simp; done) | (go_simp; rfl));
   intro gb qbU n_;
   simp only [Act.put, zA, zZ, zS];
   clear H c_z z_z c_d;
   have H := n_;
   clear n_;
   have c_b := H.out.cell (g := gb) aQ;
   have z_b := H.out.frozen (g := gb) aQ;
   have c_z := H.out.cell (g := gz) mem3;
   have z_z := H.out.frozen (g := gz) mem3;
   have c_d := H.out.cell (g := gd) dM)
 |((with_reducible refine aX (t := 30) (p := 9) rfl ?_);
   refine bM (rs1 := [box gb [.slice A1 R.l.length c1, .bool R.dn, .int .i64 R.fu, .int .i64 R.fa, .int .i64 R.size, .int .u64 R.fr, .int .u64 R.nx, .bool true] 30, row k67 67 (.slice A1 (R.l).length c1) R.l, row k62 62 (.slice A2 (rs).length c2) rs, box gz [.slice none 0 0, .bool false, .int .i64 0, .int .i64 0, .int .i64 0, .int .u64 0, .int .u64 0, .bool false, .slice none 0 0, .int .i64 0] 33, box gd [.slice A l.length c, .bool dn, .int .i64 fu, .int .i64 fa] 27]) rfl (t := 30) (p := 9) rfl rfl ?hr (H1 := (Sep.set0 (Sep.set0 (Sep.set0 (Sep.set0 (Sep.set0 (Sep.set0 (Sep.set0 (Sep.set0 H.out 0 (.slice A1 R.l.length c1) rfl) 1 (.bool R.dn) rfl) 2 (.int .i64 R.fu) rfl) 3 (.int .i64 R.fa) rfl) 4 (.int .i64 R.size) rfl) 5 (.int .u64 R.fr) rfl) 6 (.int .u64 R.nx) rfl) 7 (.bool true) rfl)) ?_;
   (case hr => first | (go_simp; done) | (go_simp; rfl));
   intro qcW n_;
   clear H c_b z_b c_z z_z c_d;
   have H := n_;
   clear n_;
   have c_b := H.out.cell (g := gb) aQ;
   have z_b := H.out.frozen (g := gb) aQ;
   have c_z := H.out.cell (g := gz) mem3;
   have z_z := H.out.frozen (g := gz) mem3;
   have c_d := H.out.cell (g := gd) dM)
 |((with_reducible refine aX (t := 33) (p := 6) rfl ?_);
   refine bM (rs1 := [box gb [.slice A1 R.l.length c1, .bool R.dn, .int .i64 R.fu, .int .i64 R.fa, .int .i64 R.size, .int .u64 R.fr, .int .u64 R.nx, .bool true] 30, row k67 67 (.slice A1 (R.l).length c1) R.l, row k62 62 (.slice A2 (rs).length c2) rs, box gz [.slice A1 R.l.length c1, .bool R.dn, .int .i64 R.fu, .int .i64 R.fa, .int .i64 R.size, .int .u64 R.fr, .int .u64 R.nx, .bool true, .slice none 0 0, .int .i64 most] 33, box gd [.slice A l.length c, .bool dn, .int .i64 fu, .int .i64 fa] 27]) rfl (t := 33) (p := 6) rfl rfl ?hr (H1 := (Sep.eU (Sep.eU (Sep.eU (Sep.eU (Sep.eU (Sep.eU (Sep.eU (Sep.eU (Sep.eU (Sep.eU H.out 0 (.slice A1 R.l.length c1) rfl) 1 (.bool R.dn) rfl) 2 (.int .i64 R.fu) rfl) 3 (.int .i64 R.fa) rfl) 4 (.int .i64 R.size) rfl) 5 (.int .u64 R.fr) rfl) 6 (.int .u64 R.nx) rfl) 7 (.bool true) rfl) 8 (.slice none 0 0) rfl) 9 (.int .i64 most) rfl)) ?_;
   (case hr => first | (go_simp; done) | (go_simp; rfl));
   intro qaw n_;
   clear H c_b z_b c_z z_z c_d;
   have H := n_;
   clear n_;
   have c_b := H.out.cell (g := gb) aQ;
   have z_b := H.out.frozen (g := gb) aQ;
   have c_z := H.out.cell (g := gz) mem3;
   have z_z := H.out.frozen (g := gz) mem3;
   have c_d := H.out.cell (g := gd) dM)
 |fail)
      refine bodyPost_ret (dS (rs := [.cell 6 33, .tmp 7]) rfl (by simp) (.cell gz 33 _ _ _ rfl (H.out.lD (g := gz) mem3) Tryz.underlying33 rfl info33 (.tmp .nil))) rfl ?_
      subst hOV
      refine ⟨A1, c1, none, 0, ?_, ⟨Sep.jK (Sep.eX (Sep.dJ (Sep.drop2 (Sep.jU (Sep.oK H.out)))))⟩⟩
      simp only [qc, lgc, hbr]
      rfl
 ·
  refine ((dO.calls A c l dn fu fa 6 _ (H.out.came HRp.out) HCp.out (by rw [dO.f, if_neg hok])).mono ?_)
  rintro e qcX ⟨rfl, hb_⟩
  have n_ : aC (Sep w qcX [box gz [.slice none 0 0, .bool false, .int .i64 0, .int .i64 0, .int .i64 0, .int .u64 0, .int .u64 0, .bool false, .slice none 0 0, .int .i64 0] 33, box gd [.slice A l.length c, .bool dn, .int .i64 fu, .int .i64 fa] 27]) := ⟨H.out.step hb_⟩
  clear H c_z z_z c_d
  have H := n_
  clear n_
  have c_z := H.out.cell (g := gz) aQ
  have z_z := H.out.frozen (g := gz) aQ
  have c_d := H.out.cell (g := gd) mem1
  clear hb_
  have hOV : O = (Qz, 6) := by rw [HO.out, l7, if_neg hok]
  go_wp2_with (first
 |((with_reducible refine aX (t := 33) (p := 6) rfl ?_);
   refine bM (rs1 := [box gz [.slice none 0 0, .bool false, .int .i64 0, .int .i64 0, .int .i64 0, .int .u64 0, .int .u64 0, .bool false, .slice none 0 0, .int .i64 0] 33, box gd [.slice A l.length c, .bool dn, .int .i64 fu, .int .i64 fa] 27]) rfl (t := 33) (p := 6) rfl rfl ?hr (H1 := (Sep.set0 (Sep.set0 (Sep.set0 (Sep.set0 (Sep.set0 (Sep.set0 (Sep.set0 (Sep.set0 (Sep.set0 (Sep.set0 H.out 0 (.slice none 0 0) rfl) 1 (.bool false) rfl) 2 (.int .i64 0) rfl) 3 (.int .i64 0) rfl) 4 (.int .i64 0) rfl) 5 (.int .u64 0) rfl) 6 (.int .u64 0) rfl) 7 (.bool false) rfl) 8 (.slice none 0 0) rfl) 9 (.int .i64 0) rfl)) ?_;
   (case hr => first | (go_simp; done) | (go_simp; rfl));
   intro qer n_;
   clear H c_z z_z c_d;
   have H := n_;
   clear n_;
   have c_z := H.out.cell (g := gz) aQ;
   have z_z := H.out.frozen (g := gz) aQ;
   have c_d := H.out.cell (g := gd) mem1)
 |fail)
  refine bodyPost_ret (dS (rs := [.cell 6 33, .tmp 7]) rfl (by simp) (.cell gz 33 _ _ _ rfl (H.out.lD (g := gz) aQ) Tryz.underlying33 rfl info33 (.tmp .nil))) rfl ?_
  subst hOV
  exact ⟨none, 0, none, 0, rfl, ⟨Sep.eX (Sep.eX (Sep.dJ (Sep.drop1 H.out)))⟩⟩
theorem WL (s : ByteArray) (k : Nat) : bt s (k : Int) = ((((byt s)[k]?).map UInt8.toNat).getD 0 : Nat) := by
 unfold bt
 simp only [Int.toNat_natCast]
 split
 ·rename_i h
  have h2 : k < (byt s).length := by rw [dG]; exact h
  rw [List.getElem?_eq_getElem h2]
  rfl
 ·rename_i h
  rw [List.getElem?_eq_none (by rw [dG]; omega)]
  rfl
theorem QG (data : ByteArray) : byt (P80 ++ data) = 80 :: byt data := by rw [wL]; rfl
theorem qcs (data : ByteArray) : bt (P80 ++ data) 0 = 80 := by
 have := WL (P80 ++ data) 0
 rw [QG] at this
 exact this
theorem D7 (data : ByteArray) : (P80 ++ data).size = data.size + 1 := by
 rw [← dG, QG, List.length_cons, dG]
theorem NS (data : ByteArray) : qI (P80 ++ data) = none := by
 rw [qI, if_neg]
 rintro ⟨_, h⟩
 rw [qcs] at h
 omega
theorem qaO (data : ByteArray) : qcl (P80 ++ data) := by
 refine ⟨fun h => ?_, qcs data⟩
 have := congrArg ByteArray.size h
 rw [D7] at this
 cases this
theorem qct (data : ByteArray) : (P80 ++ data).extract 1 (P80 ++ data).size = data := by
 apply pY
 rw [qZ, QG, D7, List.take_of_length_le (by rw [List.length_cons, dG]; omega)]
 rfl
theorem D8 (a b : List S62) (n : Int) : kS (a ++ b) n = kS a n + kS b n := by
 unfold kS
 rw [List.filter_append, List.length_append]
theorem yP (m : Int) (data : ByteArray) : ∀ rs : List S62, dH (rs ++ [⟨m, P80 ++ data⟩]) = dH rs ++ [⟨m, data, false⟩]
 | [] => by
  show dH [⟨m, P80 ++ data⟩] = [⟨m, data, false⟩]
  rw [dH, if_pos ⟨NS data, qaO data, rfl⟩, qct]
  rfl
 | r :: rest => by
  have h1 : kS (rest ++ [⟨m, P80 ++ data⟩]) r.f0 = kS rest r.f0 := by
   rw [D8, wV, if_neg (by rw [NS]; simp)]
   rfl
  rw [List.cons_append, dH, dH, h1, yP m data rest]
  split <;> rfl
theorem yQ {m q : Int} {s : ByteArray} (h : qI s = some q) : ∀ rs : List S62, dH (rs ++ [⟨m, s⟩]) = (dH rs).filter fun x => decide (x.f0 ≠ q)
 | [] => by
  show dH [⟨m, s⟩] = []
  rw [dH, if_neg (fun g => by have g1 := g.1; rw [h] at g1; cases g1)]
  rfl
 | r :: rest => by
  have hg : kS (rest ++ [⟨m, s⟩]) r.f0 = if r.f0 = q then kS rest r.f0 + 1 else kS rest r.f0 := by
   rw [D8, wV]
   show kS rest r.f0 + (if qI s = some r.f0 then 0 + 1 else 0) = _
   rw [h]
   by_cases hq : r.f0 = q
   ·rw [if_pos hq, if_pos (by rw [hq])]
   ·rw [if_neg hq, if_neg (fun g => hq (Option.some.inj g).symm)]
    rfl
  rw [List.cons_append, dH, dH, yQ h rest, hg]
  by_cases hq : r.f0 = q
  ·rw [if_pos hq, if_neg (fun g => by have := g.2.2; omega)]
   split
   ·rw [List.filter_cons, if_neg (by simp [hq])]
   ·rfl
  ·rw [if_neg hq]
   by_cases hc : qI r.f1 = none ∧ qcl r.f1 ∧ kS rest r.f0 = 0
   ·rw [if_pos hc, if_pos hc, List.filter_cons, if_pos (by simp [hq])]
   ·rw [if_neg hc, if_neg hc]
theorem uY (b : List S62) : ∀ a : List S62, ∃ X, dH (a ++ b) = X ++ dH b ∧ ∀ x ∈ X, ∃ r ∈ a, r.f0 = x.f0
 | [] => ⟨[], rfl, by simp⟩
 | r :: a => by
  obtain ⟨X, h1, h2⟩ := uY b a
  rw [List.cons_append, dH, h1]
  split
  ·refine ⟨_ :: X, rfl, fun x hx => ?_⟩
   rcases List.mem_cons.1 hx with rfl | hx
   ·exact ⟨r, List.mem_cons_self .., rfl⟩
   ·obtain ⟨s, hs, e⟩ := h2 x hx
    exact ⟨s, List.mem_cons_of_mem _ hs, e⟩
  ·refine ⟨X, rfl, fun x hx => ?_⟩
   obtain ⟨s, hs, e⟩ := h2 x hx
   exact ⟨s, List.mem_cons_of_mem _ hs, e⟩
theorem NT {nx : Int} : ∀ {l : List S41} {least WM : Int}, WM ≤ least → tX nx least l → tX nx WM l
 | [], _, _, _, _ => trivial
 | x :: r, least, WM, h, g => ⟨g.1, by have := g.2.1; omega, g.2.2.1, g.2.2.2⟩
theorem QH {nx nx' : Int} (h : nx ≤ nx') : ∀ {l : List S41} {least : Int}, tX nx least l → tX nx' least l
 | [], _, _ => trivial
 | x :: r, least, g => ⟨g.1, g.2.1, by have := g.2.2.1; omega, QH h g.2.2.2⟩
theorem extract_size (s : ByteArray) : (s.extract 1 s.size).size = s.size - 1 := by
 simp only [ByteArray.size_extract]
 omega
theorem D9 {nx : Int} : ∀ (ds : List dZ.Bytes) (n : Nat), ((n + ds.length : Nat) : Int) ≤ nx → (∀ d ∈ ds, d.length ≤ 65536) → tX nx (n : Int) (dH (bU ds n))
 | [], n, _, _ => trivial
 | d :: ds, n, h, hs => by
  simp only [List.length_cons] at h
  have ih := D9 ds (n + 1) (by rw [show n + 1 + ds.length = n + (ds.length + 1) by omega]; exact h) (fun x hx => hs x (List.mem_cons_of_mem _ hx))
  rw [bU, dH]
  split
  ·rename_i hc
   have hd := hs d (List.mem_cons_self ..)
   have hz : (⟨d.toArray⟩ : ByteArray).size = d.length := by rw [← dG, qK]
   refine ⟨?_, Int.le_refl _, by show (n : Int) < nx; omega, ?_⟩
   ·show ((⟨d.toArray⟩ : ByteArray).extract 1 (⟨d.toArray⟩ : ByteArray).size).size < 65536
    rw [extract_size, hz]
    have : d.length ≠ 0 := fun h0 => hc.2.1.1 (ByteArray.size_eq_zero_iff.1 (by rw [hz]; exact h0))
    omega
   ·exact ih
  ·exact NT (by omega) ih
theorem IJ : ∀ (n : Nat) (a : List Pl) (ds : List dZ.Bytes) (m : Nat), chain SU n a ds m → ∀ d ∈ ds, d.length ≤ 65536
 | n, [], ds, m, h, d, hd => by obtain ⟨rfl, _⟩ := h; cases hd
 | n, p :: r, ds, m, h, d, hd => by
  obtain ⟨h1, d1, d2, rfl, h3, h4⟩ := h
  rcases List.mem_append.1 hd with hd | hd
  ·exact (rH h3).2 d hd
  ·exact IJ _ r d2 m h4 d hd
def strip (l : List S41) : List S41 := l.map fun x => ⟨x.f0, x.f1, false⟩
theorem NU (l : List S41) : (strip l).length = l.length := List.length_map ..
theorem LP {nx : Int} : ∀ {l : List S41} {least : Int}, tX nx least (strip l) ↔ tX nx least l
 | [], _ => Iff.rfl
 | x :: r, least => by
  have ih := LP (nx := nx) (l := r) (least := x.f0 + 1)
  exact ⟨fun h => ⟨h.1, h.2.1, h.2.2.1, ih.1 h.2.2.2⟩, fun h => ⟨h.1, h.2.1, h.2.2.1, ih.2 h.2.2.2⟩⟩
structure QW (Q : Qu) (ds : List dZ.Bytes) (n m : Nat) : Prop where
 wf : WF Q.L ds n m
 sy : Sy Q.L.l
 fu : Q.L.fu = -1
 fa : Q.L.fa = -1
 lo : 1 ≤ Q.most
 hi : Q.most ≤ 1024
 len : Q.es.length ≤ 1024
 es : strip Q.es = dH (bU ds n)
theorem QW.oks {Q : Qu} {ds : List dZ.Bytes} {n m : Nat} (h : QW Q ds n m) : tX Q.L.nx Q.L.fr Q.es := by
 rw [← LP, h.es, h.wf.fr]
 refine D9 ds n ?_ (IJ n _ ds m h.wf.ch)
 rw [h.wf.nx, oZ SU n _ ds m h.wf.ch]
 exact Int.le_refl _
theorem QW.ok {Q : Qu} {ds : List dZ.Bytes} {n m : Nat} (h : QW Q ds n m) : okQ Q := ⟨h.wf.okL, h.lo, h.hi, h.len, h.oks⟩
theorem QW.fr0 {Q : Qu} {ds : List dZ.Bytes} {n m : Nat} (h : QW Q ds n m) : 0 ≤ Q.L.fr := by rw [h.wf.fr]; omega
theorem QW.nx0 {Q : Qu} {ds : List dZ.Bytes} {n m : Nat} (h : QW Q ds n m) : 0 ≤ Q.L.nx ∧ Q.L.nx < 18446744073709551616 := by
 have h1 := h.wf.nx
 have h2 := h.wf.top
 unfold most at h2
 omega
theorem iE {Q : Qu} (h : okQ Q) (hb : Q.L.br = false) (D : Qu × Int) : lH Q D = D := by rw [lH, if_pos h, hb, if_neg (by simp)]
theorem TT {Q : Qu} (h : okQ Q) (hb : Q.L.br = true) (D : Qu × Int) : lH Q D = (Q, 6) := by rw [lH, if_pos h, hb, if_pos rfl]
theorem qaP {Q : Qu} (h : ¬ okQ Q) (D : Qu × Int) : lH Q D = (Qz, 6) := by rw [lH, if_neg h]
theorem WO {l : List S67} {es : List dZ.Bytes} {n : Nat} {size most : Int} (h : Back l es n) (h0 : 1 ≤ size) (h1 : size ≤ 262144) (m0 : 1 ≤ most) (m1 : most ≤ 1024) (hl : (dH (bU es n)).length ≤ 1024) :
  ∃ L, l7 l false (-1) (-1) size most = (⟨L, dH (bU es n), most⟩, 0) ∧ WF L es n (n + es.length) ∧ L.fu = -1 ∧ L.fa = -1 ∧ L.size = size := by
 obtain ⟨M, o1, o2, o3, o4, o5⟩ := h.opens h0 h1
 refine ⟨M, ?_, o2, o3, o4, o5⟩
 rw [l7, if_pos h.right, if_neg (by omega), o1]
 simp only
 rw [if_pos trivial, if_neg (by omega)]
theorem yR (q : Int) (k : Nat) (hk : k < 8) : bt (kD q) ((k + 1 : Nat) : Int) = byteAt q k := by
 have h1 : (byt (kD q))[k + 1]? = some (UInt8.ofNat (byteAt q k).toNat) := by
  rw [kD, DV, qdp, rQ, List.map_cons, List.getElem?_cons_succ, List.getElem?_map, List.getElem?_map, List.getElem?_range hk]
  rfl
 have h2 : 0 ≤ byteAt q k ∧ byteAt q k < 256 := by unfold byteAt; omega
 rw [WL, h1]
 simp only [Option.map_some, Option.getD_some, UInt8.toNat_ofNat']
 omega
theorem qaQ (q : Int) : bt (kD q) 0 = 65 := by
 have h := WL (kD q) 0
 rw [kD, DV, qdp, List.map_cons] at h
 rw [kD]
 exact h
theorem NV {q : Int} (h0 : 0 ≤ q) (h1 : q < 18446744073709551616) : qI (kD q) = some q := by
 rw [qI, if_pos ⟨NG q, qaQ q⟩]
 have a0 : bt (kD q) ((8 - 7 : Nat) : Int) = byteAt q 0 := yR q 0 (by decide)
 have a1 : bt (kD q) ((8 - 6 : Nat) : Int) = byteAt q 1 := yR q 1 (by decide)
 have a2 : bt (kD q) ((8 - 5 : Nat) : Int) = byteAt q 2 := yR q 2 (by decide)
 have a3 : bt (kD q) ((8 - 4 : Nat) : Int) = byteAt q 3 := yR q 3 (by decide)
 have a4 : bt (kD q) ((8 - 3 : Nat) : Int) = byteAt q 4 := yR q 4 (by decide)
 have a5 : bt (kD q) ((8 - 2 : Nat) : Int) = byteAt q 5 := yR q 5 (by decide)
 have a6 : bt (kD q) ((8 - 1 : Nat) : Int) = byteAt q 6 := yR q 6 (by decide)
 have a7 : bt (kD q) ((8 - 0 : Nat) : Int) = byteAt q 7 := yR q 7 (by decide)
 have e : nvF (kD q) 8 = q := by
  rw [nvF, nvF, nvF, nvF, nvF, nvF, nvF, nvF, nvF, a0, a1, a2, a3, a4, a5, a6, a7]
  unfold byteAt
  rw [show (2 : Int) ^ (8 * 0) = 1 from rfl, show (2 : Int) ^ (8 * 1) = 256 from rfl, show (2 : Int) ^ (8 * 2) = 65536 from rfl, show (2 : Int) ^ (8 * 3) = 16777216 from rfl, show (2 : Int) ^ (8 * 4) = 4294967296 from rfl, show (2 : Int) ^ (8 * 5) = 1099511627776 from rfl, show (2 : Int) ^ (8 * 6) = 281474976710656 from rfl, show (2 : Int) ^ (8 * 7) = 72057594037927936 from rfl]
  omega
 rw [e]
theorem wX {nx : Int} : ∀ {l : List S41} {least : Int}, tX nx least l → ∀ x ∈ l, least ≤ x.f0
 | [], _, _, x, hx => by cases hx
 | y :: r, least, h, x, hx => by
  obtain ⟨_, h2, _, h4⟩ := h
  rcases List.mem_cons.1 hx with rfl | hx
  ·exact h2
  ·have := wX h4 x hx
   omega
theorem IK {nx nx' : Int} {l : List S41} {least : Int} (h : tX nx least l) : ∀ x ∈ l, uN l nx' ≤ x.f0 := by
 intro x hx
 cases l with
 | nil => cases hx
 | cons y r =>
  rcases List.mem_cons.1 hx with rfl | hx
  ·exact Int.le_refl _
  ·have := wX h.2.2.2 x hx
   show y.f0 ≤ _
   omega
theorem BK {nx : Int} : ∀ {l : List S41} {least : Int} (i : Nat), tX nx least l → tX nx least (l.eraseIdx i)
 | [], _, _, h => h
 | y :: r, least, 0, h => NT (by have := h.2.1; omega) h.2.2.2
 | y :: r, least, i + 1, h => ⟨h.1, h.2.1, h.2.2.1, BK i h.2.2.2⟩
theorem qF {nx q : Int} : ∀ {l : List S41} {least : Int} {i : Nat} {x : S41}, tX nx least l → l[i]? = some x → x.f0 = q → (strip l).filter (fun x => decide (x.f0 ≠ q)) = strip (l.eraseIdx i)
 | [], _, i, x, _, hx, _ => by simp at hx
 | y :: r, least, 0, x, h, hx, hq => by
  obtain rfl : y = x := by simpa using hx
  show ((⟨y.f0, y.f1, false⟩ : S41) :: strip r).filter _ = strip r
  rw [List.filter_cons, if_neg (by simp [hq]), List.filter_eq_self]
  intro z hz
  obtain ⟨z2, hz2, rfl⟩ := List.mem_map.1 hz
  have := wX h.2.2.2 z2 hz2
  simp only [ne_eq, decide_eq_true_eq]
  omega
 | y :: r, least, i + 1, x, h, hx, hq => by
  have hx2 : r[i]? = some x := by simpa using hx
  have h2 := wX h.2.2.2 x (List.mem_of_getElem? hx2)
  show ((⟨y.f0, y.f1, false⟩ : S41) :: strip r).filter _ = (⟨y.f0, y.f1, false⟩ : S41) :: strip (r.eraseIdx i)
  rw [List.filter_cons, if_pos (by simp only [ne_eq, decide_eq_true_eq]; omega), qF h.2.2.2 hx2 hq]
theorem zF (l : List S41) (i : Nat) (x : S41) (b : Bool) (hx : l[i]? = some x) : strip (l.set i ⟨x.f0, x.f1, b⟩) = strip l := by
 unfold strip
 rw [List.map_set]
 apply List.ext_getElem?
 intro k
 by_cases hk : i = k
 ·subst hk
  have hl := (List.getElem?_eq_some_iff.1 hx).1
  rw [List.getElem?_set_self (by rw [List.length_map]; exact hl), List.getElem?_map, hx]
  rfl
 ·rw [List.getElem?_set_ne hk]
theorem qcu (s : ByteArray) (m : Nat) : bU [byt s] m = [⟨(m : Int), s⟩] := by
 show [(⟨(m : Int), ⟨(byt s).toArray⟩⟩ : S62)] = _
 rw [qeI]
theorem EC {Q : Qu} {ds : List dZ.Bytes} {n m : Nat} (h : WF Q.L ds n m) (s : ByteArray) : bU (ds ++ [byt s]) n = bU ds n ++ [⟨(m : Int), s⟩] := by
 rw [rD, ← oZ SU n _ ds m h.ch, qcu]
theorem QW.put {Q : Qu} {ds : List dZ.Bytes} {n m : Nat} {data : ByteArray} (h : QW Q ds n m) (hr : (Q.es.length : Int) < Q.most) (hs : data.size < 65536) (ha : (bT Q.L (P80 ++ data)).2 = 0) :
  ∃ Q', pR Q data = (Q', 0) ∧ KW Q data = (m : Int) ∧ QW Q' (ds ++ [byt (P80 ++ data)]) n (m + 1) ∧ Q'.es = Q.es ++ [⟨(m : Int), data, false⟩] ∧ Q'.most = Q.most ∧ Q'.L.l.length ≤ Q.L.l.length + 1 ∧ Q'.L.size = Q.L.size := by
 obtain ⟨R, e, hA⟩ : ∃ R e, bT Q.L (P80 ++ data) = (R, e) := ⟨_, _, rfl⟩
 rw [hA] at ha
 obtain rfl : e = 0 := ha
 obtain ⟨w1, w2, w3, _, _⟩ := zD h.wf hA
 obtain ⟨w4, w5⟩ := NQ h.wf h.fu h.fa hA
 have hp : pR Q data = (⟨R, Q.es ++ [⟨(m : Int), data, false⟩], Q.most⟩, 0) := by
  rw [pR, iE h.ok h.wf.br, BF, if_pos hr, if_pos hs, hA, if_pos rfl, h.wf.nx]
 refine ⟨_, hp, ?_, ⟨w1, FZ h.wf h.sy hA, w4, w5, h.lo, h.hi, ?_, ?_⟩, rfl, rfl, w3, w2⟩
 ·rw [KW, hp, if_pos rfl, h.wf.nx]
 ·have := h.hi
  simp only [List.length_append, List.length_singleton]
  omega
 ·rw [EC h.wf, yP, ← h.es]
  exact List.map_append ..
theorem QW.qdX {Q : Qu} {ds : List dZ.Bytes} {n m i : Nat} {x : S41} (h : QW Q ds n m) (hi : oQ free Q.es = some i) (hx : Q.es[i]? = some x) :
  iP Q = (⟨Q.L, Q.es.set i ⟨x.f0, x.f1, true⟩, Q.most⟩, 0) ∧ jH Q = ⟨x.f0, x.f1, true⟩ ∧ QW ⟨Q.L, Q.es.set i ⟨x.f0, x.f1, true⟩, Q.most⟩ ds n m := by
 refine ⟨?_, ?_, ⟨h.wf, h.sy, h.fu, h.fa, h.lo, h.hi, by rw [List.length_set]; exact h.len, by rw [zF _ _ _ _ hx]; exact h.es⟩⟩
 ·rw [iP, iE h.ok h.wf.br, qE, hi]
  simp only [JD, hx]
 ·rw [jH, if_pos ⟨h.ok, h.wf.br⟩, uX, hi]
  simp only [hx]
theorem yS {q : Int} {l : List S41} {i : Nat} (hi : oQ (jL q) l = some i) : ∃ x, l[i]? = some x ∧ x.f0 = q ∧ x.f2 = true := by
 obtain ⟨x, h1, h2, _⟩ := yL hi
 refine ⟨x, h1, ?_⟩
 simpa [jL] using h2
theorem QW.ack {Q : Qu} {ds : List dZ.Bytes} {n m i : Nat} {q : Int} (h : QW Q ds n m) (hi : oQ (jL q) Q.es = some i) (ha : (bT Q.L (kD q)).2 = 0) :
  ∃ Q' ds' n', pU Q q = (Q', 0) ∧ QW Q' ds' n' (m + 1) ∧ Q'.es = Q.es.eraseIdx i ∧ Q'.most = Q.most ∧ Q'.L.size = Q.L.size := by
 obtain ⟨x, hx, hxq, _⟩ := yS hi
 obtain ⟨R, e, hA⟩ : ∃ R e, bT Q.L (kD q) = (R, e) := ⟨_, _, rfl⟩
 rw [hA] at ha
 obtain rfl : e = 0 := ha
 obtain ⟨w1, w2, w3, _, _⟩ := zD h.wf hA
 obtain ⟨w4, w5⟩ := NQ h.wf h.fu h.fa hA
 have hs1 := FZ h.wf h.sy hA
 have hq := rF h.fr0 h.oks x (List.mem_of_getElem? hx)
 have hnx := h.nx0
 have hnx1 : Q.L.nx ≤ R.nx := by rw [h.wf.nx, w1.nx]; omega
 have hok2 : tX R.nx Q.L.fr (Q.es.eraseIdx i) := QH hnx1 (BK i h.oks)
 have hfx : uN (Q.es.eraseIdx i) R.nx ≤ R.nx := by
  cases hE : Q.es.eraseIdx i with
  | nil => exact Int.le_refl _
  | cons y r =>
   rw [hE] at hok2
   show y.f0 ≤ _
   have := hok2.2.2.1
   omega
 obtain ⟨R2, d0, d1, k1, k2, k3, k4, k5, k6, k7, k8⟩ := qcr w1 w4 w5 hfx
 have hE : dH (bU (ds ++ [byt (kD q)]) n) = strip (Q.es.eraseIdx i) := by
  rw [EC h.wf, yQ (q := q) (NV (by rw [← hxq]; exact hq.1) (by rw [← hxq]; omega)), ← h.es]
  exact qF h.oks hx hxq
 have hE2 : dH (bU d1 (n + d0.length)) = strip (Q.es.eraseIdx i) := by
  rw [k3, rD] at hE
  obtain ⟨X, g1, g2⟩ := uY (bU d1 (n + d0.length)) (bU d0 n)
  rw [g1] at hE
  cases X with
  | nil => exact hE
  | cons y X =>
   exfalso
   obtain ⟨r, hr, hry⟩ := g2 y (List.mem_cons_self ..)
   obtain ⟨j, hj⟩ := List.getElem?_of_mem hr
   have h1 := D5 d0 n j r hj
   have h2 := (List.getElem?_eq_some_iff.1 hj).1
   rw [pK] at h2
   have hy : y ∈ strip (Q.es.eraseIdx i) := by rw [← hE]; exact List.mem_append_left _ (List.mem_cons_self ..)
   obtain ⟨y2, hy2, rfl⟩ := List.mem_map.1 hy
   have h3 := IK (nx' := R.nx) hok2 y2 hy2
   have h4 : r.f0 = y2.f0 := hry
   rcases k4 with k4 | k4
   ·subst k4
    cases hr
   ·omega
 refine ⟨⟨R2, Q.es.eraseIdx i, Q.most⟩, d1, n + d0.length, ?_, ⟨k2, k8 hs1, k6, k7, h.lo, h.hi, ?_, hE2.symm⟩, rfl, rfl, k5.trans w2⟩
 ·rw [pU, iE h.ok h.wf.br, zK, hi]
  simp only [hA, if_true, k1]
 ·have := h.len
  have h9 := List.length_eraseIdx_le Q.es i
  show (Q.es.eraseIdx i).length ≤ 1024
  omega
theorem qeK {size most : Int} (h0 : 1 ≤ size) (h1 : size ≤ 262144) (m0 : 1 ≤ most) (m1 : most ≤ 1024) : QW ⟨L0s size, [], most⟩ [] 1 1 :=
 ⟨qci h0 h1, fun x hx => (by cases hx), rfl, rfl, m0, m1, by simp, rfl⟩
theorem qaR {size most : Int} (h0 : 1 ≤ size) (h1 : size ≤ 262144) (m0 : 1 ≤ most) (m1 : most ≤ 1024) : l7 [] false (-1) (-1) size most = (⟨L0s size, [], most⟩, 0) := by
 rw [l7, if_pos vT, if_neg (by omega), qcj h0 h1]
 simp only
 rw [if_pos trivial, if_neg (by simp [dH])]
 rfl
theorem WQ {size most : Int} (h : most < 1 ∨ 1024 < most) : l7 [] false (-1) (-1) size most = (Qz, 2) := by
 rw [l7, if_pos vT, if_pos h]
theorem WR {size most : Int} (h : size < 1 ∨ 262144 < size) : l7 [] false (-1) (-1) size most = (Qz, 2) := by
 by_cases hm : most < 1 ∨ 1024 < most
 ·exact WQ hm
 ·rw [l7, if_pos vT, if_neg hm, qck h]
  simp only
  rw [if_neg (by decide), if_neg (by simp [Lz])]
def okR (Q : Qu) : Prop := 0 ≤ Q.L.fr ∧ 0 ≤ Q.L.nx ∧ Q.L.nx < 18446744073709551616
theorem QW.okR {Q : Qu} {ds : List dZ.Bytes} {n m : Nat} (h : QW Q ds n m) : okR Q := ⟨h.fr0, h.nx0.1, h.nx0.2⟩
end Go.Proofs.U
namespace Go.Proofs.U
open Go.RowKit Go.Proofs.aA.aK Go.Proofs.aA.aW Go.Proofs.aA.aZ
attribute [local go_sem] gV gW iU iV fU fV gZ iC
end Go.Proofs.U
namespace Go.Proofs.U
open Go.RowKit Go.Proofs.aA.aK Go.Proofs.aA.aW Go.Proofs.aA.aZ
attribute [local go_sem] gV gW iU iV fU fV gZ iC
theorem qfz (d : Nat) (w : World) (x0 y0 : Int) (x1 y1 : ByteArray) (x2 y2 : Bool) :
  (Op.equalIn (d + 2) 41 (.agg #[.int .u64 x0, .string x1, .bool x2]) (.agg #[.int .u64 y0, .string y1, .bool y2])).run Tryz.prog w = .ok (x0 == y0 && (x1.toList == y1.toList && (x2 == y2))) w := by
 refine UW Tryz.underlying41 (by kernel_rfl) ?_
 refine xP (by rfl) (by go_simp; rfl) (by go_simp; rfl) (by go_simp) ?_
 refine xP (by rfl) (by go_simp; rfl) (by go_simp; rfl) (by go_simp) ?_
 exact JO (by rfl) (by go_simp; rfl) (by go_simp; rfl) (by go_simp)
end Go.Proofs.U
namespace Go.Proofs.U
open Go.RowKit Go.Proofs.aA.aK Go.Proofs.aA.aW Go.Proofs.aA.aZ
attribute [local go_sem] gV gW iU iV fU fV gZ iC
attribute [local go_sem high] qfz
end Go.Proofs.U
namespace Go.Proofs.U
open Go.RowKit Go.Proofs.aA.aK Go.Proofs.aA.aW Go.Proofs.aA.aZ
attribute [local go_sem] gV gW iU iV fU fV gZ iC
end Go.Proofs.U
namespace Go.Proofs.U
open Go.RowKit Go.Proofs.aA.aK Go.Proofs.aA.aW Go.Proofs.aA.aZ
attribute [local go_sem] gV gW iU iV fU fV gZ iC
theorem qfA (d : Nat) (w : World) (x0 y0 : Int) (x1 y1 : ByteArray) :
  (Op.equalIn (d + 2) 62 (.agg #[.int .u64 x0, .string x1]) (.agg #[.int .u64 y0, .string y1])).run Tryz.prog w = .ok (x0 == y0 && (x1.toList == y1.toList)) w := by
 refine UW Tryz.underlying62 (by kernel_rfl) ?_
 refine xP (by rfl) (by go_simp; rfl) (by go_simp; rfl) (by go_simp) ?_
 exact JO (by rfl) (by go_simp; rfl) (by go_simp; rfl) (by go_simp)
end Go.Proofs.U
namespace Go.Proofs.U
open Go.RowKit Go.Proofs.aA.aK Go.Proofs.aA.aW Go.Proofs.aA.aZ
attribute [local go_sem] gV gW iU iV fU fV gZ iC
attribute [local go_sem high] qfA
end Go.Proofs.U
namespace Go.Proofs.U
open Go.RowKit Go.Proofs.aA.aK Go.Proofs.aA.aW Go.Proofs.aA.aZ Go.Proofs.Sp Go.Proofs.dZ
theorem WS {L : Lg} {ds : List dZ.Bytes} {n m k : Nat} (h : WF L ds n m) (hf : isFull L k) (hk : k ≤ 65552) : kG L.l (nameB L.nx.toNat) (bsOf L.l (nameB L.nx.toNat)) = false := by
 have hnx : L.nx.toNat = m := by rw [h.nx]; exact Int.toNat_natCast m
 rw [hnx]
 cases hh : kG L.l (nameB m) (bsOf L.l (nameB m)) with
 | false => rfl
 | true =>
  exfalso
  obtain ⟨x, hx, hxe⟩ := (tJ _ _ _).1 hh
  have hxn : x.f0 = nameB m := pY (by
   rw [ByteArray.toList_eq, ByteArray.toList_eq] at hxe
   exact hxe)
  have hmem : ((x, m) : Pl) ∈ aN L.l := lC.2 ⟨List.mem_of_getElem? hx, by show numOf x.f0 = some m; rw [hxn]; exact yO h.top⟩
  obtain ⟨a, e1, e2⟩ := ZL h.right h.ch hmem rfl
  have hlp : tK L.l = some (x, m) := by
   rw [tK, e1, List.getLast?_append]
   rfl
  unfold isFull at hf
  rw [hlp] at hf
  simp only at hf e2
  have := h.lo
  omega
theorem WT {L : Lg} {ds : List dZ.Bytes} {n m k : Nat} (h : WF L ds n m) (hu : L.fu = -1) (ha : L.fa = -1) (hk : k ≤ 65552) (hl : 64 ≤ L.l.length) (hf : isFull L k) : (gK L k).2 = 8 := by
 have hat := WS h hf hk
 have hrf : rfC (nameB L.nx.toNat) L.l.length (bsOf L.l (nameB L.nx.toNat)) (kG L.l (nameB L.nx.toNat) (bsOf L.l (nameB L.nx.toNat))) = 8 := by
  unfold rfC
  rw [hat, if_neg, if_neg (by simp), if_pos (by omega)]
  rw [LD, wU]
  intro hh
  rcases hh with hh | hh
  ·have := congrArg List.length hh
   rw [lW] at this
   cases this
  ·omega
 unfold gK
 rw [if_pos hf, hu, ha, h.dn, jO, oM h.right, if_neg (by rw [hrf]; decide)]
 exact hrf
theorem NW {L : Lg} {ds : List dZ.Bytes} {n m : Nat} {d : ByteArray} (h : WF L ds n m) (hu : L.fu = -1) (ha : L.fa = -1) (hd : d.size ≤ 65536) (hm : m < most) : (bT L d).2 = 0 ∨ ((bT L d).2 = 8 ∧ 64 ≤ L.l.length) := by
 by_cases hl : L.l.length < 64
 ·obtain ⟨R, hR, _⟩ := TM h hu ha hd hm hl
  exact .inl (by rw [hR])
 ·have hfs : (dN L.nx d).size = 16 + d.size := by rw [h.nx]; exact yI m d
  have hap : bT L d = if (gK L (dN L.nx d).size).2 = 0 then oP (gK L (dN L.nx d).size).1 (dN L.nx d) else gK L (dN L.nx d).size := by
   rw [bT, if_pos h.okL, iW, h.br, if_neg (by simp), if_neg (by omega), if_neg (by rw [h.nx]; unfold most at hm; omega)]
  by_cases hf : isFull L (dN L.nx d).size
  ·have := WT h hu ha (by omega) (by omega) hf
   rw [hap, if_neg (by rw [this]; decide), this]
   exact .inr ⟨rfl, by omega⟩
  ·have e1 : gK L (dN L.nx d).size = (L, 0) := by
    unfold gK
    rw [if_neg hf]
   obtain ⟨w1, w2, w3, a, p, w4, w5⟩ := tZ h e1
   obtain ⟨p1, _⟩ := LG (s := dN L.nx d) w1 hu ha w4 (by omega)
   rw [hap, e1, if_pos rfl]
   exact .inl p1
theorem TU {p : S41 → Bool} : ∀ {l : List S41}, (∀ x ∈ l, p x = false) → oQ p l = none
 | [], _ => rfl
 | y :: r, h => by
  rw [oQ, if_neg (by rw [h y (List.mem_cons_self ..)]; simp), TU (fun x hx => h x (List.mem_cons_of_mem _ hx))]
  rfl
theorem TV {Q : Qu} (h : (iP Q).2 ≠ 0) : jH Q = z41 := by
 rw [jH]
 split
 ·rename_i hc
  rw [iP, iE hc.1 hc.2, qE] at h
  rw [uX]
  cases hi : oQ free Q.es with
  | none => rfl
  | some i =>
   rw [hi] at h
   exact absurd rfl h
 ·rfl
theorem IL {Q : Qu} (h : (iP Q).2 = 0) : okQ Q ∧ Q.L.br = false ∧ ∃ i x, oQ free Q.es = some i ∧ Q.es[i]? = some x ∧ x.f2 = false ∧ iP Q = (⟨Q.L, Q.es.set i ⟨x.f0, x.f1, true⟩, Q.most⟩, 0) ∧ jH Q = ⟨x.f0, x.f1, true⟩ := by
 by_cases hok : okQ Q
 ·by_cases hb : Q.L.br = true
  ·rw [iP, TT hok hb] at h
   exact absurd h (show ¬ (6 : Int) = 0 by decide)
  ·have hb : Q.L.br = false := by simpa using hb
   rw [iP, iE hok hb, qE] at h
   cases hi : oQ free Q.es with
   | none =>
    rw [hi] at h
    exact absurd h (show ¬ (7 : Int) = 0 by decide)
   | some i =>
    obtain ⟨x, hx, hp, _⟩ := yL hi
    refine ⟨hok, hb, i, x, rfl, hx, by simpa [free] using hp, ?_, ?_⟩
    ·rw [iP, iE hok hb, qE, hi]
     simp only [JD, hx]
    ·rw [jH, if_pos ⟨hok, hb⟩, uX, hi]
     simp only [hx]
 ·rw [iP, qaP hok] at h
  exact absurd h (show ¬ (6 : Int) = 0 by decide)
theorem uZ {l : List S67} {dn : Bool} {fu fa : Int} {s : ByteArray} {wr : Bool} {rf : Int → Bool → Int} {df : Int → List S67} (hr : bI l = true) (hg : rf (bsOf l s) (kG l s (bsOf l s)) = 0 → bI (df (bsOf l s)) = true) : bI (bW l dn fu fa s wr rf df).1 = true := by
 unfold bW
 rw [if_pos hr]
 split
 ·exact hr
 ·split
  ·rename_i hrf
   split
   ·exact hr
   ·split
    ·cases wr
     ·exact hr
     ·exact hg hrf
    ·exact hg hrf
  ·exact hr
structure Keeps (L R : Lg) : Prop where
 right : bI R.l = true
 size : R.size = L.size
 fr : R.fr = L.fr
 nx : R.nx = L.nx
theorem Keeps.refl {L : Lg} (h : bI L.l = true) : Keeps L L := ⟨h, rfl, rfl, rfl⟩
theorem Keeps.trans {L R S : Lg} (h : Keeps L R) (g : Keeps R S) : Keeps L S := ⟨g.right, g.size.trans h.size, g.fr.trans h.fr, g.nx.trans h.nx⟩
theorem F6 {L : Lg} {R : KL} (h : bI R.1 = true) : Keeps L (chg L R) := ⟨h, rfl, rfl, rfl⟩
theorem QI {L : Lg} {R : KL} (h : R.2.2.2.2 ≠ 0) : (chg L R).br = true := if_neg h
theorem LQ {L : Lg} {R : KL} (h : R.2.2.2.2 = 0) : (chg L R).br = L.br := if_pos h
theorem qdA {b : Bool} (h : (if b = true then (0 : Int) else 7) = 0) : b = true := by
 cases b
 ·cases h
 ·rfl
theorem QJ {l : List S67} {dn : Bool} {fu fa : Int} {s : ByteArray} (hr : bI l = true) : bI (jO l dn fu fa s).1 = true := uZ hr fun h => by simpa using (yF hr h).1
theorem append_right {l : List S67} {dn : Bool} {fu fa : Int} {s d : ByteArray} (hr : bI l = true) : bI (jI l dn fu fa s d).1 = true := uZ hr fun h => (yG hr d h).1
theorem WU {l : List S67} {dn : Bool} {fu fa : Int} {s : ByteArray} (hr : bI l = true) : bI (rW l dn fu fa s).1 = true := uZ hr fun h => (FQ hr (qdA h)).1
theorem TW {L : Lg} {k : Nat} (hr : bI L.l = true) : Keeps L (gK L k).1 ∧ ((gK L k).2 ≠ 0 → (gK L k).1.br = true) ∧ ((gK L k).2 = 0 → (gK L k).1.br = L.br) := by
 unfold gK
 split
 ·exact ⟨F6 (QJ hr), QI, LQ⟩
 ·exact ⟨Keeps.refl hr, fun h => absurd rfl h, fun _ => rfl⟩
theorem TY {L : Lg} {nm s : ByteArray} (hr : bI L.l = true) : Keeps L (fC L nm s).1 ∧ ((fC L nm s).2 ≠ 0 → (fC L nm s).1.br = true) ∧ ((fC L nm s).2 = 0 → (fC L nm s).1.br = L.br) := ⟨F6 (append_right hr), QI, LQ⟩
theorem UA {L : Lg} {nm : ByteArray} (hr : bI L.l = true) : Keeps L (stepS L nm).1 ∧ ((stepS L nm).2 ≠ 0 → (stepS L nm).1.br = true) ∧ ((stepS L nm).2 = 0 → (stepS L nm).1.br = L.br) := ⟨F6 (WU hr), QI, LQ⟩
theorem wY {L : Lg} {d : ByteArray} (h : okL L) (hb : L.br = false) :
  ((bT L d).2 = 0 ∧ Keeps ⟨L.l, L.dn, L.fu, L.fa, L.size, L.fr, L.nx + 1, L.br⟩ (bT L d).1 ∧ L.nx + 1 ≤ 4611686018427387904 ∧ (bT L d).1.br = false)
  ∨ ((bT L d).2 ≠ 0 ∧ (bT L d).2 ≠ 8 ∧ (bT L d).1 = L) ∨ ((bT L d).2 ≠ 0 ∧ (bT L d).1.br = true ∧ Keeps L (bT L d).1) := by
 rw [bT, if_pos h, iW, hb, if_neg (by simp)]
 split
 ·exact .inr (.inl ⟨(by decide : (4 : Int) ≠ 0), (by decide : (4 : Int) ≠ 8), rfl⟩)
 split
 ·exact .inr (.inl ⟨(by decide : (2 : Int) ≠ 0), (by decide : (2 : Int) ≠ 8), rfl⟩)
 rename_i hnx
 obtain ⟨c1, c2, c3⟩ := TW (L := L) (k := (dN L.nx d).size) h.1
 split
 ·rename_i hc
  have c3 := c3 hc
  generalize (gK L (dN L.nx d).size).1 = M at c1 c3 ⊢
  unfold oP
  obtain ⟨a1, a2, a3⟩ := TY (L := M) (nm := o8 M.l) (s := dN L.nx d) c1.right
  split
  ·rename_i ha
   have a3 := a3 ha
   generalize (fC M (o8 M.l) (dN L.nx d)).1 = N at a1 a3 ⊢
   obtain ⟨s1, s2, s3⟩ := UA (L := N) (nm := o8 M.l) a1.right
   split
   ·rename_i hs
    have k := (c1.trans a1).trans s1
    refine .inl ⟨rfl, ⟨k.right, k.size, k.fr, ?_⟩, by omega, ?_⟩
    ·show M.nx + 1 = L.nx + 1
     rw [c1.nx]
    ·exact (s3 hs).trans (a3.trans (c3.trans hb))
   ·rename_i hs
    exact .inr (.inr ⟨hs, s2 hs, (c1.trans a1).trans s1⟩)
  ·rename_i ha
   exact .inr (.inr ⟨ha, a2 ha, c1.trans a1⟩)
 ·rename_i hc
  exact .inr (.inr ⟨hc, c2 hc, c1⟩)
theorem qaS {L R : Lg} (h : okL L) (k : Keeps L R) : okL R := ⟨k.right, by rw [k.size]; exact h.2.1, by rw [k.size]; exact h.2.2.1, by rw [k.fr, k.nx]; exact h.2.2.2.1, by rw [k.nx]; exact h.2.2.2.2⟩
theorem QW.WV {Q : Qu} {ds : List dZ.Bytes} {n m : Nat} {data : ByteArray} (h : QW Q ds n m) (hm : m < dZ.most) :
  ((pR Q data).2 = 0 ∧ (Q.es.length : Int) < Q.most ∧ data.size < 65536 ∧ (bT Q.L (P80 ++ data)).2 = 0) ∨ (Q.most ≤ (Q.es.length : Int) ∧ pR Q data = (Q, 8)) ∨ ((Q.es.length : Int) < Q.most ∧ 65536 ≤ data.size ∧ pR Q data = (Q, 4)) ∨ ((Q.es.length : Int) < Q.most ∧ data.size < 65536 ∧ (pR Q data).1.L.br = true ∧ (pR Q data).2 = 8 ∧ 64 ≤ Q.L.l.length) := by
 rw [pR, iE h.ok h.wf.br, BF]
 split
 ·rename_i hr
  split
  ·rename_i hd
   have hz : (P80 ++ data).size ≤ 65536 := by rw [D7]; omega
   rcases NW h.wf h.fu h.fa hz hm with e | ⟨e, hl⟩
   ·rw [if_pos e]
    exact .inl ⟨rfl, hr, hd, e⟩
   ·rw [if_neg (by rw [e]; decide)]
    rcases wY (d := P80 ++ data) h.wf.okL h.wf.br with ⟨e2, _⟩ | ⟨_, e2, _⟩ | ⟨_, k1, _⟩
    ·rw [e] at e2
     cases e2
    ·exact absurd e e2
    ·exact .inr (.inr (.inr ⟨hr, hd, k1, e, hl⟩))
  ·exact .inr (.inr (.inl ⟨hr, by omega, rfl⟩))
 ·exact .inr (.inl ⟨by omega, rfl⟩)
theorem WW (q : Int) : (kD q).size ≤ 65536 := by rw [NG]; decide
theorem QW.qeL {Q : Qu} {ds : List dZ.Bytes} {n m i : Nat} {q : Int} (h : QW Q ds n m) (hi : oQ (jL q) Q.es = some i) (hm : m < dZ.most) :
  (bT Q.L (kD q)).2 = 0 ∨ (∃ Q', pU Q q = (Q', 8) ∧ Q'.L.br = true ∧ okQ Q' ∧ Q'.L.fr = Q.L.fr ∧ Q'.L.nx = Q.L.nx ∧ 64 ≤ Q.L.l.length) := by
 rcases NW h.wf h.fu h.fa (WW q) hm with e | ⟨e, hl⟩
 ·exact .inl e
 ·rcases wY (d := kD q) h.wf.okL h.wf.br with ⟨e2, _⟩ | ⟨_, e2, _⟩ | ⟨_, k1, k2⟩
  ·rw [e] at e2
   cases e2
  ·exact absurd e e2
  ·refine .inr ⟨⟨(bT Q.L (kD q)).1, Q.es, Q.most⟩, ?_, k1, ⟨qaS h.wf.okL k2, h.lo, h.hi, h.len, ?_⟩, k2.fr, k2.nx, hl⟩
   ·rw [pU, iE h.ok h.wf.br, zK, hi]
    simp only
    rw [if_neg (by rw [e]; decide), e]
   ·show tX (bT Q.L (kD q)).1.nx (bT Q.L (kD q)).1.fr Q.es
    rw [k2.nx, k2.fr]
    exact h.oks
theorem qaT {Q : Qu} {q : Int} (h : okQ Q) (hb : Q.L.br = false) (hf : ∀ x ∈ Q.es, x.f2 = false) : pU Q q = (Q, 19) := by
 rw [pU, iE h hb, zK, TU (fun x hx => by simp [jL, hf x hx])]
theorem UC {Q : Qu} {q : Int} (h : okQ Q) (hb : Q.L.br = true) : pU Q q = (Q, 6) := by rw [pU, TT h hb]
theorem UD {l : List S67} {dn : Bool} {fu fa : Int} {s : ByteArray} {wr : Bool} {rf : Int → Bool → Int} {df : Int → List S67} {k : Nat} (h0 : l.length ≤ k) (h1 : ∀ i, (df i).length ≤ k) : (bW l dn fu fa s wr rf df).1.length ≤ k := by
 unfold bW
 split
 ·split
  ·exact h0
  ·split
   ·split
    ·exact h0
    ·split
     ·cases wr
      ·exact h0
      ·exact h1 _
     ·exact h1 _
   ·exact h0
 ·exact Nat.zero_le _
theorem IQ {Q : Qu} {ds : List dZ.Bytes} {n m : Nat} {x : S41} {r : List S41} (h : QW Q ds n m) (hf : ∀ y ∈ Q.es, y.f2 = false) (he : Q.es = x :: r) :
  iP Q = (⟨Q.L, ⟨x.f0, x.f1, true⟩ :: r, Q.most⟩, 0) ∧ jH Q = ⟨x.f0, x.f1, true⟩ ∧ QW ⟨Q.L, ⟨x.f0, x.f1, true⟩ :: r, Q.most⟩ ds n m ∧ oQ (jL x.f0) (⟨x.f0, x.f1, true⟩ :: r) = some 0 ∧ 0 ≤ x.f0 ∧ x.f0 < 18446744073709551616 := by
 have hx : Q.es[0]? = some x := by rw [he]; rfl
 have hi : oQ free Q.es = some 0 := by rw [he, oQ, if_pos (by simp [free, hf x (by rw [he]; exact List.mem_cons_self ..)])]
 obtain ⟨h1, h2, h3⟩ := h.qdX hi hx
 have hs : Q.es.set 0 ⟨x.f0, x.f1, true⟩ = ⟨x.f0, x.f1, true⟩ :: r := by rw [he]; rfl
 rw [hs] at h1 h3
 have hq := rF h.fr0 h.oks x (List.mem_of_getElem? hx)
 have hn := h.nx0
 exact ⟨h1, h2, h3, by rw [oQ, if_pos (by simp [jL])], hq.1, by omega⟩
theorem LU {Q : Qu} {ds : List dZ.Bytes} {n m : Nat} (h : QW Q ds n m) (he : Q.es = []) : iP Q = (Q, 7) ∧ jH Q = z41 := by
 have e : iP Q = (Q, 7) := by
  rw [iP, iE h.ok h.wf.br, qE, he]
  rfl
 exact ⟨e, TV (by rw [e]; exact (show ¬ (7 : Int) = 0 by decide))⟩
theorem yT (q : Int) : ∀ (ps : List Pl) (L : Lg), (dV L ps q).1.l.length ≤ L.l.length
 | [], L => Nat.le_refl _
 | [p], L => Nat.le_refl _
 | p :: p2 :: r, L => by
  have h1 : (chg L (fE L.l L.dn L.fu L.fa p.1.f0)).l.length ≤ L.l.length := UD (Nat.le_refl _) fun i => by
   simp only [List.length_append, List.length_take, List.length_drop]
   omega
  rw [dV]
  split
  ·split
   ·exact Nat.le_trans (yT q (p2 :: r) _) h1
   ·exact h1
  ·exact Nat.le_refl _
theorem qaU (L : Lg) (q : Int) : (kH L q).1.l.length ≤ L.l.length := by
 unfold kH
 split
 ·unfold tN
  split
  ·exact Nat.le_refl _
  split
  ·exact Nat.le_refl _
  split
  ·show (vO _ _).l.length ≤ _
   have := yT q (aN L.l) L
   unfold vO
   split <;> exact this
  ·exact yT q (aN L.l) L
 ·exact Nat.zero_le _
theorem NY {Q : Qu} {ds : List dZ.Bytes} {n m : Nat} {q : Int} (h : QW Q ds n m) (hi : oQ (jL q) Q.es = some 0) (hm : m < dZ.most) :
  (∃ Q' ds' n', pU Q q = (Q', 0) ∧ QW Q' ds' n' (m + 1) ∧ Q'.es = Q.es.eraseIdx 0 ∧ Q'.most = Q.most ∧ Q'.L.l.length ≤ Q.L.l.length + 1) ∨ (∃ Q', pU Q q = (Q', 8) ∧ pU Q' q = (Q', 6) ∧ Q'.L.br = true ∧ okR Q' ∧ 64 ≤ Q.L.l.length) := by
 rcases h.qeL hi hm with ha | ⟨Q', e1, e2, e3, e4, e5, e6⟩
 ·obtain ⟨Q', ds', n', e1, e2, e3, e4, _⟩ := h.ack hi ha
  refine .inl ⟨Q', ds', n', e1, e2, e3, e4, ?_⟩
  obtain ⟨R, hA⟩ : ∃ R, bT Q.L (kD q) = (R, 0) := ⟨_, Prod.ext rfl ha⟩
  obtain ⟨_, _, w3, _, _⟩ := zD h.wf hA
  have e5 : Q' = (pU Q q).1 := by rw [e1]
  rw [e5, pU, iE h.ok h.wf.br, zK, hi]
  simp only [hA, if_true]
  exact Nat.le_trans (qaU _ _) w3
 ·refine .inr ⟨Q', e1, UC e3 e2, e2, ?_, e6⟩
  have h1 := h.fr0
  have h2 := h.nx0
  exact ⟨by rw [e4]; exact h1, by rw [e5]; exact h2.1, by rw [e5]; exact h2.2⟩
structure wZ (mst : Int) (i : Nat) (Q : Qu) : Prop where
 ex : ∃ ds n, QW Q ds n (Q.es.length + 1)
 mo : Q.most = mst
 len : ((i : Int) < mst → (Q.es.length : Int) = (i : Int)) ∧ (¬ (i : Int) < mst → (Q.es.length : Int) = mst)
 few : Q.L.l.length ≤ i
 free : ∀ x ∈ Q.es, x.f2 = false
theorem wZ.lo {mst : Int} {i : Nat} {Q : Qu} (h : wZ mst i Q) : 1 ≤ mst ∧ mst ≤ 1024 := by
 obtain ⟨ds, n, hw⟩ := h.ex
 rw [← h.mo]
 exact ⟨hw.lo, hw.hi⟩
theorem wZ.okr {mst : Int} {i : Nat} {Q : Qu} (h : wZ mst i Q) : okR Q := by
 obtain ⟨ds, n, hw⟩ := h.ex
 exact hw.okR
theorem wZ.put {mst : Int} {i : Nat} {Q : Qu} (h : wZ mst i Q) (hi : i < 12) :
  ∃ Q' e s, pR Q ⟨#[120]⟩ = (Q', e) ∧ KW Q ⟨#[120]⟩ = s ∧ wZ mst (i + 1) Q' ∧ (((i : Int) < mst ∧ e = 0 ∧ s = (i : Int) + 1) ∨ (¬ (i : Int) < mst ∧ e = 8)) := by
 obtain ⟨ds, n, hw⟩ := h.ex
 have hl := h.len
 have hlo := h.lo
 have hle : Q.es.length ≤ 12 := by
  by_cases hc : (i : Int) < mst
  ·have := hl.1 hc
   omega
  ·have := hl.2 hc
   omega
 rcases hw.WV (data := ⟨#[120]⟩) (by unfold dZ.most; omega) with ⟨_, hr, hs, ha⟩ | ⟨hr, e⟩ | ⟨_, hs, _⟩ | ⟨_, _, _, _, hf⟩
 ·have hm : (i : Int) < mst := by
   rw [h.mo] at hr
   by_cases hc : (i : Int) < mst
   ·exact hc
   ·have := hl.2 hc
    omega
  have hlen := hl.1 hm
  obtain ⟨Q', e1, e2, e3, e4, e5, e6, e7⟩ := hw.put hr hs ha
  have hlen2 : Q'.es.length = Q.es.length + 1 := by rw [e4, List.length_append, List.length_singleton]
  refine ⟨Q', 0, _, e1, e2, ⟨⟨_, _, by rw [hlen2]; exact e3⟩, e5.trans h.mo, ?_, by have := h.few; omega, ?_⟩, .inl ⟨hm, rfl, by omega⟩⟩
  ·exact ⟨fun _ => by omega, fun _ => by omega⟩
  ·intro x hx
   rw [e4] at hx
   rcases List.mem_append.1 hx with hx | hx
   ·exact h.free x hx
   ·obtain rfl := List.mem_singleton.1 hx
    rfl
 ·rw [h.mo] at hr
  have hm : ¬ (i : Int) < mst := fun hc => by
   have := hl.1 hc
   omega
  have := hl.2 hm
  exact ⟨Q, 8, _, e, rfl, ⟨⟨ds, n, hw⟩, h.mo, ⟨fun _ => by omega, fun _ => this⟩, by have := h.few; omega, h.free⟩, .inr ⟨hm, rfl⟩⟩
 ·exact absurd hs (by decide)
 ·have := h.few
  omega
theorem wZ.last {mst : Int} {i : Nat} {Q : Qu} (h : wZ mst i Q) (hi : i ≤ 12) :
  (Q.es = [] ∧ iP Q = (Q, 7) ∧ jH Q = z41) ∨ (0 < Q.es.length ∧ ∃ (x : S41) (Ql Qd Qm : Qu) (s : Int), iP Q = (Ql, 0) ∧ jH Q = ⟨x.f0, x.f1, true⟩ ∧ okR Ql ∧ 0 ≤ x.f0 ∧ x.f0 < 18446744073709551616 ∧ pU Ql x.f0 = (Qd, 0) ∧ okR Qd ∧ pR Qd ⟨#[121]⟩ = (Qm, 0) ∧ KW Qd ⟨#[121]⟩ = s ∧ Qm.es.length = Q.es.length) := by
 obtain ⟨ds, n, hw⟩ := h.ex
 cases he : Q.es with
 | nil => exact .inl ⟨rfl, LU hw he⟩
 | cons x r =>
  obtain ⟨h1, h2, h3, h4, h5, h6⟩ := IQ hw h.free he
  have hl := hw.len
  have hfew := h.few
  have hle : Q.es.length = r.length + 1 := by rw [he]; rfl
  rcases NY h3 h4 (by unfold dZ.most; omega) with ⟨Qd, ds', n', e1, e2, e3, e4, e5⟩ | ⟨_, _, _, _, _, e6⟩
  ·have hed : Qd.es = r := e3
   have hmo : Qd.most = Q.most := e4
   have hlo := h.len
   have hl2 := h.lo
   have qe9 := h.mo
   have hll : Qd.L.l.length ≤ 13 := Nat.le_trans e5 (by show Q.L.l.length + 1 ≤ 13; omega)
   have hle2 : (Q.es.length : Int) ≤ mst := by
    by_cases hc : (i : Int) < mst
    ·have := hlo.1 hc
     omega
    ·have := hlo.2 hc
     omega
   rcases e2.WV (data := ⟨#[121]⟩) (by unfold dZ.most; omega) with ⟨_, hr, hs, ha⟩ | ⟨hr, _⟩ | ⟨_, hs, _⟩ | ⟨_, _, _, _, hf⟩
   ·obtain ⟨Qm, f1, f2, _, f4, _, _, _⟩ := e2.put hr hs ha
    refine .inr ⟨by simp, x, _, Qd, Qm, _, h1, h2, h3.okR, h5, h6, e1, e2.okR, f1, f2, ?_⟩
    rw [f4, List.length_append, hed]
    rfl
   ·rw [hed, hmo, qe9] at hr
    omega
   ·exact absurd hs (by decide)
   ·omega
  ·have : 64 ≤ Q.L.l.length := e6
   omega
structure vU (mst : Int) (Q : Qu) (want : List ByteArray) (m : Nat) : Prop where
 ex : ∃ ds n, QW Q ds n m
 mo : Q.most = mst
 data : Q.es.map (fun x => x.f1) = want
 free : ∀ x ∈ Q.es, x.f2 = false
theorem vU.okr {mst : Int} {Q : Qu} {want : List ByteArray} {m : Nat} (h : vU mst Q want m) : okR Q := by
 obtain ⟨ds, n, hw⟩ := h.ex
 exact hw.okR
theorem vU.len {mst : Int} {Q : Qu} {want : List ByteArray} {m : Nat} (h : vU mst Q want m) : Q.es.length = want.length := by rw [← h.data, List.length_map]
theorem vU.put {mst : Int} {Q : Qu} {want : List ByteArray} (s : ByteArray) (h : vU mst Q want (want.length + 1)) (hl : (want.length : Int) ≤ mst) :
  ∃ Q' e sq, pR Q s = (Q', e) ∧ KW Q s = sq ∧ okR Q' ∧ ((e = 0 ∧ vU mst Q' (want ++ [s]) ((want ++ [s]).length + 1) ∧ ((want ++ [s]).length : Int) ≤ mst) ∨ (e ≠ 0 ∧ (Q'.L.br = true ∨ ¬ (s.size : Int) < 65536 ∨ ¬ (Q.es.length : Int) < mst))) := by
 obtain ⟨ds, n, hw⟩ := h.ex
 have hlen := h.len
 have hhi := hw.hi
 rw [h.mo] at hhi
 rcases hw.WV (data := s) (by unfold dZ.most; omega) with ⟨_, hr, hs, ha⟩ | ⟨hr, e⟩ | ⟨_, hs, e⟩ | ⟨hr, hs, hb, he, hf⟩
 ·obtain ⟨Q', e1, e2, e3, e4, e5, e6, e7⟩ := hw.put hr hs ha
  rw [h.mo] at hr
  refine ⟨Q', 0, _, e1, e2, e3.okR, .inl ⟨rfl, ⟨⟨_, _, by rw [List.length_append, List.length_singleton]; exact e3⟩, e5.trans h.mo, by rw [e4, List.map_append, h.data]; rfl, ?_⟩, ?_⟩⟩
  ·intro x hx
   rw [e4] at hx
   rcases List.mem_append.1 hx with hx | hx
   ·exact h.free x hx
   ·obtain rfl := List.mem_singleton.1 hx
    rfl
  ·rw [List.length_append, List.length_singleton]
   omega
 ·rw [h.mo] at hr
  exact ⟨Q, 8, _, e, rfl, hw.okR, .inr ⟨by decide, .inr (.inr (by omega))⟩⟩
 ·exact ⟨Q, 4, _, e, rfl, hw.okR, .inr ⟨by decide, .inr (.inl (by omega))⟩⟩
 ·refine ⟨(pR Q s).1, 8, _, Prod.ext rfl he, rfl, ?_, .inr ⟨by decide, .inl hb⟩⟩
  have hz : (P80 ++ s).size ≤ 65536 := by rw [D7]; omega
  have hp : (pR Q s).1 = ⟨(bT Q.L (P80 ++ s)).1, Q.es, Q.most⟩ := by
   have h1 : (pR Q s).2 ≠ 0 := by rw [he]; decide
   rw [pR, iE hw.ok hw.wf.br, BF, if_pos hr, if_pos hs] at h1 ⊢
   split at h1
   ·exact absurd rfl h1
   ·rename_i h2
    rw [if_neg h2]
  rw [hp]
  rcases wY (d := P80 ++ s) hw.wf.okL hw.wf.br with ⟨_, k, _, _⟩ | ⟨_, _, hL⟩ | ⟨_, _, k⟩
  ·have h1 := hw.okR
   exact ⟨by show 0 ≤ (bT Q.L _).1.fr; rw [k.fr]; exact h1.1, by show 0 ≤ (bT Q.L _).1.nx; rw [k.nx]; have := h1.2.1; show 0 ≤ Q.L.nx + 1; omega, by
    show (bT Q.L _).1.nx < _
    rw [k.nx]
    show Q.L.nx + 1 < _
    rw [hw.wf.nx]
    omega⟩
  ·show okR ⟨(bT Q.L _).1, Q.es, Q.most⟩
   rw [hL]
   exact hw.okR
  ·have h1 := hw.okR
   exact ⟨by show 0 ≤ (bT Q.L _).1.fr; rw [k.fr]; exact h1.1, by show 0 ≤ (bT Q.L _).1.nx; rw [k.nx]; exact h1.2.1, by show (bT Q.L _).1.nx < _; rw [k.nx]; exact h1.2.2⟩
theorem vU.step {mst : Int} {Q : Qu} {s : ByteArray} {want : List ByteArray} {m : Nat} (h : vU mst Q (s :: want) m) (hm : m + want.length ≤ 4096) :
  ∃ (x : S41) (Ql Qd : Qu), iP Q = (Ql, 0) ∧ jH Q = ⟨x.f0, s, true⟩ ∧ okR Ql ∧ 0 ≤ x.f0 ∧ x.f0 < 18446744073709551616 ∧ okR Qd ∧
   ((pU Ql x.f0 = (Qd, 0) ∧ pU Qd x.f0 = (Qd, 19) ∧ vU mst Qd want (m + 1)) ∨ (pU Ql x.f0 = (Qd, 8) ∧ pU Qd x.f0 = (Qd, 6) ∧ Qd.L.br = true)) := by
 obtain ⟨ds, n, hw⟩ := h.ex
 have hd := h.data
 cases he : Q.es with
 | nil =>
  rw [he] at hd
  cases hd
 | cons x r =>
  rw [he] at hd
  obtain ⟨hd1, hd2⟩ := List.cons.inj hd
  obtain ⟨h1, h2, h3, h4, h5, h6⟩ := IQ hw h.free he
  have hx : x.f1 = s := hd1
  rw [hx] at h2
  rcases NY h3 h4 (by unfold dZ.most; omega) with ⟨Qd, ds', n', e1, e2, e3, e4, e5⟩ | ⟨Qd, e1, e2, e3, e4, _⟩
  ·have hed : Qd.es = r := e3
   have hfr : ∀ y ∈ Qd.es, y.f2 = false := fun y hy => h.free y (by rw [he]; exact List.mem_cons_of_mem _ (by rw [← hed]; exact hy))
   exact ⟨x, _, Qd, h1, h2, h3.okR, h5, h6, e2.okR, .inl ⟨e1, qaT e2.ok e2.wf.br hfr, ⟨⟨_, _, e2⟩, e4.trans h.mo, by rw [hed]; exact hd2, hfr⟩⟩⟩
  ·exact ⟨x, _, Qd, h1, h2, h3.okR, h5, h6, e4, .inr ⟨e1, e2, e3⟩⟩
theorem vU.none {mst : Int} {Q : Qu} {m : Nat} (h : vU mst Q [] m) : iP Q = (Q, 7) ∧ jH Q = z41 ∧ Q.es = [] := by
 obtain ⟨ds, n, hw⟩ := h.ex
 have he : Q.es = [] := List.map_eq_nil_iff.1 h.data
 exact ⟨(LU hw he).1, (LU hw he).2, he⟩
end Go.Proofs.U
