import Derived.Test.YtanonhipicoigaaGreatDoorZSaf
import Derived.Test.YtanonhipicoigaaGreatDoorZSac
import Derived.Test.YtanonhipicoigaaGreatDoorZSad
import Derived.BigRegion
import Derived.LoopN
import Derived.Deep.DeepCutAuto
namespace Go.Proofs.YtanonhipicoigaaGreatDoor.U
open Go.RowKit Go.Proofs.YtanonhipicoigaaGreatDoorW.PrintWords Go.Proofs.YtanonhipicoigaaGreatDoorW.PrintLast Go.Proofs.YtanonhipicoigaaGreatDoorW.PrintMore Go.Proofs.YtanonhipicoigaaGreatDoor.Sp Go.Proofs.YtanonhipicoigaaGreatDoor.SegP
set_option linter.unusedVariables false
set_option linter.unusedSimpArgs false
/-! ### A disk that fails by its fuse alone -/
def fuN (fu : Int) : Int := if 0 < fu then wrap64 (fu - 1) else fu
theorem remove_came {l : List S67} {fu : Int} {s : ByteArray} (h : rightF l = true) (hi : isAt l s (bsOf l s) = true) :
    removeF l false fu (-1) s = if fu = 0 then (l, true, fu, -1, 17) else (l.take (bsOf l s) ++ l.drop (bsOf l s + 1), false, fuN fu, -1, 0) := by
  simp [removeF, changedF, h, hi, fuN]
theorem cut_came {l : List S67} {fu : Int} {s : ByteArray} {x : S67} {e : Nat} (h : rightF l = true) (hi : isAt l s (bsOf l s) = true) (hx : l[bsOf l s]? = some x) (he : e ≤ x.f1.size) :
    cutF l false fu (-1) s (e : Int) = if fu = 0 then (l, true, fu, -1, 17) else (l.set (bsOf l s) ⟨x.f0, x.f1.extract 0 e, (e : Int)⟩, false, fuN fu, -1, 0) := by
  have hrf : rfT (e : Int) l (bsOf l s : Int) (isAt l s (bsOf l s)) = 0 := by
    rw [rfT, hi, if_pos rfl, rd_get hx, if_neg (by omega)]
  rw [cutF]
  simp [changedF, h, hrf, fuN, rd_get hx]
/-- The files without some of them. -/
def rmL : List S67 → List Pl → List S67
  | l, [] => l
  | l, p :: r => rmL (l.take (bsOf l p.1.f0) ++ l.drop (bsOf l p.1.f0 + 1)) r
theorem rmL_append : ∀ (a b : List Pl) (l : List S67), rmL l (a ++ b) = rmL (rmL l a) b
  | [], b, l => rfl
  | p :: a, b, l => rmL_append a b _
theorem rmL_mem : ∀ (g : List Pl) (l : List S67) (x : S67), x ∈ rmL l g → x ∈ l
  | [], l, x, h => h
  | p :: g, l, x, h => by
    have := rmL_mem g _ x h
    rcases List.mem_append.1 this with h | h
    · exact List.mem_of_mem_take h
    · exact List.mem_of_mem_drop h
theorem rmL_right : ∀ (g : List Pl) (l : List S67), rightF l = true → rightF (rmL l g) = true
  | [], l, h => h
  | p :: g, l, h => rmL_right g _ (right_cut h _)
theorem rmL_places : ∀ (g : List Pl) (l : List S67) (front : List Pl), rightF l = true → placesF l = front ++ g.reverse → placesF (rmL l g) = front
  | [], l, front, h, hp => by
    rw [List.reverse_nil, List.append_nil] at hp
    exact hp
  | p :: g, l, front, h, hp => by
    have hp' : placesF l = (front ++ g.reverse) ++ p :: [] := by rw [hp]; simp
    exact rmL_places g _ front (right_cut h _) (by rw [places_remove h hp']; simp)
/-- How removing ends where the fuse alone fails. -/
theorem rm_came : ∀ (gs : List Pl) (L : Lg) (front : List Pl), placesF L.l = front ++ gs.reverse → rightF L.l = true → L.dn = false → L.fa = -1 →
    (∃ fu', rmAll L gs = (⟨rmL L.l gs, false, fu', -1, L.size, L.fr, L.nx, L.br⟩, 0) ∧ (L.fu = -1 → fu' = -1)) ∨
    (L.fu ≠ -1 ∧ ∃ g1 g2 R, gs = g1 ++ g2 ∧ rmAll L gs = (R, 17) ∧ R.l = rmL L.l g1 ∧ R.br = true)
  | [], ⟨l, dn, fu, fa, size, fr, nx, br⟩, front, hp, hr, hd, ha => by
    simp only at hd ha
    subst hd ha
    exact .inl ⟨fu, rfl, fun h => h⟩
  | p :: gs, ⟨l, dn, fu, fa, size, fr, nx, br⟩, front, hp, hr, hd, ha => by
    simp only at hd ha hp hr
    subst hd ha
    have hp' : placesF l = (front ++ gs.reverse) ++ p :: [] := by rw [hp]; simp
    obtain ⟨g1, g2, _⟩ := place_at hr hp'
    have hc := remove_came (fu := fu) hr g2
    by_cases hf : fu = 0
    · subst hf
      rw [if_pos rfl] at hc
      refine .inr ⟨by show (0 : Int) ≠ -1; decide, [], p :: gs, chg ⟨l, false, 0, -1, size, fr, nx, br⟩ (l, true, 0, -1, 17), rfl, ?_, rfl, rfl⟩
      rw [rmAll]
      simp only [hc]
      rfl
    · rw [if_neg hf] at hc
      have hstep : rmAll ⟨l, false, fu, -1, size, fr, nx, br⟩ (p :: gs) = rmAll ⟨l.take (bsOf l p.1.f0) ++ l.drop (bsOf l p.1.f0 + 1), false, fuN fu, -1, size, fr, nx, br⟩ gs := by
        rw [rmAll]
        simp only [hc]
        rfl
      have hp2 := places_remove hr hp'
      rw [List.append_nil] at hp2
      rcases rm_came gs ⟨l.take (bsOf l p.1.f0) ++ l.drop (bsOf l p.1.f0 + 1), false, fuN fu, -1, size, fr, nx, br⟩ front hp2 (right_cut hr _) rfl rfl with ⟨fu', h1, h2⟩ | ⟨h0, a, b, R, h1, h2, h3, h4⟩
      · exact .inl ⟨fu', by rw [hstep, h1]; rfl, fun e => h2 (by show fuN fu = -1; rw [show fu = -1 from e]; decide)⟩
      · exact .inr ⟨fun e => h0 (by show fuN fu = -1; rw [show fu = -1 from e]; decide), p :: a, b, R, by rw [h1]; rfl, by rw [hstep, h2], h3, h4⟩
theorem find_spec (l : List S67) : ∃ front, placesF l = front ++ (findF l).gone ∧ (front = [] → (findF l).gone = []) ∧ ((findF l).torn = none ∨ ∃ a p e, (findF l).torn = some (p, e) ∧ front = a ++ [p] ∧ e < p.1.f1.size) := by
  obtain ⟨kept, ds, m, hc, hh⟩ := goF_spec SU (placesF l) (firstN (placesF l))
  have e : findF l = goF SU (placesF l) (firstN (placesF l)) := rfl
  rw [← e] at hh
  rcases hh with ⟨a1, a2, a3, a4, a5⟩ | ⟨p, e, dt, a1, a2, a3, a4, a5, a6, a7⟩
  · refine ⟨kept, a2, fun hk => ?_, .inl a1⟩
    subst hk
    obtain ⟨_, rfl⟩ := hc
    cases hg : (findF l).gone with
    | nil => rfl
    | cons p r =>
      exact absurd (by rw [a2, hg]; rfl) (a5 p r hg)
  · refine ⟨kept ++ [p], by rw [a2]; simp, fun hk => by simp at hk, .inr ⟨kept, p, e, a1, rfl, a5⟩⟩
/-- The files behind an opening that comes to its end. -/
noncomputable def finL (l : List S67) : List S67 := match (findF l).torn with
  | none => rmL l (findF l).gone.reverse
  | some x => (rmL l (findF l).gone.reverse).set (bsOf (rmL l (findF l).gone.reverse) x.1.1.f0) ⟨x.1.1.f0, x.1.1.f1.extract 0 x.2, (x.2 : Int)⟩
/-- How an opening ends where the fuse alone fails. -/
theorem open_came {l : List S67} {size : Int} (fu : Int) (hr : rightF l = true) (h0 : 1 ≤ size) (h1 : size ≤ 262144) :
    (∃ fu', openF l false fu (-1) size = (⟨finL l, false, fu', -1, size, (firstN (placesF l) : Int), ((findF l).next : Int), false⟩, recR (findF l).recs (firstN (placesF l)), 0) ∧ (fu = -1 → fu' = -1)) ∨
    (fu ≠ -1 ∧ ∃ g1 g2 R, (findF l).gone.reverse = g1 ++ g2 ∧ openF l false fu (-1) size = (R, [], 17) ∧ R.l = rmL l g1 ∧ R.br = true) := by
  obtain ⟨front, hf, _, ht⟩ := find_spec l
  have hopen : openF l false fu (-1) size = ((openDo ⟨l, false, fu, -1, size, 0, 0, false⟩ (findF l) (firstN (placesF l))).1, if (openDo ⟨l, false, fu, -1, size, 0, 0, false⟩ (findF l) (firstN (placesF l))).2 = 0 then recR (findF l).recs (firstN (placesF l)) else [],
      (openDo ⟨l, false, fu, -1, size, 0, 0, false⟩ (findF l) (firstN (placesF l))).2) := by
    rw [openF, if_pos hr, if_neg (by omega), if_neg (by simp)]
  rw [hopen]
  rcases rm_came (findF l).gone.reverse ⟨l, false, fu, -1, size, 0, 0, false⟩ front (by rw [List.reverse_reverse]; exact hf) hr rfl rfl with ⟨fu', e1, e2⟩ | ⟨e0, g1, g2, R, e1, e2, e3, e4⟩
  · simp only at e1 e2
    rcases ht with ht | ⟨a, p, e, ht, hfr, he⟩
    · have hD : openDo ⟨l, false, fu, -1, size, 0, 0, false⟩ (findF l) (firstN (placesF l)) = (⟨finL l, false, fu', -1, size, (firstN (placesF l) : Int), ((findF l).next : Int), false⟩, 0) := by
        rw [openDo, e1, ht, finL, ht]
        simp [cutTorn]
      rw [hD]
      exact .inl ⟨fu', by rw [if_pos rfl], e2⟩
    · have hpl : placesF (rmL l (findF l).gone.reverse) = a ++ p :: [] := by
        rw [rmL_places _ l front hr (by rw [List.reverse_reverse]; exact hf), hfr]
      have hr2 := rmL_right (findF l).gone.reverse l hr
      obtain ⟨k1, k2, _⟩ := place_at hr2 hpl
      have hc := cut_came (fu := fu') (e := e) hr2 k2 k1 (by omega)
      by_cases hz : fu' = 0
      · have hD : openDo ⟨l, false, fu, -1, size, 0, 0, false⟩ (findF l) (firstN (placesF l)) = (⟨rmL l (findF l).gone.reverse, true, fu', -1, size, 0, 0, true⟩, 17) := by
          rw [openDo, e1, ht]
          rw [if_pos hz] at hc
          simp only [cutTorn, hc, chg, if_true]
          rw [if_neg (by decide)]
          rfl
        rw [hD]
        exact .inr ⟨fun h => by have := e2 h; omega, (findF l).gone.reverse, [], _, by simp, by rw [if_neg (by simp)], rfl, rfl⟩
      · have hD : openDo ⟨l, false, fu, -1, size, 0, 0, false⟩ (findF l) (firstN (placesF l)) = (⟨finL l, false, fuN fu', -1, size, (firstN (placesF l) : Int), ((findF l).next : Int), false⟩, 0) := by
          rw [openDo, e1, ht]
          rw [if_neg hz] at hc
          simp only [cutTorn, hc, chg, if_true]
          rw [finL, ht]
        rw [hD]
        exact .inl ⟨fuN fu', by rw [if_pos rfl], fun h => by rw [e2 h]; decide⟩
  · have hD : openDo ⟨l, false, fu, -1, size, 0, 0, false⟩ (findF l) (firstN (placesF l)) = (R, 17) := by
      rw [openDo, e2, if_neg (by simp)]
    rw [hD]
    exact .inr ⟨e0, g1, g2, R, e1, by rw [if_neg (by simp)], e3, e4⟩
/-- On a disk that never fails an opening is done. -/
theorem open_fine {l : List S67} {size : Int} (hr : rightF l = true) (h0 : 1 ≤ size) (h1 : size ≤ 262144) :
    openF l false (-1) (-1) size = (⟨finL l, false, -1, -1, size, (firstN (placesF l) : Int), ((findF l).next : Int), false⟩, recR (findF l).recs (firstN (placesF l)), 0) := by
  rcases open_came (-1) hr h0 h1 with ⟨fu', h, h2⟩ | ⟨h, _⟩
  · rw [h, h2 rfl]
  · exact absurd rfl h
theorem recR_inj : ∀ (a b : List Bytes) (n : Nat), recR a n = recR b n → a = b
  | [], [], _, _ => rfl
  | [], d :: b, n, h => by simp [recR] at h
  | d :: a, [], n, h => by simp [recR] at h
  | d :: a, e :: b, n, h => by
    simp only [recR, List.cons.injEq, S62.mk.injEq, true_and] at h
    have hd := congrArg byt h.1
    rw [byt_mk, byt_mk] at hd
    rw [hd, recR_inj a b _ h.2]
/-- What is opened there is whole. -/
theorem open_fine_wf {l : List S67} {size : Int} (hr : rightF l = true) (h0 : 1 ≤ size) (h1 : size ≤ 262144) :
    WF ⟨finL l, false, -1, -1, size, (firstN (placesF l) : Int), ((findF l).next : Int), false⟩ (findF l).recs (firstN (placesF l)) (findF l).next := by
  obtain ⟨ds, n, m, hw, hrs, _⟩ := open_whole (open_fine hr h0 h1)
  have h2 : firstN (placesF l) = n := by have := hw.fr; simp only at this; omega
  have h3 : (findF l).next = m := by have := hw.nx; simp only at this; omega
  rw [h2] at hrs
  rw [recR_inj _ _ _ hrs, h3]
  rw [h2, h3] at hw
  rw [h2]
  exact hw
/-! ### What is synced -/
def Sy (l : List S67) : Prop := ∀ x ∈ l, (x.f1.size : Int) = x.f2
theorem crash_sy {l : List S67} (h : Sy l) (ks : List Int) : crashF l ks = l := by
  apply List.ext_getElem?
  intro i
  cases e : l[i]? with
  | none => rw [List.getElem?_eq_none (by rw [crashF_length]; exact List.getElem?_eq_none_iff.1 e)]
  | some x => rw [crashF_get e, crash_again (h x (List.mem_of_getElem? e))]
theorem sy_crash {l : List S67} (h : rightF l = true) (ks : List Int) : Sy (crashF l ks) := by
  intro y hy
  obtain ⟨i, x, hx, rfl⟩ := mem_crash hy
  exact (crash_one (((right_iff l).1 h).2.1 x (List.mem_of_getElem? hx)) _).2
/-- An opening that the power cut off, done once more. -/
theorem open_cut {l : List S67} {size : Int} (hr : rightF l = true) (hs : Sy l) (h0 : 1 ≤ size) (h1 : size ≤ 262144) {g1 g2 : List Pl} (hg : (findF l).gone.reverse = g1 ++ g2) :
    rightF (rmL l g1) = true ∧ Sy (rmL l g1) ∧ openF (rmL l g1) false (-1) (-1) size = openF l false (-1) (-1) size := by
  have hr2 := rmL_right g1 l hr
  refine ⟨hr2, fun x hx => hs x (rmL_mem g1 l x hx), ?_⟩
  obtain ⟨front, hf, hfe, ht⟩ := find_spec l
  have hgone : (findF l).gone = g2.reverse ++ g1.reverse := by
    rw [← List.reverse_reverse (findF l).gone, hg, List.reverse_append]
  have hpl : placesF (rmL l g1) = front ++ g2.reverse := rmL_places g1 l _ hr (by rw [hf, hgone, List.append_assoc])
  have hn : firstN (placesF (rmL l g1)) = firstN (placesF l) := by
    rw [hpl, hf]
    cases front with
    | nil =>
      have hg0 := hfe rfl
      rw [hg0] at hgone
      have : g2.reverse = [] := (List.append_eq_nil_iff.1 hgone.symm).1
      rw [hg0, this]
    | cons p r => rfl
  have hfd : findF (rmL l g1) = ⟨(findF l).recs, (findF l).next, (findF l).torn, g2.reverse⟩ := by
    rw [findF, hn, hpl]
    exact goF_prefix SU (placesF l) (firstN (placesF l)) front g2.reverse g1.reverse hgone hf
  rw [open_fine hr2 h0 h1, open_fine hr h0 h1, hn, hfd]
  have hfin : finL (rmL l g1) = finL l := by
    rw [finL, finL, hfd]
    simp only [List.reverse_reverse, ← rmL_append, ← hg]
  rw [hfin]
/-! ### What a failed append leaves -/
theorem changed_no {l : List S67} {dn : Bool} {fu fa : Int} {s : ByteArray} {wr : Bool} {rf : Int → Bool → Int} {df : Int → List S67} (hr : rightF l = true) (h : (changedF l dn fu fa s wr rf df).2.2.2.2 ≠ 0) :
    (changedF l dn fu fa s wr rf df).1 = l ∨ (wr = true ∧ rf (bsOf l s) (isAt l s (bsOf l s)) = 0 ∧ (changedF l dn fu fa s wr rf df).1 = df (bsOf l s)) := by
  unfold changedF at h ⊢
  rw [if_pos hr] at h ⊢
  split
  · exact .inl rfl
  · split
    · rename_i hrf
      split
      · exact .inl rfl
      · split
        · cases wr
          · exact .inl rfl
          · exact .inr ⟨rfl, hrf, rfl⟩
        · rename_i h1 h2 h3
          rw [if_neg (by assumption), if_pos hrf, if_neg h2, if_neg h3] at h
          exact absurd rfl h
    · exact .inl rfl
/-- Files behind a frame that is not synced. -/
structure Wet (l : List S67) (ds : List Bytes) (n m : Nat) (d : ByteArray) : Prop where
  right : rightF l = true
  ex : ∃ (a : List Pl) (p : Pl) (t : ByteArray), placesF l = a ++ [((⟨p.1.f0, p.1.f1 ++ t, p.1.f2⟩ : S67), p.2)] ∧ chain SU n (a ++ [p]) ds m ∧ firstN (a ++ [p]) = n ∧ (p.1.f1.size : Int) = p.1.f2 ∧ byt t = frame SU m (byt d) ∧ ∀ x ∈ l, x.f0.toList ≠ p.1.f0.toList → (x.f1.size : Int) = x.f2
/-- Files as they are found behind a crash. -/
structure Back (l : List S67) (es : List Bytes) (n : Nat) : Prop where
  right : rightF l = true
  sy : Sy l
  first : firstN (placesF l) = n
  recs : (findF l).recs = es
  next : (findF l).next = n + es.length
theorem WF.back {L : Lg} {ds : List Bytes} {n m : Nat} (h : WF L ds n m) (hs : Sy L.l) : Back L.l ds n :=
  ⟨h.right, hs, h.first, by rw [h.find], by rw [h.find]; exact chain_next SU n _ ds m h.ch⟩
theorem go_one {y : Pl} {k : Nat} (h : y.2 = k) : (goF SU [y] k).recs = (readB SU (byt y.1.f1) k).1 ∧ (goF SU [y] k).next = k + (readB SU (byt y.1.f1) k).1.length := by
  rw [goF, if_pos h]
  split
  · exact ⟨rfl, rfl⟩
  · simp [goF]
theorem back_of {l : List S67} {n m j : Nat} {a : List Pl} {p y : Pl} {ds : List Bytes} {d : ByteArray} (hr : rightF l = true) (hs : Sy l) (hp : placesF l = a ++ [y]) (hch : chain SU n (a ++ [p]) ds m) (hf : firstN (a ++ [p]) = n) (hk : y.2 = p.2)
    (hb : byt y.1.f1 = byt p.1.f1 ++ (frame SU m (byt d)).take j) (hd : d.size ≤ 65536) (hm : m < most) : Back l ds n ∨ Back l (ds ++ [byt d]) n := by
  have hfn : firstN (placesF l) = n := by
    rw [hp, ← hf]
    cases a with
    | nil => exact hk
    | cons q r => rfl
  obtain ⟨d1, d2, k, c1, c2, c3⟩ := chain_split SU n a [p] ds m hch
  have hnk := chain_next SU n _ d1 k c1
  obtain ⟨c4, e1, e2, rfl, c5, c6⟩ := c2
  obtain ⟨rfl, c7⟩ := c6
  obtain ⟨w1, w2⟩ := whole_bytes c5
  have hread := readB_frames SU e1 k ((frame SU m (byt d)).take j) w2 (by omega)
  rw [← w1, ← hb, ← c7] at hread
  have hgo := goF_chain SU n a [y] d1 k c1
  obtain ⟨o1, o2⟩ := go_one (y := y) (k := k) (hk.trans c4)
  have hF : findF l = goF SU (a ++ [y]) n := by rw [findF, hfn, hp]
  rw [hgo] at hF
  have hfl := frame_length SU m (byt d)
  by_cases hj : j < (frame SU m (byt d)).length
  · left
    have hno : readB SU ((frame SU m (byt d)).take j) m = ([], 0) := readB_none (first_short SU (by rw [byt_length]; exact hd) hj)
    rw [hno] at hread
    refine ⟨hr, hs, hfn, ?_, ?_⟩
    · rw [hF, c3]
      simp only [o1, hread, List.append_nil]
    · rw [hF, c3]
      simp only [o2, hread, List.append_nil, List.length_append]
      omega
  · right
    have hyes : readB SU ((frame SU m (byt d)).take j) m = ([byt d], 16 + d.size) := by
      rw [List.take_of_length_le (by omega)]
      have := readB_frame SU (n := m) (d := byt d) (r := []) (by rw [byt_length]; exact hd) hm
      rw [List.append_nil] at this
      rw [this, byt_length]
      rfl
    rw [hyes] at hread
    refine ⟨hr, hs, hfn, ?_, ?_⟩
    · rw [hF, c3]
      simp only [o1, hread, List.append_nil, List.append_assoc]
    · rw [hF, c3]
      simp only [o2, hread, List.append_nil, List.length_append, List.length_singleton]
      omega
theorem wet_crash {l : List S67} {ds : List Bytes} {n m : Nat} {d : ByteArray} (h : Wet l ds n m d) (hd : d.size ≤ 65536) (hm : m < most) (ks : List Int) : Back (crashF l ks) ds n ∨ Back (crashF l ks) (ds ++ [byt d]) n := by
  have hr := h.right
  obtain ⟨a, p, t, h1, h2, h3, h4, h5, h6⟩ := h.ex
  obtain ⟨y, hy⟩ : ∃ y : S67, y = ⟨p.1.f0, p.1.f1 ++ t, p.1.f2⟩ := ⟨_, rfl⟩
  rw [← hy] at h1
  have hyn : y.f0 = p.1.f0 := by rw [hy]
  have h1' : placesF l = a ++ ((y, p.2) : Pl) :: [] := h1
  obtain ⟨g1, g2, _⟩ := place_at hr h1'
  simp only at g1 g2
  have hc : crashF l ks = l.set (bsOf l y.f0) (crash1 y ks[bsOf l y.f0]?) := by
    apply List.ext_getElem?
    intro i
    cases e : l[i]? with
    | none =>
      have := List.getElem?_eq_none_iff.1 e
      rw [List.getElem?_eq_none (by rw [crashF_length]; exact this), List.getElem?_eq_none (by rw [List.length_set]; exact this)]
    | some x =>
      have hil := (List.getElem?_eq_some_iff.1 e).1
      rw [crashF_get e]
      by_cases hi : bsOf l y.f0 = i
      · subst hi
        rw [g1] at e
        injection e with e
        subst e
        rw [List.getElem?_set_self hil]
      · rw [List.getElem?_set_ne hi, e, crash_again (h6 x (List.mem_of_getElem? e) fun e2 => hi (right_same hr g1 e (by rw [hyn]; exact e2.symm)))]
  have hpl : placesF (crashF l ks) = a ++ [((crash1 y ks[bsOf l y.f0]?, p.2) : Pl)] := by
    rw [hc]
    exact places_set hr h1' rfl
  have hok := right_get hr g1
  have hrange := crashS_range hok.2.2.1 hok.2.2.2 ks[bsOf l y.f0]?
  have hy2 : y.f2 = (p.1.f1.size : Int) := by rw [hy]; exact h4.symm
  refine back_of (j := (crashS y ks[bsOf l y.f0]?).toNat - p.1.f1.size) (crash_right hr ks) (sy_crash hr ks) hpl h2 h3 rfl ?_ hd hm
  show byt (y.f1.extract 0 (crashS y ks[bsOf l y.f0]?).toNat) = _
  rw [byt_extract, List.drop_zero, ← h5]
  have : byt y.f1 = byt p.1.f1 ++ byt t := by rw [hy]; exact byt_append _ _
  rw [this, List.take_append, List.take_of_length_le (by rw [byt_length]; omega), byt_length]
theorem sy_by {l : List S67} {z : S67} {s : List UInt8} (h : rightF l = true) (hz : z ∈ l) (hn : z.f0.toList = s) (h1 : (z.f1.size : Int) = z.f2) (h2 : ∀ x ∈ l, x.f0.toList ≠ s → (x.f1.size : Int) = x.f2) : Sy l := by
  intro x hx
  by_cases e : x.f0.toList = s
  · obtain ⟨i, hi⟩ := List.getElem?_of_mem hx
    obtain ⟨j, hj⟩ := List.getElem?_of_mem hz
    have := right_same h hi hj (e.trans hn.symm)
    subst this
    rw [hi] at hj
    injection hj with hj
    rw [hj]
    exact h1
  · exact h2 x hx e
theorem stepC_sy {L R : Lg} {ds : List Bytes} {n m k : Nat} (h : WF L ds n m) (hs : Sy L.l) (hR : stepC L k = (R, 0)) : Sy R.l := by
  unfold stepC at hR
  split at hR
  · obtain ⟨hs1, hz⟩ := Prod.mk.inj hR
    obtain ⟨h1, h2, h3, h4, h5⟩ := changed_all hz
    rw [← hs1]
    show Sy (createF L.l L.dn L.fu L.fa (nameB L.nx.toNat)).1
    rw [createF, h4]
    intro x hx
    rcases (mem_new _ _ _).1 hx with rfl | hx
    · rfl
    · exact hs x hx
  · obtain ⟨rfl, _⟩ := Prod.mk.inj hR
    exact hs
theorem stepC_no {L R : Lg} {ds : List Bytes} {n m k : Nat} {e : Int} (h : WF L ds n m) (hR : stepC L k = (R, e)) (he : e ≠ 0) : R.l = L.l := by
  unfold stepC at hR
  split at hR
  · obtain ⟨hs1, hz⟩ := Prod.mk.inj hR
    rw [← hs1]
    show (createF L.l L.dn L.fu L.fa (nameB L.nx.toNat)).1 = L.l
    rcases changed_no h.right (by show (createF L.l L.dn L.fu L.fa (nameB L.nx.toNat)).2.2.2.2 ≠ 0; rw [hz]; exact he) with h1 | ⟨h1, _⟩
    · exact h1
    · cases h1
  · exact absurd (Prod.mk.inj hR).2.symm he
theorem stepA_set {L : Lg} {ds : List Bytes} {n m : Nat} {a : List Pl} {p : Pl} (s : ByteArray) (h : WF L ds n m) (hp : placesF L.l = a ++ [p]) :
    (stepA L p.1.f0 s).1.l = L.l.set (bsOf L.l p.1.f0) ⟨p.1.f0, p.1.f1 ++ s, p.1.f2⟩ ∧ rightF (L.l.set (bsOf L.l p.1.f0) ⟨p.1.f0, p.1.f1 ++ s, p.1.f2⟩) = true ∨ (stepA L p.1.f0 s).2 ≠ 0 ∧ (stepA L p.1.f0 s).1.l = L.l := by
  have hp' : placesF L.l = a ++ p :: [] := hp
  obtain ⟨g1, g2, _⟩ := place_at h.right hp'
  have key : rfW s L.l (bsOf L.l p.1.f0) (isAt L.l p.1.f0 (bsOf L.l p.1.f0)) = 0 → rightF (L.l.set (bsOf L.l p.1.f0) ⟨p.1.f0, p.1.f1 ++ s, p.1.f2⟩) = true := by
    intro h3
    have hg := (good_append h.right s h3).1
    simpa only [Int.toNat_natCast, rd_get g1] using hg
  by_cases hz : (appendF L.l L.dn L.fu L.fa p.1.f0 s).2.2.2.2 = 0
  · obtain ⟨h1, h2, h3, h4, h5⟩ := changed_all hz
    refine .inl ⟨?_, key h3⟩
    show (appendF L.l L.dn L.fu L.fa p.1.f0 s).1 = _
    rw [appendF, h4]
    simp only [Int.toNat_natCast, rd_get g1]
  · rcases changed_no h.right hz with h1 | ⟨_, h3, h4⟩
    · exact .inr ⟨hz, h1⟩
    · refine .inl ⟨?_, key h3⟩
      show (appendF L.l L.dn L.fu L.fa p.1.f0 s).1 = _
      rw [appendF, h4]
      simp only [Int.toNat_natCast, rd_get g1]
theorem wet_set {L : Lg} {ds : List Bytes} {n m : Nat} {a : List Pl} {p : Pl} {s d : ByteArray} (h : WF L ds n m) (hs : Sy L.l) (hp : placesF L.l = a ++ [p]) (hb : byt s = frame SU m (byt d)) (hr : rightF (L.l.set (bsOf L.l p.1.f0) ⟨p.1.f0, p.1.f1 ++ s, p.1.f2⟩) = true) :
    Wet (L.l.set (bsOf L.l p.1.f0) ⟨p.1.f0, p.1.f1 ++ s, p.1.f2⟩) ds n m d := by
  have hp' : placesF L.l = a ++ p :: [] := hp
  obtain ⟨g1, g2, _⟩ := place_at h.right hp'
  refine ⟨hr, a, p, s, places_set h.right hp' rfl, by rw [← hp]; exact h.ch, by rw [← hp]; exact h.first, hs p.1 (List.mem_of_getElem? g1), hb, fun x hx hne => ?_⟩
  exact hs x ((mem_set (y := ⟨p.1.f0, p.1.f1 ++ s, p.1.f2⟩) (z := x) h.right g1 rfl hne).1 hx)
theorem putDo_sy {L R : Lg} {ds : List Bytes} {n m : Nat} {a : List Pl} {p : Pl} {s : ByteArray} (h : WF L ds n m) (hs : Sy L.l) (hp : placesF L.l = a ++ [p]) (hR : putDo L s = (R, 0)) : Sy R.l := by
  unfold putDo at hR
  rw [lastNm_of hp] at hR
  split at hR
  case isFalse hz => exact absurd (by rw [hR]) hz
  rename_i hz
  split at hR
  case isFalse hz2 => exact absurd (by rw [hR]) hz2
  rename_i hz2
  obtain ⟨hR, _⟩ := Prod.mk.inj hR
  have hp' : placesF L.l = a ++ p :: [] := hp
  obtain ⟨g1, g2, _⟩ := place_at h.right hp'
  rcases stepA_set s h hp with ⟨e1, e2⟩ | ⟨e1, _⟩
  case inr => exact absurd hz e1
  obtain ⟨y, hy⟩ : ∃ y : S67, y = ⟨p.1.f0, p.1.f1 ++ s, p.1.f2⟩ := ⟨_, rfl⟩
  rw [← hy] at e1 e2
  have hyn : y.f0 = p.1.f0 := by rw [hy]
  have hp2 : placesF (stepA L p.1.f0 s).1.l = a ++ ((y, p.2) : Pl) :: [] := by rw [e1]; exact places_set h.right hp' hyn
  have hr2 : rightF (stepA L p.1.f0 s).1.l = true := by rw [e1]; exact e2
  obtain ⟨j1, j2, _⟩ := place_at hr2 hp2
  simp only [hyn] at j1 j2
  have hz2' : (syncF (stepA L p.1.f0 s).1.l (stepA L p.1.f0 s).1.dn (stepA L p.1.f0 s).1.fu (stepA L p.1.f0 s).1.fa p.1.f0).2.2.2.2 = 0 := hz2
  obtain ⟨h1, h2, h3, h4, h5⟩ := changed_all hz2'
  have e3 : R.l = (stepA L p.1.f0 s).1.l.set (bsOf (stepA L p.1.f0 s).1.l p.1.f0) ⟨y.f0, y.f1, (y.f1.size : Int)⟩ := by
    rw [← hR]
    show (syncF (stepA L p.1.f0 s).1.l (stepA L p.1.f0 s).1.dn (stepA L p.1.f0 s).1.fu (stepA L p.1.f0 s).1.fa p.1.f0).1 = _
    rw [syncF, h4]
    simp only [Int.toNat_natCast, rd_get j1]
  have hr3 : rightF R.l = true := by
    have hg := (good_sync hr2 j2).1
    simp only [Int.toNat_natCast, rd_get j1] at hg
    rw [e3]
    exact hg
  refine sy_by (z := ⟨y.f0, y.f1, (y.f1.size : Int)⟩) (s := p.1.f0.toList) hr3 (by rw [e3]; exact mem_set_self j1) (by rw [← hyn]) rfl fun x hx hne => ?_
  rw [e3] at hx
  have hx2 := (mem_set (y := ⟨y.f0, y.f1, (y.f1.size : Int)⟩) (z := x) hr2 j1 rfl (by rw [hyn]; exact hne)).1 hx
  rw [e1] at hx2
  exact hs x ((mem_set (z := x) h.right g1 hyn hne).1 hx2)
theorem append_sy {L R : Lg} {ds : List Bytes} {n m : Nat} {d : ByteArray} (h : WF L ds n m) (hs : Sy L.l) (hR : appendL L d = (R, 0)) : Sy R.l := by
  rw [appendL, if_pos h.okL, appendDo, h.br, if_neg (by simp)] at hR
  split at hR
  · cases hR
  split at hR
  · cases hR
  split at hR
  case isFalse hz => exact absurd (by rw [hR]) hz
  rename_i hz
  obtain ⟨L1, hL1⟩ : ∃ L1, stepC L (frameF L.nx d).size = (L1, 0) := ⟨_, Prod.ext rfl hz⟩
  rw [hL1] at hR
  obtain ⟨w1, w2, w3, a, p, w4, w5⟩ := stepC_ok h hL1
  exact putDo_sy w1 (stepC_sy h hs hL1) w4 hR
/-- What an append that is not done leaves. -/
theorem append_no {L R : Lg} {ds : List Bytes} {n m : Nat} {d : ByteArray} {e : Int} (h : WF L ds n m) (hs : Sy L.l) (hR : appendL L d = (R, e)) (he : e ≠ 0) :
    (∃ L1, WF L1 ds n m ∧ Sy L1.l ∧ R.l = L1.l) ∨ (Wet R.l ds n m d ∧ d.size ≤ 65536 ∧ m < most) := by
  rw [appendL, if_pos h.okL, appendDo, h.br, if_neg (by simp)] at hR
  split at hR
  · obtain ⟨rfl, _⟩ := Prod.mk.inj hR
    exact .inl ⟨L, h, hs, rfl⟩
  rename_i hd
  split at hR
  · obtain ⟨rfl, _⟩ := Prod.mk.inj hR
    exact .inl ⟨L, h, hs, rfl⟩
  rename_i hm
  have hm2 : m < most := by
    rw [h.nx] at hm
    unfold most
    omega
  split at hR
  case isFalse hz => exact .inl ⟨L, h, hs, stepC_no h hR he⟩
  rename_i hz
  obtain ⟨L1, hL1⟩ : ∃ L1, stepC L (frameF L.nx d).size = (L1, 0) := ⟨_, Prod.ext rfl hz⟩
  rw [hL1] at hR
  obtain ⟨w1, w2, w3, a, p, w4, w5⟩ := stepC_ok h hL1
  have hs1 := stepC_sy h hs hL1
  have hb : byt (frameF L.nx d) = frame SU m (byt d) := by rw [h.nx]; exact frame_bytes m d
  simp only at hR
  unfold putDo at hR
  rw [lastNm_of w4] at hR
  have hset := stepA_set (frameF L.nx d) w1 w4
  have hw := wet_set w1 hs1 w4 hb
  split at hR
  · rename_i hz1
    rcases hset with ⟨e1, e2⟩ | ⟨e1, _⟩
    case inr => exact absurd hz1 e1
    split at hR
    · exact absurd (Prod.mk.inj hR).2.symm he
    · rename_i hz2
      have e3 : R.l = (stepA L1 p.1.f0 (frameF L.nx d)).1.l := by
        have : R = (stepS (stepA L1 p.1.f0 (frameF L.nx d)).1 p.1.f0).1 := by rw [hR]
        rw [this]
        have hr2 : rightF (stepA L1 p.1.f0 (frameF L.nx d)).1.l = true := by rw [e1]; exact e2
        rcases changed_no hr2 hz2 with k1 | ⟨k1, _⟩
        · exact k1
        · cases k1
      refine .inr ⟨?_, by omega, hm2⟩
      rw [e3, e1]
      exact hw e2
  · rename_i hz1
    have hRR : R = (stepA L1 p.1.f0 (frameF L.nx d)).1 := by rw [hR]
    rcases hset with ⟨e1, e2⟩ | ⟨_, e1⟩
    · refine .inr ⟨?_, by omega, hm2⟩
      rw [hRR, e1]
      exact hw e2
    · exact .inl ⟨L1, w1, hs1, by rw [hRR, e1]⟩
/-- What is found behind a crash within an append. -/
theorem append_back {L R : Lg} {ds : List Bytes} {n m : Nat} {d : ByteArray} {e : Int} (h : WF L ds n m) (hs : Sy L.l) (hR : appendL L d = (R, e)) (ks : List Int) :
    rightF R.l = true ∧ (e = 0 → WF R (ds ++ [byt d]) n (m + 1) ∧ Sy R.l ∧ Back (crashF R.l ks) (ds ++ [byt d]) n) ∧ (Back (crashF R.l ks) ds n ∨ Back (crashF R.l ks) (ds ++ [byt d]) n) := by
  by_cases he : e = 0
  · subst he
    obtain ⟨w1, _⟩ := append_ok h hR
    have hsy := append_sy h hs hR
    have hb : Back (crashF R.l ks) (ds ++ [byt d]) n := by rw [crash_sy hsy]; exact w1.back hsy
    exact ⟨w1.right, fun _ => ⟨w1, hsy, hb⟩, .inr hb⟩
  · rcases append_no h hs hR he with ⟨L1, k1, k2, k3⟩ | ⟨k1, k2, k3⟩
    · refine ⟨by rw [k3]; exact k1.right, fun e0 => absurd e0 he, .inl ?_⟩
      rw [k3, crash_sy k2]
      exact k1.back k2
    · exact ⟨k1.right, fun e0 => absurd e0 he, wet_crash k1 k2 k3 ks⟩
/-- What is found is opened. -/
theorem Back.opens {l : List S67} {es : List Bytes} {n : Nat} {size : Int} (h : Back l es n) (h0 : 1 ≤ size) (h1 : size ≤ 262144) :
    ∃ M, openF l false (-1) (-1) size = (M, recR es n, 0) ∧ WF M es n (n + es.length) ∧ M.fu = -1 ∧ M.fa = -1 ∧ M.size = size := by
  have hw := open_fine_wf h.right h0 h1
  have ho := open_fine h.right h0 h1
  rw [h.first, h.recs, h.next] at hw ho
  exact ⟨_, ho, hw, rfl, rfl, rfl⟩
/-! ### Records that were appended, one by one -/
noncomputable def keepAll : Lg → List ByteArray → Lg × List S62
  | L, [] => (L, [])
  | L, s :: r => if (appendL L s).2 = 0 then ((keepAll (appendL L s).1 r).1, ⟨L.nx, s⟩ :: (keepAll (appendL L s).1 r).2) else keepAll L r
theorem changed_m1 {l : List S67} {s : ByteArray} {wr : Bool} {rf : Int → Bool → Int} {df : Int → List S67} (hr : rightF l = true) : (changedF l false (-1) (-1) s wr rf df).2.2.1 = -1 ∧ (changedF l false (-1) (-1) s wr rf df).2.2.2.1 = -1 := by
  rw [changed_whole hr]
  split <;> exact ⟨rfl, rfl⟩
theorem append_m1 {L R : Lg} {ds : List Bytes} {n m : Nat} {d : ByteArray} (h : WF L ds n m) (hu : L.fu = -1) (ha : L.fa = -1) (hR : appendL L d = (R, 0)) : R.fu = -1 ∧ R.fa = -1 := by
  rw [appendL, if_pos h.okL, appendDo, h.br, if_neg (by simp)] at hR
  split at hR
  · cases hR
  split at hR
  · cases hR
  split at hR
  case isFalse hz => exact absurd (by rw [hR]) hz
  rename_i hd hm hz
  obtain ⟨L1, hL1⟩ : ∃ L1, stepC L (frameF L.nx d).size = (L1, 0) := ⟨_, Prod.ext rfl hz⟩
  rw [hL1] at hR
  obtain ⟨w1, w2, w3, a, p, w4, w5⟩ := stepC_ok h hL1
  have h1 : L1.fu = -1 ∧ L1.fa = -1 := by
    unfold stepC at hL1
    split at hL1
    · obtain ⟨hs1, _⟩ := Prod.mk.inj hL1
      rw [← hs1, hu, ha, h.dn]
      exact changed_m1 h.right
    · obtain ⟨rfl, _⟩ := Prod.mk.inj hL1
      exact ⟨hu, ha⟩
  simp only at hR
  unfold putDo at hR
  rw [lastNm_of w4] at hR
  split at hR
  case isFalse hz1 => exact absurd (by rw [hR]) hz1
  rename_i hz1
  split at hR
  case isFalse hz2 => exact absurd (by rw [hR]) hz2
  rename_i hz2
  obtain ⟨hR, _⟩ := Prod.mk.inj hR
  have h2 : (stepA L1 p.1.f0 (frameF L.nx d)).1.fu = -1 ∧ (stepA L1 p.1.f0 (frameF L.nx d)).1.fa = -1 := by
    rw [stepA, h1.1, h1.2, w1.dn]
    exact changed_m1 w1.right
  have hp' : placesF L1.l = a ++ p :: [] := w4
  obtain ⟨k1, k2, k3, k4⟩ := append_all (L := L1) hp' hz1
  have k1' : rightF (stepA L1 p.1.f0 (frameF L.nx d)).1.l = true := k1
  have k3' : (stepA L1 p.1.f0 (frameF L.nx d)).1.dn = false := k3
  rw [← hR]
  show (stepS (stepA L1 p.1.f0 (frameF L.nx d)).1 p.1.f0).1.fu = -1 ∧ (stepS (stepA L1 p.1.f0 (frameF L.nx d)).1 p.1.f0).1.fa = -1
  rw [stepS, h2.1, h2.2, k3']
  exact changed_m1 k1'
theorem mk_byt (d : ByteArray) : (⟨(byt d).toArray⟩ : ByteArray) = d := byt_inj (byt_mk _)
theorem keepAll_ok : ∀ (data : List ByteArray) (L : Lg) (ds : List Bytes) (n m : Nat), WF L ds n m → Sy L.l → L.fu = -1 → L.fa = -1 →
    ∃ es, WF (keepAll L data).1 (ds ++ es) n (m + es.length) ∧ Sy (keepAll L data).1.l ∧ (keepAll L data).2 = recR es m ∧ es.length ≤ data.length ∧ (keepAll L data).1.size = L.size ∧ (keepAll L data).1.fu = -1 ∧ (keepAll L data).1.fa = -1
  | [], L, ds, n, m, h, hs, hu, ha => ⟨[], by simpa [keepAll] using h, hs, rfl, Nat.le_refl _, rfl, hu, ha⟩
  | s :: r, L, ds, n, m, h, hs, hu, ha => by
    rw [keepAll]
    by_cases hz : (appendL L s).2 = 0
    · rw [if_pos hz]
      obtain ⟨R, hR⟩ : ∃ R, appendL L s = (R, 0) := ⟨_, Prod.ext rfl hz⟩
      rw [hR]
      obtain ⟨w1, w2, _⟩ := append_ok h hR
      obtain ⟨m1, m2⟩ := append_m1 h hu ha hR
      obtain ⟨es, k1, k2, k3, k4, k5, k6⟩ := keepAll_ok r R _ n (m + 1) w1 (append_sy h hs hR) m1 m2
      refine ⟨byt s :: es, ?_, k2, ?_, by simp only [List.length_cons]; omega, by rw [k5, w2], k6⟩
      · rw [List.append_assoc, show m + 1 + es.length = m + (byt s :: es).length by simp only [List.length_cons]; omega] at k1
        exact k1
      · simp only [k3, recR, mk_byt, h.nx]
    · rw [if_neg hz]
      obtain ⟨es, k1, k2, k3, k4, k5⟩ := keepAll_ok r L ds n m h hs hu ha
      exact ⟨es, k1, k2, k3, by simp only [List.length_cons]; omega, k5⟩
/-- What 'kept' answers. -/
noncomputable def keptF (size : Int) (data : List ByteArray) (last : ByteArray) (fu fa : Int) : Lg × List S62 × Int :=
  if size < 1 ∨ 262144 < size then (Lz, [], 2)
  else ((appendL { (keepAll (L0s size) data).1 with fu := fu, fa := fa } last).1,
    if (appendL { (keepAll (L0s size) data).1 with fu := fu, fa := fa } last).2 = 0 then (keepAll (L0s size) data).2 ++ [⟨(keepAll (L0s size) data).1.nx, last⟩] else (keepAll (L0s size) data).2,
    (appendL { (keepAll (L0s size) data).1 with fu := fu, fa := fa } last).2)
theorem WF.refuse {L : Lg} {ds : List Bytes} {n m : Nat} (h : WF L ds n m) (fu fa : Int) : WF { L with fu := fu, fa := fa } ds n m :=
  ⟨h.right, h.dn, h.br, h.lo, h.hi, h.first, h.ch, h.top, h.fr, h.nx⟩
/-- What 'kept' comes to: what was told OK; behind a crash that and, perhaps, the last one. -/
theorem kept_spec {size : Int} {data : List ByteArray} {last : ByteArray} {fu fa : Int} {R : Lg} {want : List S62} {e : Int} (h0 : 1 ≤ size) (h1 : size ≤ 262144) (h : keptF size data last fu fa = (R, want, e)) :
    ∃ ds, ds.length ≤ data.length + 1 ∧ want = recR ds 1 ∧ rightF R.l = true ∧ (e = 0 → WF R ds 1 (1 + ds.length) ∧ Sy R.l ∧ R.size = size) ∧
      (e = 0 → fu = -1 → fa = -1 → R.fu = -1 ∧ R.fa = -1) ∧
      ∀ ks, ∃ es, Back (crashF R.l ks) es 1 ∧ (es = ds ∨ (e ≠ 0 ∧ es = ds ++ [byt last])) := by
  rw [keptF, if_neg (by omega)] at h
  obtain ⟨es, k1, k2, k3, k4, k5, k6, k7⟩ := keepAll_ok data (L0s size) [] 1 1 (WF_nil h0 h1) (by intro x hx; cases hx) rfl rfl
  obtain ⟨K, hK⟩ : ∃ K, K = keepAll (L0s size) data := ⟨_, rfl⟩
  rw [← hK] at h k1 k2 k3 k5 k6 k7
  rw [List.nil_append] at k1
  have w := k1.refuse fu fa
  obtain ⟨q, hq⟩ : ∃ q, appendL { K.1 with fu := fu, fa := fa } last = (q, (appendL { K.1 with fu := fu, fa := fa } last).2) := ⟨_, rfl⟩
  obtain ⟨h2, h3, h4⟩ : (appendL { K.1 with fu := fu, fa := fa } last).1 = R ∧ (if (appendL { K.1 with fu := fu, fa := fa } last).2 = 0 then K.2 ++ [⟨K.1.nx, last⟩] else K.2) = want ∧ (appendL { K.1 with fu := fu, fa := fa } last).2 = e := by
    simpa only [Prod.mk.injEq] using h
  have hR : appendL { K.1 with fu := fu, fa := fa } last = (R, e) := Prod.ext h2 h4
  rw [h4] at h3
  by_cases he : e = 0
  · subst he
    rw [if_pos rfl] at h3
    obtain ⟨w1, w2, _⟩ := append_ok w hR
    have hsy := append_sy w k2 hR
    refine ⟨es ++ [byt last], by simp only [List.length_append, List.length_singleton]; omega, ?_, w1.right, fun _ => ⟨?_, hsy, ?_⟩, fun _ hu ha => append_m1 w hu ha hR, fun ks => ⟨es ++ [byt last], ?_, .inl rfl⟩⟩
    · rw [← h3, k3, recR_append, k1.nx]
      simp only [recR, mk_byt]
    · rw [show 1 + (es ++ [byt last]).length = 1 + es.length + 1 by simp only [List.length_append, List.length_singleton]; omega]
      exact w1
    · rw [w2]
      exact k5
    · rw [crash_sy hsy]
      exact w1.back hsy
  · rw [if_neg he] at h3
    refine ⟨es, by omega, by rw [← h3, k3], (append_back w k2 hR []).1, fun e0 => absurd e0 he, fun e0 => absurd e0 he, fun ks => ?_⟩
    rcases (append_back w k2 hR ks).2.2 with hb | hb
    · exact ⟨es, hb, .inl rfl⟩
    · exact ⟨_, hb, .inr ⟨he, rfl⟩⟩
theorem kept_bad {size : Int} (data : List ByteArray) (last : ByteArray) (fu fa : Int) (h : size < 1 ∨ 262144 < size) : keptF size data last fu fa = (Lz, [], 2) := by rw [keptF, if_pos h]
/-! ### Drops -/
theorem drop_ok (q : Int) : ∀ (ps : List Pl) (L : Lg) (ds : List Bytes) (n m : Nat), placesF L.l = ps → rightF L.l = true → L.dn = false → L.fu = -1 → L.fa = -1 → L.br = false → chain SU n ps ds m →
    ∃ R rest d0 d1, dropAll L ps q = (R, 0, rest) ∧ placesF R.l = rest ∧ rightF R.l = true ∧ R.dn = false ∧ R.fu = -1 ∧ R.fa = -1 ∧ R.br = false ∧ R.size = L.size ∧ R.nx = L.nx ∧ R.fr = L.fr ∧ ds = d0 ++ d1 ∧ chain SU (n + d0.length) rest d1 m ∧
      (rest = [] → ps = []) ∧ (d0 = [] ∨ ((n + d0.length : Nat) : Int) ≤ q) ∧ (Sy L.l → Sy R.l)
  | [], L, ds, n, m, hp, hr, hd, hu, ha, hb, hc => ⟨L, [], [], ds, rfl, hp, hr, hd, hu, ha, hb, rfl, rfl, rfl, rfl, hc, fun _ => rfl, .inl rfl, fun h => h⟩
  | [p], L, ds, n, m, hp, hr, hd, hu, ha, hb, hc => ⟨L, [p], [], ds, rfl, hp, hr, hd, hu, ha, hb, rfl, rfl, rfl, rfl, hc, fun h => h, .inl rfl, fun h => h⟩
  | p :: p2 :: r, ⟨l, dn, fu, fa, size, fr, nx, br⟩, ds, n, m, hp, hr, hd, hu, ha, hb, hc => by
    simp only at hp hr hd hu ha hb
    subst hd hu ha hb
    by_cases hq : (p2.2 : Int) ≤ q
    · have hp' : placesF l = [] ++ p :: (p2 :: r) := hp
      obtain ⟨g1, g2, _⟩ := place_at hr hp'
      have hcm := remove_came (fu := -1) hr g2
      rw [if_neg (by decide)] at hcm
      have hstep : dropAll ⟨l, false, -1, -1, size, fr, nx, false⟩ (p :: p2 :: r) q = dropAll ⟨l.take (bsOf l p.1.f0) ++ l.drop (bsOf l p.1.f0 + 1), false, -1, -1, size, fr, nx, false⟩ (p2 :: r) q := by
        rw [dropAll, if_pos hq]
        simp only [hcm]
        rfl
      obtain ⟨c1, e1, e2, rfl, c2, c3⟩ := hc
      obtain ⟨R, rest, d0, d1, k1, k2, k3, k4, k5, k6, k7, k8, k9, k10, k11, k12, k13, k14, k15⟩ := drop_ok q (p2 :: r) ⟨l.take (bsOf l p.1.f0) ++ l.drop (bsOf l p.1.f0 + 1), false, -1, -1, size, fr, nx, false⟩ e2 (n + e1.length) m (places_remove hr hp') (right_cut hr _) rfl rfl rfl rfl c3
      refine ⟨R, rest, e1 ++ d0, d1, by rw [hstep, k1], k2, k3, k4, k5, k6, k7, k8, k9, k10, by rw [k11, List.append_assoc], ?_, fun h => (by cases k13 h), .inr ?_, fun hs => k15 fun x hx => ?_⟩
      · rw [List.length_append, ← Nat.add_assoc]
        exact k12
      · rcases k14 with rfl | k14
        · have := c3.1
          rw [List.append_nil]
          omega
        · rw [List.length_append, ← Nat.add_assoc]
          exact k14
      · rcases List.mem_append.1 hx with h | h
        · exact hs x (List.mem_of_mem_take h)
        · exact hs x (List.mem_of_mem_drop h)
    · exact ⟨_, p :: p2 :: r, [], ds, by rw [dropAll, if_neg hq], hp, hr, rfl, rfl, rfl, rfl, rfl, rfl, rfl, rfl, hc, fun h => h, .inl rfl, fun h => h⟩
/-- What is dropped are the first records. -/
theorem dropL_ok {L : Lg} {ds : List Bytes} {n m : Nat} {q : Int} (h : WF L ds n m) (hu : L.fu = -1) (ha : L.fa = -1) (hq : q ≤ L.nx) :
    ∃ R d0 d1, dropL L q = (R, 0) ∧ WF R d1 (n + d0.length) m ∧ ds = d0 ++ d1 ∧ (d0 = [] ∨ ((n + d0.length : Nat) : Int) ≤ q) ∧ R.size = L.size ∧ R.fu = -1 ∧ R.fa = -1 ∧ (Sy L.l → Sy R.l) := by
  obtain ⟨R, rest, d0, d1, k1, k2, k3, k4, k5, k6, k7, k8, k9, k10, k11, k12, k13, k14, k15⟩ := drop_ok q (placesF L.l) L ds n m rfl h.right h.dn hu ha h.br h.ch
  have hfr : fromF R rest = { R with fr := ((n + d0.length : Nat) : Int) } := by
    cases rest with
    | nil =>
      have hps := k13 rfl
      have hc := h.ch
      rw [hps] at hc
      obtain ⟨hc1, _⟩ := hc
      rw [hc1] at k11
      have h0 : d0 = [] := (List.append_eq_nil_iff.1 k11.symm).1
      subst h0
      show R = _
      have : R.fr = ((n + ([] : List Bytes).length : Nat) : Int) := by rw [k10, h.fr]; rfl
      rw [← this]
    | cons p r =>
      show { R with fr := (p.2 : Int) } = _
      rw [k12.1]
  refine ⟨fromF R rest, d0, d1, ?_, ?_, k11, k14, ?_, ?_, ?_, ?_⟩
  · rw [dropL, if_pos h.okL, dropDo, h.br, if_neg (by simp), if_neg (by omega), k1]
    simp
  · rw [hfr]
    refine ⟨k3, k4, k7, by show 1 ≤ R.size; rw [k8]; exact h.lo, by show R.size ≤ 262144; rw [k8]; exact h.hi, ?_, by show chain SU _ (placesF R.l) d1 m; rw [k2]; exact k12, h.top, rfl, by show R.nx = _; rw [k9]; exact h.nx⟩
    show firstN (placesF R.l) = _
    rw [k2]
    cases rest with
    | nil =>
      have hps := k13 rfl
      have hf := h.first
      have hc := h.ch
      rw [hps] at hf hc
      obtain ⟨hc1, _⟩ := hc
      rw [hc1] at k11
      have h0 : d0 = [] := (List.append_eq_nil_iff.1 k11.symm).1
      subst h0
      exact hf
    | cons p r => exact k12.1
  · rw [hfr]; exact k8
  · rw [hfr]; exact k5
  · rw [hfr]; exact k6
  · rw [hfr]; exact k15
theorem dropL_not {L : Lg} {ds : List Bytes} {n m : Nat} {q : Int} (h : WF L ds n m) (hq : L.nx < q) : dropL L q = (L, 2) := by
  rw [dropL, if_pos h.okL, dropDo, h.br, if_neg (by simp), if_pos hq]
/-! ### How many records a log can have -/
theorem framesL_least (S : Sum) : ∀ (n : Nat) (ds : List Bytes), 16 * ds.length ≤ (framesL S n ds).length
  | n, [] => by simp [framesL]
  | n, d :: r => by
    have := framesL_least S (n + 1) r
    simp only [framesL, List.length_append, frame_length, List.length_cons]
    omega
theorem chain_least : ∀ (n : Nat) (a : List Pl) (ds : List Bytes) (m : Nat), chain SU n a ds m → (∀ p ∈ a, p.1.f1.size ≤ 262144) → ds.length ≤ 16384 * a.length
  | n, [], ds, m, h, _ => by obtain ⟨rfl, _⟩ := h; simp
  | n, p :: r, ds, m, h, hs => by
    obtain ⟨h1, d1, d2, rfl, h3, h4⟩ := h
    have h5 := chain_least _ r d2 m h4 (fun q hq => hs q (List.mem_cons_of_mem _ hq))
    have h6 := hs p (List.mem_cons_self ..)
    have h7 := framesL_least SU n d1
    rw [← (whole_bytes h3).1, byt_length] at h7
    simp only [List.length_append, List.length_cons]
    omega
theorem WF.few {L : Lg} {ds : List Bytes} {n m : Nat} (h : WF L ds n m) : ds.length ≤ 1048576 := by
  have h1 := chain_least n _ ds m h.ch (fun p hp => (((right_iff L.l).1 h.right).2.1 p.1 (places_mem.1 hp).1).2.1)
  have h2 := places_len L.l
  have h3 := right_len h.right
  omega
end Go.Proofs.YtanonhipicoigaaGreatDoor.U
namespace Go.Proofs.YtanonhipicoigaaGreatDoor.U
open Go.RowKit Go.Proofs.YtanonhipicoigaaGreatDoorW.PrintWords Go.Proofs.YtanonhipicoigaaGreatDoorW.PrintLast Go.Proofs.YtanonhipicoigaaGreatDoorW.PrintMore
attribute [local go_sem] max2_int min2_int max_two min_two max_three min_three max_four min_four   -- for this text's walks alone
set_option linter.unusedVariables false
set_option linter.unusedSimpArgs false
/-! ### penstocklaw10_whole: function 30 -/
def penstocklaw10_whole.f  : Option ((List (S67)) × Bool × Int × Int) := some (([] : List (S67)), false, (-1), (-1))
set_option maxHeartbeats 8000000 in
set_option maxRecDepth 100000 in
theorem penstocklaw10_whole.calls  (r1 : List (S67)) (r2 : Bool) (r3 : Int) (r4 : Int) (w : World) (h : penstocklaw10_whole.f  = some (r1, r2, r3, r4)) :
    Calls Tryz.prog 30 #[] w fun e w' => ∃ v0_ : Value, e = .returned (.agg #[v0_, .bool r2, .int .i64 r3, .int .i64 r4]) ∧ Kd.R k67 67 w' w.heap.size (fun _ => True) v0_ r1 ∧ Below w.heap.size w w' := by
  have hu27 := Tryz.underlying27
  have HB := Aside0.mk (Below.refl w.heap.size w)
  have H : (some (([] : List (S67)), false, (-1), (-1))) = some (r1, r2, r3, r4) := h
  clear h
  simp only [Option.some.injEq, Prod.mk.injEq] at H
  obtain ⟨rfl, rfl, rfl, rfl⟩ := H
  go_enter Tryz.func30, Tryz.ntmps30
  go_wp2_with (first | ((with_reducible refine gate_dst (N := 0) rfl ?_); refine box_event ?hg (N := 0) ?hd (cs := #[.slice none 0 0, .bool false, .int .i64 0, .int .i64 0]) (t := 27) ?hr ?_; (case hd => rfl); (case hg => rfl); (case hr => first | (go_simp; done) | (go_simp; rfl)); intro gb154 hg w1 hbox hb; have n0_ := Aside0.mk (below_step (by repeat (first | (with_reducible first | exact HB.out | apply below_alloc | apply pw_below_drewN | apply below_drew1) | exact HB.out)) hb); have n1_ := Aside0.mk (hbox); have n2_ := Aside0.mk ((by rw [hg]; exact (below_size (by repeat (first | (with_reducible first | exact HB.out | apply below_alloc | apply pw_below_drewN | apply below_drew1) | exact HB.out))) : w.heap.size ≤ gb154)); have n3_ := Aside0.mk ((by rw [hg]; exact (below_size (by repeat (first | (with_reducible first | exact HB.out | apply below_alloc | apply pw_below_drewN | apply below_drew1) | exact HB.out))) : w.heap.size ≤ gb154)); clear HB; have HB := n0_; have BK154 := n1_; have GW154 := n2_; have GE154 := n3_; clear n0_ n1_ n2_ n3_; clear hb hbox hg; have hcz2_0 : w1.cell? ⟨gb154, 0, none⟩ = some (.slice none 0 0) := (blk_cell BK154.out 0).trans rfl; have hcz2_1 : w1.cell? ⟨gb154, 1, none⟩ = some (.bool false) := (blk_cell BK154.out 1).trans rfl; have hcz2_2 : w1.cell? ⟨gb154, 2, none⟩ = some (.int .i64 0) := (blk_cell BK154.out 2).trans rfl; have hcz2_3 : w1.cell? ⟨gb154, 3, none⟩ = some (.int .i64 0) := (blk_cell BK154.out 3).trans rfl; have hfz2_0 := blk_frozen BK154.out 0; have hfz2_1 := blk_frozen BK154.out 1; have hfz2_2 := blk_frozen BK154.out 2; have hfz2_3 := blk_frozen BK154.out 3))
  refine bodyPost_ret (results_cell_row rfl _ _ gb154 27 #[.slice none 0 0, .bool false, .int .i64 (-1), .int .i64 (-1)] (0, 0) _ rfl (by (with_reducible repeat (first | refine blk_drewN ?_ _ | refine blk_drew ?_ | refine blk_alloc ?_ _)); refine blk_put (cs := #[.slice none 0 0, .bool false, .int .i64 (-1), .int .i64 0]) ?_ 3 _ rfl; (with_reducible repeat (first | refine blk_drewN ?_ _ | refine blk_drew ?_ | refine blk_alloc ?_ _)); refine blk_put (cs := #[.slice none 0 0, .bool false, .int .i64 0, .int .i64 0]) ?_ 2 _ rfl; (with_reducible repeat (first | refine blk_drewN ?_ _ | refine blk_drew ?_ | refine blk_alloc ?_ _)); refine blk_put (cs := #[.slice none 0 0, .bool false, .int .i64 0, .int .i64 0]) ?_ 1 _ rfl; (with_reducible repeat (first | refine blk_drewN ?_ _ | refine blk_drew ?_ | refine blk_alloc ?_ _)); refine blk_put (cs := #[.slice none 0 0, .bool false, .int .i64 0, .int .i64 0]) ?_ 0 _ rfl; (with_reducible repeat (first | refine blk_drewN ?_ _ | refine blk_drew ?_ | refine blk_alloc ?_ _)); exact BK154.out) Tryz.underlying27 rfl (by kernel_rfl)) rfl ?_
  exact ⟨_, by first | rfl | (simp [errW_none, errW_some] <;> rfl) | (simp [*, errW_none, errW_some] <;> rfl), by first | exact Kd.R_nil _ _ _ _ _ | exact Kd.N_nil _ _ _ _ _ | exact Kd.V_nil _ _ _ _ _ | exact Kd.Q_nil _ _ _ _ _ | exact Kd.S_nil _ _ _ _ _, by repeat (first | (with_reducible first | exact HB.out | apply below_alloc | apply pw_below_drewN | apply below_drew1 | refine below_set ?_ GE154.out) | exact HB.out)⟩
end Go.Proofs.YtanonhipicoigaaGreatDoor.U
namespace Go.Proofs.YtanonhipicoigaaGreatDoor.U
open Go.RowKit Go.Proofs.YtanonhipicoigaaGreatDoorW.PrintWords Go.Proofs.YtanonhipicoigaaGreatDoorW.PrintLast Go.Proofs.YtanonhipicoigaaGreatDoorW.PrintMore Go.Proofs.YtanonhipicoigaaGreatDoor.Sp Go.Proofs.YtanonhipicoigaaGreatDoor.SegP
set_option linter.unusedVariables false
set_option linter.unusedSimpArgs false
theorem at62 {w : World} {ad : Addr} {n i : Nat} {l : List S62} {x : S62} (h : Kd.C k62 w (some ad) n l) (hx : l[i]? = some x) :
    w.cell? (ad.add (i * 2)) = some (.int .u64 x.f0) ∧ w.cell? ⟨(ad.add (i * 2)).block, (ad.add (i * 2)).off + 1, none⟩ = some (.string x.f1) := by
  have hi := (List.getElem?_eq_some_iff.1 hx).1
  obtain ⟨ad2, c, e, _, hK, hc0⟩ := Kd.C_get h (⟨0, ⟨#[]⟩⟩ : S62) (i : Int) (by omega) (by have := h.1; omega)
  injection e with e
  subst e
  have hg : l.getD i (⟨0, ⟨#[]⟩⟩ : S62) = x := by simp [List.getD, hx]
  simp only [Int.toNat_natCast] at hK hc0
  rw [hg] at hK
  have hc : ∀ j u, c[j]? = some u → w.cell? (ad.add (i * 2 + j)) = some u := hc0
  obtain rfl := k62_open hK
  exact ⟨hc 0 _ rfl, by rw [← add_field _ _ 1 (by omega)]; exact hc 1 _ rfl⟩
theorem row62 {w : World} {A : Option Addr} {n : Nat} {l : List S62} (h : Kd.C k62 w A n l) (hn : 0 < n) : ∃ ad, A = some ad := by
  obtain ⟨ad2, c, e, _⟩ := Kd.C_get h (⟨0, ⟨#[]⟩⟩ : S62) 0 (by omega) (by omega)
  exact ⟨ad2, e⟩
theorem not_okLz : ¬ okL Lz := fun h => absurd h.2.1 (by decide)
set_option maxHeartbeats 8000000 in
set_option maxRecDepth 100000 in
theorem lives_any (w : World) (hG : Gl w) : Calls Tryz.prog 25 #[] w fun e w' => e = .returned (.bool true) ∧ Below w.heap.size w w' := by
  have HG := Aside0.mk hG
  clear hG
  obtain ⟨R, x, hR, h1, h2, h3, h4, h5, h6, h7, h8⟩ := lives_plain ⟨#[104, 105]⟩ rfl
  obtain ⟨l, dn, fu, fa, size, fr, nx, br⟩ := R
  simp only at h1 h2 h3 h4 h5 h6
  subst h1 h2 h3 h4
  have hnm : (⟨#[48, 48, 48, 48, 48, 48, 48, 48, 48, 48, 48, 48, 48, 48, 48, 49]⟩ : ByteArray) = nameB 1 := by kernel_rfl
  have HR := Aside0.mk hR
  have HRD : Aside0 (disk_Read.f l false (-1) (-1) ⟨#[48, 48, 48, 48, 48, 48, 48, 48, 48, 48, 48, 48, 48, 48, 48, 49]⟩ = some (x, 0)) := ⟨by rw [disk_Read_eq, hnm, h6]⟩
  have HRC := Aside0.mk h8
  have hx := h7
  clear hR h5 h6 h7 h8 hnm
  have H := Aside0.mk (Sep.start w)
  go_enter Tryz.func25, Tryz.ntmps25
  go_wp2_with fail
  refine ((penstocklaw10_whole.calls [] false (-1) (-1) _ rfl).mono ?_)
  rintro e wd1 ⟨v_, rfl, ho_, hb_⟩
  obtain ⟨Af, cf, eo_⟩ := Kd.R_slice ho_
  subst eo_
  have n_ : Aside0 (Sep w wd1 [row k67 67 (.slice Af (([] : List S67)).length cf) (([] : List S67))]) := ⟨Sep.push_row H.out hb_ ho_ k67_flat⟩
  clear H
  have H := n_
  clear n_
  clear ho_ hb_
  have HOP := Aside0.mk (fun A c w hr hc hG => open_any A c [] false (-1) (-1) 100 w hr hc hG)
  rw [open_nil (by decide) (by decide)] at HOP
  have HAP := Aside0.mk (fun A c w hr hc hG => append_any A c (L0s 100) ⟨#[104, 105]⟩ w hr hc hG (by decide) (by decide))
  rw [HR.out] at HAP
  have HRP := Aside0.mk (fun A c w hr hc hG => records_any A c ⟨l, false, -1, -1, size, fr, 2, br⟩ w hr hc hG)
  rw [HRC.out] at HRP
  go_wp2_with fail
  refine ((HOP.out _ _ _ (H.out.reads mem0).2.2 (H.out.reads mem0).2.1 (HG.out.below H.out.below)).mono ?_)
  rintro e wd2 ⟨A1, c1, A2, c2, rfl, HJ⟩
  have n_ : Aside0 (Sep w wd2 [row k67 67 (.slice A1 ((L0s 100).l).length c1) ((L0s 100).l), row k62 62 (.slice A2 (([] : List S62)).length c2) (([] : List S62)), row k67 67 (.slice Af (([] : List S67)).length cf) (([] : List S67))]) := ⟨sep_join H.out HJ.out⟩
  clear H
  have H := n_
  clear n_
  clear HJ
  simp only [lgc, L0s, List.length_nil]
  go_wp2_with (first
 | ((with_reducible refine gate_dst (N := 1) rfl ?_);
    refine new_box rfl H (cs := [.slice none 0 0, .bool false, .int .i64 0, .int .i64 0, .int .i64 0, .int .u64 0, .int .u64 0, .bool false]) (t := 30) ?hr ?_;
    (case hr => first | (go_simp; done) | (go_simp; rfl));
    intro g1 wd3 n_;
    simp only [Act.put, List.setIfInBounds_toArray, List.set_cons_zero, List.set_cons_succ];
    clear H;
    have H := n_;
    clear n_;
    have c_1 := H.out.cell (g := g1) mem0;
    have z_1 := H.out.frozen (g := g1) mem0)
 | ((with_reducible refine gate_store (t := 30) (p := 1) rfl ?_);
    refine put_box (rs1 := [box g1 [.slice A1 0 c1, .bool false, .int .i64 (-1), .int .i64 (-1), .int .i64 100, .int .u64 1, .int .u64 1, .bool false] 30, row k67 67 (.slice A1 ((L0s 100).l).length c1) ((L0s 100).l), row k62 62 (.slice A2 (([] : List S62)).length c2) (([] : List S62)), row k67 67 (.slice Af (([] : List S67)).length cf) (([] : List S67))]) rfl (t := 30) (p := 1) rfl rfl ?hr (H1 := (Sep.set0 (Sep.set0 (Sep.set0 (Sep.set0 (Sep.set0 (Sep.set0 (Sep.set0 (Sep.set0 H.out 0 (.slice A1 0 c1) rfl) 1 (.bool false) rfl) 2 (.int .i64 (-1)) rfl) 3 (.int .i64 (-1)) rfl) 4 (.int .i64 100) rfl) 5 (.int .u64 1) rfl) 6 (.int .u64 1) rfl) 7 (.bool false) rfl)) ?_;
    (case hr => first | (go_simp; done) | (go_simp; rfl));
    intro wd4 n_;
    clear H c_1 z_1;
    have H := n_;
    clear n_;
    have c_1 := H.out.cell (g := g1) mem0;
    have z_1 := H.out.frozen (g := g1) mem0)
 | fail)
  refine ((HAP.out _ _ _ (H.out.reads mem1).2.2 (H.out.reads mem1).2.1 (HG.out.below H.out.below)).mono ?_)
  rintro e wd5 ⟨A3, c3, rfl, HJ⟩
  have n_ : Aside0 (Sep w wd5 [row k67 67 (.slice A3 (l).length c3) l, box g1 [.slice A1 0 c1, .bool false, .int .i64 (-1), .int .i64 (-1), .int .i64 100, .int .u64 1, .int .u64 1, .bool false] 30, row k67 67 (.slice A1 ((L0s 100).l).length c1) ((L0s 100).l), row k62 62 (.slice A2 (([] : List S62)).length c2) (([] : List S62)), row k67 67 (.slice Af (([] : List S67)).length cf) (([] : List S67))]) := ⟨sep_join H.out HJ.out⟩
  clear H c_1 z_1
  have H := n_
  clear n_
  have c_1 := H.out.cell (g := g1) mem1
  have z_1 := H.out.frozen (g := g1) mem1
  clear HJ
  simp only [lgc]
  go_wp2_with (first
 | ((with_reducible refine gate_dst (N := 4) rfl ?_);
    refine new_box rfl H (cs := [.slice none 0 0, .bool false, .int .i64 0, .int .i64 0, .int .i64 0, .int .u64 0, .int .u64 0, .bool false]) (t := 30) ?hr ?_;
    (case hr => first | (go_simp; done) | (go_simp; rfl));
    intro g4 wd6 n_;
    simp only [Act.put, List.setIfInBounds_toArray, List.set_cons_zero, List.set_cons_succ];
    clear H c_1 z_1;
    have H := n_;
    clear n_;
    have c_4 := H.out.cell (g := g4) mem0;
    have z_4 := H.out.frozen (g := g4) mem0;
    have c_1 := H.out.cell (g := g1) mem2)
 | ((with_reducible refine gate_store (t := 30) (p := 4) rfl ?_);
    refine put_box (rs1 := [box g4 [.slice A3 l.length c3, .bool false, .int .i64 (-1), .int .i64 (-1), .int .i64 size, .int .u64 fr, .int .u64 2, .bool br] 30, row k67 67 (.slice A3 (l).length c3) l, box g1 [.slice A1 0 c1, .bool false, .int .i64 (-1), .int .i64 (-1), .int .i64 100, .int .u64 1, .int .u64 1, .bool false] 30, row k67 67 (.slice A1 ((L0s 100).l).length c1) ((L0s 100).l), row k62 62 (.slice A2 (([] : List S62)).length c2) (([] : List S62)), row k67 67 (.slice Af (([] : List S67)).length cf) (([] : List S67))]) rfl (t := 30) (p := 4) rfl rfl ?hr (H1 := (Sep.set0 (Sep.set0 (Sep.set0 (Sep.set0 (Sep.set0 (Sep.set0 (Sep.set0 (Sep.set0 H.out 0 (.slice A3 l.length c3) rfl) 1 (.bool false) rfl) 2 (.int .i64 (-1)) rfl) 3 (.int .i64 (-1)) rfl) 4 (.int .i64 size) rfl) 5 (.int .u64 fr) rfl) 6 (.int .u64 2) rfl) 7 (.bool br) rfl)) ?_;
    (case hr => first | (go_simp; done) | (go_simp; rfl));
    intro wd7 n_;
    clear H c_4 z_4 c_1;
    have H := n_;
    clear n_;
    have c_4 := H.out.cell (g := g4) mem0;
    have z_4 := H.out.frozen (g := g4) mem0;
    have c_1 := H.out.cell (g := g1) mem2)
 | fail)
  refine ((disk_Read.calls A3 c3 l false (-1) (-1) ⟨#[48, 48, 48, 48, 48, 48, 48, 48, 48, 48, 48, 48, 48, 48, 48, 49]⟩ x 0 _ (H.out.reads mem1).2.2 (H.out.reads mem1).2.1 HRD.out).mono ?_)
  rintro e wd8 ⟨rfl, hb_⟩
  have n_ : Aside0 (Sep w wd8 [box g4 [.slice A3 l.length c3, .bool false, .int .i64 (-1), .int .i64 (-1), .int .i64 size, .int .u64 fr, .int .u64 2, .bool br] 30, row k67 67 (.slice A3 (l).length c3) l, box g1 [.slice A1 0 c1, .bool false, .int .i64 (-1), .int .i64 (-1), .int .i64 100, .int .u64 1, .int .u64 1, .bool false] 30, row k67 67 (.slice A1 ((L0s 100).l).length c1) ((L0s 100).l), row k62 62 (.slice A2 (([] : List S62)).length c2) (([] : List S62)), row k67 67 (.slice Af (([] : List S67)).length cf) (([] : List S67))]) := ⟨H.out.step hb_⟩
  clear H c_4 z_4 c_1
  have H := n_
  clear n_
  have c_4 := H.out.cell (g := g4) mem0
  have z_4 := H.out.frozen (g := g4) mem0
  have c_1 := H.out.cell (g := g1) mem2
  clear hb_
  go_wp2_with fail
  refine ((HRP.out _ _ _ (H.out.reads mem1).2.2 (H.out.reads mem1).2.1 (HG.out.below H.out.below)).mono ?_)
  rintro e wd9 ⟨A5, c5, rfl, HJ⟩
  have n_ : Aside0 (Sep w wd9 [row k62 62 (.slice A5 ([(⟨1, ⟨#[104, 105]⟩⟩ : S62)]).length c5) ([(⟨1, ⟨#[104, 105]⟩⟩ : S62)]), box g4 [.slice A3 l.length c3, .bool false, .int .i64 (-1), .int .i64 (-1), .int .i64 size, .int .u64 fr, .int .u64 2, .bool br] 30, row k67 67 (.slice A3 (l).length c3) l, box g1 [.slice A1 0 c1, .bool false, .int .i64 (-1), .int .i64 (-1), .int .i64 100, .int .u64 1, .int .u64 1, .bool false] 30, row k67 67 (.slice A1 ((L0s 100).l).length c1) ((L0s 100).l), row k62 62 (.slice A2 (([] : List S62)).length c2) (([] : List S62)), row k67 67 (.slice Af (([] : List S67)).length cf) (([] : List S67))]) := ⟨sep_join H.out HJ.out⟩
  clear H c_4 z_4 c_1
  have H := n_
  clear n_
  have c_4 := H.out.cell (g := g4) mem1
  have z_4 := H.out.frozen (g := g4) mem1
  have c_1 := H.out.cell (g := g1) mem3
  clear HJ
  simp only [List.length_cons, List.length_nil]
  obtain ⟨a5, e5⟩ := row62 (H.out.reads (A := A5) mem0).2.2 (by decide)
  subst e5
  obtain ⟨q0, q1⟩ := at62 (H.out.reads (A := some a5) mem0).2.2 (i := 0) rfl
  have ea : a5.add 0 = a5 := by simp [Addr.add]
  simp only [Nat.zero_mul, ea] at q0 q1
  go_wp2_with fail
  refine ((segment_Check.calls none 0 [] false 0 0 0 0 0 false 6 _ (Kd.C_nil _ _) (Nat.le_refl _) (by have h := check_eq Lz; rw [if_neg not_okLz] at h; exact h)).mono ?_)
  rintro e wd10 ⟨rfl, hb_⟩
  have n_ : Aside0 (Sep w wd10 [row k62 62 (.slice (some a5) ([(⟨1, ⟨#[104, 105]⟩⟩ : S62)]).length c5) ([(⟨1, ⟨#[104, 105]⟩⟩ : S62)]), box g4 [.slice A3 l.length c3, .bool false, .int .i64 (-1), .int .i64 (-1), .int .i64 size, .int .u64 fr, .int .u64 2, .bool br] 30, row k67 67 (.slice A3 (l).length c3) l, box g1 [.slice A1 0 c1, .bool false, .int .i64 (-1), .int .i64 (-1), .int .i64 100, .int .u64 1, .int .u64 1, .bool false] 30, row k67 67 (.slice A1 ((L0s 100).l).length c1) ((L0s 100).l), row k62 62 (.slice A2 (([] : List S62)).length c2) (([] : List S62)), row k67 67 (.slice Af (([] : List S67)).length cf) (([] : List S67))]) := ⟨H.out.step hb_⟩
  clear H c_4 z_4 c_1
  have H := n_
  clear n_
  have c_4 := H.out.cell (g := g4) mem1
  have z_4 := H.out.frozen (g := g4) mem1
  have c_1 := H.out.cell (g := g1) mem3
  clear hb_
  go_wp2_with fail
  go_ret
  exact ⟨rfl, H.out.below⟩
end Go.Proofs.YtanonhipicoigaaGreatDoor.U
namespace Go.Proofs.YtanonhipicoigaaGreatDoor.U
open Go.RowKit Go.Proofs.YtanonhipicoigaaGreatDoorW.PrintWords Go.Proofs.YtanonhipicoigaaGreatDoorW.PrintLast Go.Proofs.YtanonhipicoigaaGreatDoorW.PrintMore Go.Proofs.YtanonhipicoigaaGreatDoor.Sp Go.Proofs.YtanonhipicoigaaGreatDoor.SegP
set_option linter.unusedVariables false
set_option linter.unusedSimpArgs false
set_option maxHeartbeats 8000000 in
set_option maxRecDepth 100000 in
theorem kept_any (Ad : Option Addr) (cd : Nat) (data : List ByteArray) (size fu fa : Int) (last : ByteArray) (w : World) (hr : Kd.C Kd.string w Ad data.length data) (hc : data.length ≤ cd) (hG : Gl w) :
    Calls Tryz.prog 32 #[.int .i64 size, .slice Ad data.length cd, .string last, .int .i64 fu, .int .i64 fa] w fun e w' => ∃ A' c' A2 c2, e = .returned (.tuple #[.agg (lgc A' c' (keptF size data last fu fa).1).toArray, .slice A2 (keptF size data last fu fa).2.1.length c2, .int .i64 (keptF size data last fu fa).2.2])
      ∧ Aside0 (Sep w w' [rowF A' c' (keptF size data last fu fa).1.l, row k62 62 (.slice A2 (keptF size data last fu fa).2.1.length c2) (keptF size data last fu fa).2.1]) := by
  have HRp := Aside0.mk hr
  have HCp := Aside0.mk hc
  have HG := Aside0.mk hG
  have hdl : data.length ≤ 9223372036854775807 := Kd.C_max hr
  have HDL := Aside0.mk hdl
  clear hr hc hG hdl
  obtain ⟨O, hO⟩ : ∃ O, O = keptF size data last fu fa := ⟨_, rfl⟩
  rw [← hO]
  have HO := Aside0.mk hO
  clear hO
  have H := Aside0.mk (Sep.start w)
  go_enter Tryz.func32, Tryz.ntmps32
  go_wp2_with (first
 | ((with_reducible refine gate_dst (N := 10) rfl ?_);
    refine new_box rfl H (cs := [.slice none 0 0, .bool false, .int .i64 0, .int .i64 0, .int .i64 0, .int .u64 0, .int .u64 0, .bool false]) (t := 30) ?hr ?_;
    (case hr => first | (go_simp; done) | (go_simp; rfl));
    intro gz wd1 n_;
    simp only [Act.put, List.setIfInBounds_toArray, List.set_cons_zero, List.set_cons_succ];
    clear H;
    have H := n_;
    clear n_;
    have c_z := H.out.cell (g := gz) mem0)
 | fail)
  refine ((penstocklaw10_whole.calls [] false (-1) (-1) _ rfl).mono ?_)
  rintro e wd2 ⟨v_, rfl, ho_, hb_⟩
  obtain ⟨Af, cf, eo_⟩ := Kd.R_slice ho_
  subst eo_
  have n_ : Aside0 (Sep w wd2 [row k67 67 (.slice Af (([] : List S67)).length cf) (([] : List S67)), box gz [.slice none 0 0, .bool false, .int .i64 0, .int .i64 0, .int .i64 0, .int .u64 0, .int .u64 0, .bool false] 30]) := ⟨Sep.push_row H.out hb_ ho_ k67_flat⟩
  clear H c_z
  have H := n_
  clear n_
  have c_z := H.out.cell (g := gz) mem1
  clear ho_ hb_
  by_cases hsz : size < 1 ∨ 262144 < size
  ·
    have hOV : O = (Lz, [], 2) := by rw [HO.out, kept_bad data last fu fa hsz]
    clear HO
    have HOP := Aside0.mk (fun A c w hr hc hG => open_any A c [] false (-1) (-1) size w hr hc hG)
    rw [open_bad hsz] at HOP
    clear hsz
    go_wp2_with fail
    refine ((HOP.out _ _ _ (H.out.reads mem0).2.2 (H.out.reads mem0).2.1 (HG.out.below H.out.below)).mono ?_)
    rintro e wd3 ⟨A1, c1, A2, c2, rfl, HJ⟩
    have n_ : Aside0 (Sep w wd3 [row k67 67 (.slice A1 (Lz.l).length c1) Lz.l, row k62 62 (.slice A2 (([] : List S62)).length c2) (([] : List S62)), row k67 67 (.slice Af (([] : List S67)).length cf) (([] : List S67)), box gz [.slice none 0 0, .bool false, .int .i64 0, .int .i64 0, .int .i64 0, .int .u64 0, .int .u64 0, .bool false] 30]) := ⟨sep_join H.out HJ.out⟩
    clear H c_z
    have H := n_
    clear n_
    have c_z := H.out.cell (g := gz) mem3
    clear HJ
    simp only [lgc, Lz, List.length_nil]
    clear c_z
    have c_z := H.out.cell (g := gz) mem3
    have z_z := H.out.frozen (g := gz) mem3
    go_wp2_with (first
 | ((with_reducible refine gate_dst (N := 13) rfl ?_);
    refine new_box rfl H (cs := [.slice none 0 0, .bool false, .int .i64 0, .int .i64 0, .int .i64 0, .int .u64 0, .int .u64 0, .bool false]) (t := 30) ?hr ?_;
    (case hr => first | (go_simp; done) | (go_simp; rfl));
    intro gl wd4 n_;
    simp only [Act.put, List.setIfInBounds_toArray, List.set_cons_zero, List.set_cons_succ];
    clear H c_z z_z;
    have H := n_;
    clear n_;
    have c_l := H.out.cell (g := gl) mem0;
    have z_l := H.out.frozen (g := gl) mem0;
    have c_z := H.out.cell (g := gz) mem4;
    have z_z := H.out.frozen (g := gz) mem4)
 | ((with_reducible refine gate_store (t := 30) (p := 13) rfl ?_);
    refine put_box (rs1 := [box gl [.slice A1 0 c1, .bool false, .int .i64 0, .int .i64 0, .int .i64 0, .int .u64 0, .int .u64 0, .bool false] 30, row k67 67 (.slice A1 (Lz.l).length c1) Lz.l, row k62 62 (.slice A2 (([] : List S62)).length c2) (([] : List S62)), row k67 67 (.slice Af (([] : List S67)).length cf) (([] : List S67)), box gz [.slice none 0 0, .bool false, .int .i64 0, .int .i64 0, .int .i64 0, .int .u64 0, .int .u64 0, .bool false] 30]) rfl (t := 30) (p := 13) rfl rfl ?hr (H1 := (Sep.set0 (Sep.set0 (Sep.set0 (Sep.set0 (Sep.set0 (Sep.set0 (Sep.set0 (Sep.set0 H.out 0 (.slice A1 0 c1) rfl) 1 (.bool false) rfl) 2 (.int .i64 0) rfl) 3 (.int .i64 0) rfl) 4 (.int .i64 0) rfl) 5 (.int .u64 0) rfl) 6 (.int .u64 0) rfl) 7 (.bool false) rfl)) ?_;
    (case hr => first | (go_simp; done) | (go_simp; rfl));
    intro wd5 n_;
    clear H c_l z_l c_z z_z;
    have H := n_;
    clear n_;
    have c_l := H.out.cell (g := gl) mem0;
    have z_l := H.out.frozen (g := gl) mem0;
    have c_z := H.out.cell (g := gz) mem4;
    have z_z := H.out.frozen (g := gz) mem4)
 | ((with_reducible refine gate_store (t := 30) (p := 10) rfl ?_);
    refine put_box (rs1 := [box gl [.slice A1 0 c1, .bool false, .int .i64 0, .int .i64 0, .int .i64 0, .int .u64 0, .int .u64 0, .bool false] 30, row k67 67 (.slice A1 (Lz.l).length c1) Lz.l, row k62 62 (.slice A2 (([] : List S62)).length c2) (([] : List S62)), row k67 67 (.slice Af (([] : List S67)).length cf) (([] : List S67)), box gz [.slice A1 0 c1, .bool false, .int .i64 0, .int .i64 0, .int .i64 0, .int .u64 0, .int .u64 0, .bool false] 30]) rfl (t := 30) (p := 10) rfl rfl ?hr (H1 := (Sep.set4 (Sep.set4 (Sep.set4 (Sep.set4 (Sep.set4 (Sep.set4 (Sep.set4 (Sep.set4 H.out 0 (.slice A1 0 c1) rfl) 1 (.bool false) rfl) 2 (.int .i64 0) rfl) 3 (.int .i64 0) rfl) 4 (.int .i64 0) rfl) 5 (.int .u64 0) rfl) 6 (.int .u64 0) rfl) 7 (.bool false) rfl)) ?_;
    (case hr => first | (go_simp; done) | (go_simp; rfl));
    intro wd6 n_;
    clear H c_l z_l c_z z_z;
    have H := n_;
    clear n_;
    have c_l := H.out.cell (g := gl) mem0;
    have z_l := H.out.frozen (g := gl) mem0;
    have c_z := H.out.cell (g := gz) mem4;
    have z_z := H.out.frozen (g := gz) mem4)
 | fail)
    refine bodyPost_ret (results_list (rs := [.cell 10 30, .tmp 11, .tmp 12]) rfl (by simp) (.cell gz 30 _ _ _ rfl (H.out.box_ (g := gz) mem4) Tryz.underlying30 rfl info30 (.tmp (.tmp .nil)))) rfl ?_
    subst hOV
    exact ⟨A1, c1, none, 0, rfl, ⟨Sep.front1 (Sep.push_nil (Sep.drop0 (Sep.drop2 (Sep.drop3 (Sep.drop4 H.out)))))⟩⟩
  ·
    have HSZ := Aside0.mk hsz
    have hs0 : 1 ≤ size := by omega
    have hs1 : size ≤ 262144 := by omega
    have HOP := Aside0.mk (fun A c w hr hc hG => open_any A c [] false (-1) (-1) size w hr hc hG)
    rw [open_nil hs0 hs1] at HOP
    have HW0 := Aside0.mk (WF_nil hs0 hs1)
    clear hsz hs0 hs1
    go_wp2_with fail
    refine ((HOP.out _ _ _ (H.out.reads mem0).2.2 (H.out.reads mem0).2.1 (HG.out.below H.out.below)).mono ?_)
    rintro e wd7 ⟨A1, c1, A2, c2, rfl, HJ⟩
    have n_ : Aside0 (Sep w wd7 [row k67 67 (.slice A1 ((L0s size).l).length c1) ((L0s size).l), row k62 62 (.slice A2 (([] : List S62)).length c2) (([] : List S62)), row k67 67 (.slice Af (([] : List S67)).length cf) (([] : List S67)), box gz [.slice none 0 0, .bool false, .int .i64 0, .int .i64 0, .int .i64 0, .int .u64 0, .int .u64 0, .bool false] 30]) := ⟨sep_join H.out HJ.out⟩
    clear H c_z
    have H := n_
    clear n_
    have c_z := H.out.cell (g := gz) mem3
    clear HJ
    simp only [lgc, L0s, List.length_nil]
    go_wp2_with (first
 | ((with_reducible refine gate_dst (N := 13) rfl ?_);
    refine new_box rfl H (cs := [.slice none 0 0, .bool false, .int .i64 0, .int .i64 0, .int .i64 0, .int .u64 0, .int .u64 0, .bool false]) (t := 30) ?hr ?_;
    (case hr => first | (go_simp; done) | (go_simp; rfl));
    intro gl wd8 n_;
    simp only [Act.put, List.setIfInBounds_toArray, List.set_cons_zero, List.set_cons_succ];
    clear H c_z;
    have H := n_;
    clear n_;
    have c_l := H.out.cell (g := gl) mem0;
    have z_l := H.out.frozen (g := gl) mem0;
    have c_z := H.out.cell (g := gz) mem4)
 | ((with_reducible refine gate_store (t := 30) (p := 13) rfl ?_);
    refine put_box (rs1 := [box gl [.slice A1 0 c1, .bool false, .int .i64 (-1), .int .i64 (-1), .int .i64 size, .int .u64 1, .int .u64 1, .bool false] 30, row k67 67 (.slice A1 ((L0s size).l).length c1) ((L0s size).l), row k62 62 (.slice A2 (([] : List S62)).length c2) (([] : List S62)), row k67 67 (.slice Af (([] : List S67)).length cf) (([] : List S67)), box gz [.slice none 0 0, .bool false, .int .i64 0, .int .i64 0, .int .i64 0, .int .u64 0, .int .u64 0, .bool false] 30]) rfl (t := 30) (p := 13) rfl rfl ?hr (H1 := (Sep.set0 (Sep.set0 (Sep.set0 (Sep.set0 (Sep.set0 (Sep.set0 (Sep.set0 (Sep.set0 H.out 0 (.slice A1 0 c1) rfl) 1 (.bool false) rfl) 2 (.int .i64 (-1)) rfl) 3 (.int .i64 (-1)) rfl) 4 (.int .i64 size) rfl) 5 (.int .u64 1) rfl) 6 (.int .u64 1) rfl) 7 (.bool false) rfl)) ?_;
    (case hr => first | (go_simp; done) | (go_simp; rfl));
    intro wd9 n_;
    clear H c_l z_l c_z;
    have H := n_;
    clear n_;
    have c_l := H.out.cell (g := gl) mem0;
    have z_l := H.out.frozen (g := gl) mem0;
    have c_z := H.out.cell (g := gz) mem4)
 | fail)
    go_loopw [16, 18, 19, 20, 35] (fun v16 v18 v19 v20 v35 wr => ∃ (i : Nat) (L : Lg) (ds : List SegP.Bytes) (m : Nat) (A : Option Addr) (c : Nat) (Ao : Option Addr) (co : Nat), v35 = .int .i64 (i : Int) ∧ v16 = .slice Ao (recR ds 1).length co ∧ i ≤ data.length ∧ Aside0 (WF L ds 1 m)
        ∧ Aside0 (keepAll (L0s size) data = ((keepAll L (data.drop i)).1, recR ds 1 ++ (keepAll L (data.drop i)).2)) ∧ Aside0 (Sep w wr [box gl [.slice A L.l.length c, .bool L.dn, .int .i64 L.fu, .int .i64 L.fa, .int .i64 L.size, .int .u64 L.fr, .int .u64 L.nx, .bool L.br] 30, row k67 67 (.slice A (L.l).length c) L.l, row k62 62 (.slice Ao ((recR ds 1)).length co) ((recR ds 1)), box gz [.slice none 0 0, .bool false, .int .i64 0, .int .i64 0, .int .i64 0, .int .u64 0, .int .u64 0, .bool false] 30]))
      (fun _ _ _ _ v35 _ => data.length - (intOf v35).toNat)
    case atStart => exact ⟨0, L0s size, [], 1, A1, c1, none, 0, rfl, rfl, Nat.zero_le _, HW0, ⟨rfl⟩, ⟨(Sep.front3 (Sep.front3 (Sep.front1 (Sep.front3 (Sep.drop3 (Sep.drop4 (Sep.push_nil (d := k62) (e := 62) H.out)))))))⟩⟩
    case round =>
      clear H HOP c_l z_l c_z
      obtain ⟨i, L, ds, m, A, c, Ao, co, rfl, rfl, hi, HW, HK, H⟩ := hrel
      have HFW : Aside0 ((recR ds 1).length ≤ 1048576) := ⟨by rw [recR_length]; exact HW.out.few⟩
      have HNX : Aside0 (0 ≤ L.nx ∧ L.nx < 18446744073709551616) := ⟨by have h1 := HW.out.nx; have h2 := HW.out.top; unfold most at h2; omega⟩
      have c_l := H.out.cell (g := gl) mem0
      have z_l := H.out.frozen (g := gl) mem0
      have c_z := H.out.cell (g := gz) mem3
      by_cases hil : i < data.length
      ·
        obtain ⟨ad, e1, hk⟩ := Kd.at_string (H.out.came HRp.out) (i : Int) (by omega) (by omega)
        subst e1
        simp only [Int.toNat_natCast] at hk
        obtain ⟨s, hs⟩ : ∃ s, s = rdOf ByteArray.empty data (i : Int) := ⟨_, rfl⟩
        rw [← hs] at hk
        have HS : Aside0 (data.drop i = s :: data.drop (i + 1)) := ⟨by
          rw [List.drop_eq_getElem_cons hil]
          congr 1
          rw [hs]
          simp [rdOf, List.getD, List.getElem?_eq_getElem hil]⟩
        clear hs
        have hi2 : (i : Int) < (data.length : Int) := by omega
        have hi0 : (0 : Int) ≤ (i : Int) := by omega
        have hw3 : wrap64 ((i : Int) + 1) = ((i + 1 : Nat) : Int) := by
          have := HDL.out
          unfold wrap64
          omega
        obtain ⟨R, hR⟩ : ∃ R, appendL L s = (R, (appendL L s).2) := ⟨_, rfl⟩
        obtain ⟨e, he⟩ : ∃ e, e = (appendL L s).2 := ⟨_, rfl⟩
        rw [← he] at hR
        clear he
        have HR := Aside0.mk hR
        have HAP := Aside0.mk (fun A c w hr hc hG => append_any A c L s w hr hc hG HNX.out.1 HNX.out.2)
        rw [hR] at HAP
        dsimp only at HAP
        clear hR
        go_wp2_with fail
        refine ((HAP.out _ _ _ (H.out.reads mem1).2.2 (H.out.reads mem1).2.1 (HG.out.below H.out.below)).mono ?_)
        rintro e wd10 ⟨A3, c3, rfl, HJ⟩
        have n_ : Aside0 (Sep w wd10 [row k67 67 (.slice A3 (R.l).length c3) R.l, box gl [.slice A L.l.length c, .bool L.dn, .int .i64 L.fu, .int .i64 L.fa, .int .i64 L.size, .int .u64 L.fr, .int .u64 L.nx, .bool L.br] 30, row k67 67 (.slice A (L.l).length c) L.l, row k62 62 (.slice Ao ((recR ds 1)).length co) ((recR ds 1)), box gz [.slice none 0 0, .bool false, .int .i64 0, .int .i64 0, .int .i64 0, .int .u64 0, .int .u64 0, .bool false] 30]) := ⟨sep_join H.out HJ.out⟩
        clear H c_l z_l c_z
        have H := n_
        clear n_
        have c_l := H.out.cell (g := gl) mem1
        have z_l := H.out.frozen (g := gl) mem1
        have c_z := H.out.cell (g := gz) mem4
        clear HJ
        simp only [lgc]
        clear HAP hk
        by_cases hz : e = 0
        ·
          subst hz
          go_wp2_with (first
 | ((with_reducible refine gate_dst (N := 19) rfl ?_);
    refine new_box rfl H (cs := [.slice none 0 0, .bool false, .int .i64 0, .int .i64 0, .int .i64 0, .int .u64 0, .int .u64 0, .bool false]) (t := 30) ?hr ?_;
    (case hr => first | (go_simp; done) | (go_simp; rfl));
    intro gb wd11 n_;
    simp only [Act.put, List.setIfInBounds_toArray, List.set_cons_zero, List.set_cons_succ];
    clear H c_l z_l c_z;
    have H := n_;
    clear n_;
    have c_b := H.out.cell (g := gb) mem0;
    have z_b := H.out.frozen (g := gb) mem0;
    have c_l := H.out.cell (g := gl) mem2;
    have z_l := H.out.frozen (g := gl) mem2;
    have c_z := H.out.cell (g := gz) mem5)
 | ((with_reducible refine gate_store (t := 30) (p := 19) rfl ?_);
    refine put_box (rs1 := [box gb [.slice A3 R.l.length c3, .bool R.dn, .int .i64 R.fu, .int .i64 R.fa, .int .i64 R.size, .int .u64 R.fr, .int .u64 R.nx, .bool R.br] 30, row k67 67 (.slice A3 (R.l).length c3) R.l, box gl [.slice A L.l.length c, .bool L.dn, .int .i64 L.fu, .int .i64 L.fa, .int .i64 L.size, .int .u64 L.fr, .int .u64 L.nx, .bool L.br] 30, row k67 67 (.slice A (L.l).length c) L.l, row k62 62 (.slice Ao ((recR ds 1)).length co) ((recR ds 1)), box gz [.slice none 0 0, .bool false, .int .i64 0, .int .i64 0, .int .i64 0, .int .u64 0, .int .u64 0, .bool false] 30]) rfl (t := 30) (p := 19) rfl rfl ?hr (H1 := (Sep.set0 (Sep.set0 (Sep.set0 (Sep.set0 (Sep.set0 (Sep.set0 (Sep.set0 (Sep.set0 H.out 0 (.slice A3 R.l.length c3) rfl) 1 (.bool R.dn) rfl) 2 (.int .i64 R.fu) rfl) 3 (.int .i64 R.fa) rfl) 4 (.int .i64 R.size) rfl) 5 (.int .u64 R.fr) rfl) 6 (.int .u64 R.nx) rfl) 7 (.bool R.br) rfl)) ?_;
    (case hr => first | (go_simp; done) | (go_simp; rfl));
    intro wd12 n_;
    clear H c_b z_b c_l z_l c_z;
    have H := n_;
    clear n_;
    have c_b := H.out.cell (g := gb) mem0;
    have z_b := H.out.frozen (g := gb) mem0;
    have c_l := H.out.cell (g := gl) mem2;
    have z_l := H.out.frozen (g := gl) mem2;
    have c_z := H.out.cell (g := gz) mem5)
 | ((with_reducible refine gate_builtin (b := .append) (xs := #[.tmp 47, .tmp 52]) rfl ?_); at_builtin;
    refine app_row4 k62 k62_flat rfl (.tmp 47) (.tmp 52) 54 62 (.agg #[.int .u64 0, .string ⟨#[]⟩]) 24 rfl Tryz.underlying54 info62 rfl (by decide) (by omega) (.slice Ao ((recR ds 1)).length co) _ ((⟨L.nx, s⟩ : S62)) [.int .u64 L.nx, .string s] ?hs ?hx ?hp H ?hl ?_;
    (case hs => first | rfl | (go_simp; done) | (simp; rfl));
    (case hx => first | (go_simp; done) | (go_simp; rfl));
    (case hp => exact k62_mkM _ _ _ _);
    (case hl => (have := HFW.out; omega));
    intro Ao2 co2 wd13 n_;
    clear H c_b z_b c_l z_l c_z;
    have H := n_;
    clear n_;
    have c_b := H.out.cell (g := gb) mem0;
    have z_b := H.out.frozen (g := gb) mem0;
    have c_l := H.out.cell (g := gl) mem2;
    have z_l := H.out.frozen (g := gl) mem2;
    have c_z := H.out.cell (g := gz) mem5)
 | ((with_reducible refine gate_store (t := 30) (p := 13) rfl ?_);
    refine put_box (rs1 := [box gb [.slice A3 R.l.length c3, .bool R.dn, .int .i64 R.fu, .int .i64 R.fa, .int .i64 R.size, .int .u64 R.fr, .int .u64 R.nx, .bool R.br] 30, row k67 67 (.slice A3 (R.l).length c3) R.l, box gl [.slice A3 R.l.length c3, .bool R.dn, .int .i64 R.fu, .int .i64 R.fa, .int .i64 R.size, .int .u64 R.fr, .int .u64 R.nx, .bool R.br] 30, row k67 67 (.slice A (L.l).length c) L.l, row k62 62 (.slice Ao2 (((recR ds 1) ++ [(⟨L.nx, s⟩ : S62)])).length co2) (((recR ds 1) ++ [(⟨L.nx, s⟩ : S62)])), box gz [.slice none 0 0, .bool false, .int .i64 0, .int .i64 0, .int .i64 0, .int .u64 0, .int .u64 0, .bool false] 30]) rfl (t := 30) (p := 13) rfl rfl ?hr (H1 := (Sep.set2 (Sep.set2 (Sep.set2 (Sep.set2 (Sep.set2 (Sep.set2 (Sep.set2 (Sep.set2 H.out 0 (.slice A3 R.l.length c3) rfl) 1 (.bool R.dn) rfl) 2 (.int .i64 R.fu) rfl) 3 (.int .i64 R.fa) rfl) 4 (.int .i64 R.size) rfl) 5 (.int .u64 R.fr) rfl) 6 (.int .u64 R.nx) rfl) 7 (.bool R.br) rfl)) ?_;
    (case hr => first | (go_simp; done) | (go_simp; rfl));
    intro wd14 n_;
    clear H c_b z_b c_l z_l c_z;
    have H := n_;
    clear n_;
    have c_b := H.out.cell (g := gb) mem0;
    have z_b := H.out.frozen (g := gb) mem0;
    have c_l := H.out.cell (g := gl) mem2;
    have z_l := H.out.frozen (g := gl) mem2;
    have c_z := H.out.cell (g := gz) mem5)
 | fail)
          try rw [hw3]
          have hrr : recR ds 1 ++ [(⟨L.nx, s⟩ : S62)] = recR (ds ++ [byt s]) 1 := by
            rw [recR_append]
            simp only [recR, mk_byt]
            rw [HW.out.nx, chain_next SU 1 _ ds m HW.out.ch]
          have hll : (recR ds 1).length + 1 = (recR (ds ++ [byt s]) 1).length := by rw [recR_length, recR_length, List.length_append]; rfl
          rw [hrr] at H
          rw [hll]
          refine ⟨⟨i + 1, R, ds ++ [byt s], m + 1, A3, c3, Ao2, co2, rfl, rfl, by omega, ⟨(append_ok HW.out HR.out).1⟩, ⟨?_⟩, ⟨(Sep.front3 (Sep.front2 (Sep.front3 (Sep.front3 (Sep.drop0 (Sep.drop3 H.out))))))⟩⟩, by simp [intOf]; omega⟩
          rw [HK.out, HS.out, keepAll, HR.out, if_pos rfl, ← hrr, List.append_assoc]
          rfl
        ·
          go_wp2_with (first
 | ((with_reducible refine gate_dst (N := 19) rfl ?_);
    refine new_box rfl H (cs := [.slice none 0 0, .bool false, .int .i64 0, .int .i64 0, .int .i64 0, .int .u64 0, .int .u64 0, .bool false]) (t := 30) ?hr ?_;
    (case hr => first | (go_simp; done) | (go_simp; rfl));
    intro gb wd15 n_;
    simp only [Act.put, List.setIfInBounds_toArray, List.set_cons_zero, List.set_cons_succ];
    clear H c_l z_l c_z;
    have H := n_;
    clear n_;
    have c_b := H.out.cell (g := gb) mem0;
    have z_b := H.out.frozen (g := gb) mem0;
    have c_l := H.out.cell (g := gl) mem2;
    have z_l := H.out.frozen (g := gl) mem2;
    have c_z := H.out.cell (g := gz) mem5)
 | ((with_reducible refine gate_store (t := 30) (p := 19) rfl ?_);
    refine put_box (rs1 := [box gb [.slice A3 R.l.length c3, .bool R.dn, .int .i64 R.fu, .int .i64 R.fa, .int .i64 R.size, .int .u64 R.fr, .int .u64 R.nx, .bool R.br] 30, row k67 67 (.slice A3 (R.l).length c3) R.l, box gl [.slice A L.l.length c, .bool L.dn, .int .i64 L.fu, .int .i64 L.fa, .int .i64 L.size, .int .u64 L.fr, .int .u64 L.nx, .bool L.br] 30, row k67 67 (.slice A (L.l).length c) L.l, row k62 62 (.slice Ao ((recR ds 1)).length co) ((recR ds 1)), box gz [.slice none 0 0, .bool false, .int .i64 0, .int .i64 0, .int .i64 0, .int .u64 0, .int .u64 0, .bool false] 30]) rfl (t := 30) (p := 19) rfl rfl ?hr (H1 := (Sep.set0 (Sep.set0 (Sep.set0 (Sep.set0 (Sep.set0 (Sep.set0 (Sep.set0 (Sep.set0 H.out 0 (.slice A3 R.l.length c3) rfl) 1 (.bool R.dn) rfl) 2 (.int .i64 R.fu) rfl) 3 (.int .i64 R.fa) rfl) 4 (.int .i64 R.size) rfl) 5 (.int .u64 R.fr) rfl) 6 (.int .u64 R.nx) rfl) 7 (.bool R.br) rfl)) ?_;
    (case hr => first | (go_simp; done) | (go_simp; rfl));
    intro wd16 n_;
    clear H c_b z_b c_l z_l c_z;
    have H := n_;
    clear n_;
    have c_b := H.out.cell (g := gb) mem0;
    have z_b := H.out.frozen (g := gb) mem0;
    have c_l := H.out.cell (g := gl) mem2;
    have z_l := H.out.frozen (g := gl) mem2;
    have c_z := H.out.cell (g := gz) mem5)
 | fail)
          try rw [hw3]
          refine ⟨⟨i + 1, L, ds, m, A, c, Ao, co, rfl, rfl, by omega, HW, ⟨?_⟩, ⟨(Sep.drop0 (Sep.drop1 H.out))⟩⟩, by simp [intOf]; omega⟩
          rw [HK.out, HS.out, keepAll, HR.out, if_neg hz]
      ·
        have hie : i = data.length := by omega
        subst hie
        have HKE : Aside0 (keepAll (L0s size) data = (L, recR ds 1)) := ⟨by rw [HK.out, List.drop_length, keepAll, List.append_nil]⟩
        clear HK
        obtain ⟨L2, hL2⟩ : ∃ L2 : Lg, L2 = { L with fu := fu, fa := fa } := ⟨_, rfl⟩
        obtain ⟨R, hR⟩ : ∃ R, appendL { L with fu := fu, fa := fa } last = (R, (appendL { L with fu := fu, fa := fa } last).2) := ⟨_, rfl⟩
        obtain ⟨e, he⟩ : ∃ e, e = (appendL { L with fu := fu, fa := fa } last).2 := ⟨_, rfl⟩
        rw [← he] at hR
        clear he
        have hOV : O = (R, if e = 0 then recR ds 1 ++ [⟨L.nx, last⟩] else recR ds 1, e) := by
          rw [HO.out, keptF, if_neg HSZ.out, HKE.out]
          simp only [hR]
        have HOV := Aside0.mk hOV
        have HAP := Aside0.mk (fun A c w hr hc hG => append_any A c { L with fu := fu, fa := fa } last w hr hc hG HNX.out.1 HNX.out.2)
        rw [hR] at HAP
        dsimp only at HAP
        clear hR hOV HO
        go_wp2_with (first
 | ((with_reducible refine gate_store (t := 3) (p := 59) rfl ?_);
    refine put_box (rs1 := [box gl [.slice A L.l.length c, .bool L.dn, .int .i64 fu, .int .i64 L.fa, .int .i64 L.size, .int .u64 L.fr, .int .u64 L.nx, .bool L.br] 30, row k67 67 (.slice A (L.l).length c) L.l, row k62 62 (.slice Ao ((recR ds 1)).length co) ((recR ds 1)), box gz [.slice none 0 0, .bool false, .int .i64 0, .int .i64 0, .int .i64 0, .int .u64 0, .int .u64 0, .bool false] 30]) rfl (t := 3) (p := 59) rfl rfl ?hr (H1 := (Sep.set0 H.out 2 (.int .i64 fu) rfl)) ?_;
    (case hr => first | (go_simp; done) | (go_simp; rfl));
    intro wd17 n_;
    clear H c_l z_l c_z;
    have H := n_;
    clear n_;
    have c_l := H.out.cell (g := gl) mem0;
    have z_l := H.out.frozen (g := gl) mem0;
    have c_z := H.out.cell (g := gz) mem3)
 | ((with_reducible refine gate_store (t := 3) (p := 61) rfl ?_);
    refine put_box (rs1 := [box gl [.slice A L.l.length c, .bool L.dn, .int .i64 fu, .int .i64 fa, .int .i64 L.size, .int .u64 L.fr, .int .u64 L.nx, .bool L.br] 30, row k67 67 (.slice A (L.l).length c) L.l, row k62 62 (.slice Ao ((recR ds 1)).length co) ((recR ds 1)), box gz [.slice none 0 0, .bool false, .int .i64 0, .int .i64 0, .int .i64 0, .int .u64 0, .int .u64 0, .bool false] 30]) rfl (t := 3) (p := 61) rfl rfl ?hr (H1 := (Sep.set0 H.out 3 (.int .i64 fa) rfl)) ?_;
    (case hr => first | (go_simp; done) | (go_simp; rfl));
    intro wd18 n_;
    clear H c_l z_l c_z;
    have H := n_;
    clear n_;
    have c_l := H.out.cell (g := gl) mem0;
    have z_l := H.out.frozen (g := gl) mem0;
    have c_z := H.out.cell (g := gz) mem3)
 | fail)
        refine ((HAP.out _ _ _ (H.out.reads mem1).2.2 (H.out.reads mem1).2.1 (HG.out.below H.out.below)).mono ?_)
        rintro e wd19 ⟨A3, c3, rfl, HJ⟩
        have n_ : Aside0 (Sep w wd19 [row k67 67 (.slice A3 (R.l).length c3) R.l, box gl [.slice A L.l.length c, .bool L.dn, .int .i64 fu, .int .i64 fa, .int .i64 L.size, .int .u64 L.fr, .int .u64 L.nx, .bool L.br] 30, row k67 67 (.slice A (L.l).length c) L.l, row k62 62 (.slice Ao ((recR ds 1)).length co) ((recR ds 1)), box gz [.slice none 0 0, .bool false, .int .i64 0, .int .i64 0, .int .i64 0, .int .u64 0, .int .u64 0, .bool false] 30]) := ⟨sep_join H.out HJ.out⟩
        clear H c_l z_l c_z
        have H := n_
        clear n_
        have c_l := H.out.cell (g := gl) mem1
        have z_l := H.out.frozen (g := gl) mem1
        have c_z := H.out.cell (g := gz) mem4
        clear HJ
        simp only [lgc]
        clear HAP
        clear c_z
        clear c_l z_l
        have c_l := H.out.cell (g := gl) mem1
        have z_l := H.out.frozen (g := gl) mem1
        have c_z := H.out.cell (g := gz) mem4
        have z_z := H.out.frozen (g := gz) mem4
        by_cases hz : e = 0
        ·
          subst hz
          have hOV := HOV.out
          rw [if_pos rfl] at hOV
          clear HOV
          go_wp2_with (first
 | ((with_reducible refine gate_store (t := 30) (p := 13) rfl ?_);
    refine put_box (rs1 := [row k67 67 (.slice A3 (R.l).length c3) R.l, box gl [.slice A3 R.l.length c3, .bool R.dn, .int .i64 R.fu, .int .i64 R.fa, .int .i64 R.size, .int .u64 R.fr, .int .u64 R.nx, .bool R.br] 30, row k67 67 (.slice A (L.l).length c) L.l, row k62 62 (.slice Ao ((recR ds 1)).length co) ((recR ds 1)), box gz [.slice none 0 0, .bool false, .int .i64 0, .int .i64 0, .int .i64 0, .int .u64 0, .int .u64 0, .bool false] 30]) rfl (t := 30) (p := 13) rfl rfl ?hr (H1 := (Sep.set1 (Sep.set1 (Sep.set1 (Sep.set1 (Sep.set1 (Sep.set1 (Sep.set1 (Sep.set1 H.out 0 (.slice A3 R.l.length c3) rfl) 1 (.bool R.dn) rfl) 2 (.int .i64 R.fu) rfl) 3 (.int .i64 R.fa) rfl) 4 (.int .i64 R.size) rfl) 5 (.int .u64 R.fr) rfl) 6 (.int .u64 R.nx) rfl) 7 (.bool R.br) rfl)) ?_;
    (case hr => first | (go_simp; done) | (go_simp; rfl));
    intro wd20 n_;
    clear H c_l z_l c_z z_z;
    have H := n_;
    clear n_;
    have c_l := H.out.cell (g := gl) mem1;
    have z_l := H.out.frozen (g := gl) mem1;
    have c_z := H.out.cell (g := gz) mem4;
    have z_z := H.out.frozen (g := gz) mem4)
 | ((with_reducible refine gate_builtin (b := .append) (xs := #[.tmp 72, .tmp 76]) rfl ?_); at_builtin;
    refine app_row3 k62 k62_flat rfl (.tmp 72) (.tmp 76) 54 62 (.agg #[.int .u64 0, .string ⟨#[]⟩]) 24 rfl Tryz.underlying54 info62 rfl (by decide) (by omega) (.slice Ao ((recR ds 1)).length co) _ ((⟨L.nx, last⟩ : S62)) [.int .u64 L.nx, .string last] ?hs ?hx ?hp H ?hl ?_;
    (case hs => first | rfl | (go_simp; done) | (simp; rfl));
    (case hx => first | (go_simp; done) | (go_simp; rfl));
    (case hp => exact k62_mkM _ _ _ _);
    (case hl => (have := HFW.out; omega));
    intro Ao2 co2 wd21 n_;
    clear H c_l z_l c_z z_z;
    have H := n_;
    clear n_;
    have c_l := H.out.cell (g := gl) mem1;
    have z_l := H.out.frozen (g := gl) mem1;
    have c_z := H.out.cell (g := gz) mem4;
    have z_z := H.out.frozen (g := gz) mem4)
 | ((with_reducible refine gate_store (t := 30) (p := 10) rfl ?_);
    refine put_box (rs1 := [row k67 67 (.slice A3 (R.l).length c3) R.l, box gl [.slice A3 R.l.length c3, .bool R.dn, .int .i64 R.fu, .int .i64 R.fa, .int .i64 R.size, .int .u64 R.fr, .int .u64 R.nx, .bool R.br] 30, row k67 67 (.slice A (L.l).length c) L.l, row k62 62 (.slice Ao2 (((recR ds 1) ++ [(⟨L.nx, last⟩ : S62)])).length co2) (((recR ds 1) ++ [(⟨L.nx, last⟩ : S62)])), box gz [.slice A3 R.l.length c3, .bool R.dn, .int .i64 R.fu, .int .i64 R.fa, .int .i64 R.size, .int .u64 R.fr, .int .u64 R.nx, .bool R.br] 30]) rfl (t := 30) (p := 10) rfl rfl ?hr (H1 := (Sep.set4 (Sep.set4 (Sep.set4 (Sep.set4 (Sep.set4 (Sep.set4 (Sep.set4 (Sep.set4 H.out 0 (.slice A3 R.l.length c3) rfl) 1 (.bool R.dn) rfl) 2 (.int .i64 R.fu) rfl) 3 (.int .i64 R.fa) rfl) 4 (.int .i64 R.size) rfl) 5 (.int .u64 R.fr) rfl) 6 (.int .u64 R.nx) rfl) 7 (.bool R.br) rfl)) ?_;
    (case hr => first | (go_simp; done) | (go_simp; rfl));
    intro wd22 n_;
    clear H c_l z_l c_z z_z;
    have H := n_;
    clear n_;
    have c_l := H.out.cell (g := gl) mem1;
    have z_l := H.out.frozen (g := gl) mem1;
    have c_z := H.out.cell (g := gz) mem4;
    have z_z := H.out.frozen (g := gz) mem4)
 | fail)
          refine bodyPost_ret (results_list (rs := [.cell 10 30, .tmp 11, .tmp 12]) rfl (by simp) (.cell gz 30 _ _ _ rfl (H.out.box_ (g := gz) mem4) Tryz.underlying30 rfl info30 (.tmp (.tmp .nil)))) rfl ?_
          have hll : (recR ds 1).length + 1 = (recR ds 1 ++ [(⟨L.nx, last⟩ : S62)]).length := by rw [List.length_append]; rfl
          rw [hll]
          subst hOV
          exact ⟨A3, c3, Ao2, co2, rfl, ⟨(Sep.drop1 (Sep.drop2 (Sep.drop4 H.out)))⟩⟩
        ·
          have hOV := HOV.out
          rw [if_neg hz] at hOV
          clear HOV
          go_wp2_with (first
 | ((with_reducible refine gate_store (t := 30) (p := 13) rfl ?_);
    refine put_box (rs1 := [row k67 67 (.slice A3 (R.l).length c3) R.l, box gl [.slice A3 R.l.length c3, .bool R.dn, .int .i64 R.fu, .int .i64 R.fa, .int .i64 R.size, .int .u64 R.fr, .int .u64 R.nx, .bool R.br] 30, row k67 67 (.slice A (L.l).length c) L.l, row k62 62 (.slice Ao ((recR ds 1)).length co) ((recR ds 1)), box gz [.slice none 0 0, .bool false, .int .i64 0, .int .i64 0, .int .i64 0, .int .u64 0, .int .u64 0, .bool false] 30]) rfl (t := 30) (p := 13) rfl rfl ?hr (H1 := (Sep.set1 (Sep.set1 (Sep.set1 (Sep.set1 (Sep.set1 (Sep.set1 (Sep.set1 (Sep.set1 H.out 0 (.slice A3 R.l.length c3) rfl) 1 (.bool R.dn) rfl) 2 (.int .i64 R.fu) rfl) 3 (.int .i64 R.fa) rfl) 4 (.int .i64 R.size) rfl) 5 (.int .u64 R.fr) rfl) 6 (.int .u64 R.nx) rfl) 7 (.bool R.br) rfl)) ?_;
    (case hr => first | (go_simp; done) | (go_simp; rfl));
    intro wd23 n_;
    clear H c_l z_l c_z z_z;
    have H := n_;
    clear n_;
    have c_l := H.out.cell (g := gl) mem1;
    have z_l := H.out.frozen (g := gl) mem1;
    have c_z := H.out.cell (g := gz) mem4;
    have z_z := H.out.frozen (g := gz) mem4)
 | ((with_reducible refine gate_store (t := 30) (p := 10) rfl ?_);
    refine put_box (rs1 := [row k67 67 (.slice A3 (R.l).length c3) R.l, box gl [.slice A3 R.l.length c3, .bool R.dn, .int .i64 R.fu, .int .i64 R.fa, .int .i64 R.size, .int .u64 R.fr, .int .u64 R.nx, .bool R.br] 30, row k67 67 (.slice A (L.l).length c) L.l, row k62 62 (.slice Ao ((recR ds 1)).length co) ((recR ds 1)), box gz [.slice A3 R.l.length c3, .bool R.dn, .int .i64 R.fu, .int .i64 R.fa, .int .i64 R.size, .int .u64 R.fr, .int .u64 R.nx, .bool R.br] 30]) rfl (t := 30) (p := 10) rfl rfl ?hr (H1 := (Sep.set4 (Sep.set4 (Sep.set4 (Sep.set4 (Sep.set4 (Sep.set4 (Sep.set4 (Sep.set4 H.out 0 (.slice A3 R.l.length c3) rfl) 1 (.bool R.dn) rfl) 2 (.int .i64 R.fu) rfl) 3 (.int .i64 R.fa) rfl) 4 (.int .i64 R.size) rfl) 5 (.int .u64 R.fr) rfl) 6 (.int .u64 R.nx) rfl) 7 (.bool R.br) rfl)) ?_;
    (case hr => first | (go_simp; done) | (go_simp; rfl));
    intro wd24 n_;
    clear H c_l z_l c_z z_z;
    have H := n_;
    clear n_;
    have c_l := H.out.cell (g := gl) mem1;
    have z_l := H.out.frozen (g := gl) mem1;
    have c_z := H.out.cell (g := gz) mem4;
    have z_z := H.out.frozen (g := gz) mem4)
 | fail)
          refine bodyPost_ret (results_list (rs := [.cell 10 30, .tmp 11, .tmp 12]) rfl (by simp) (.cell gz 30 _ _ _ rfl (H.out.box_ (g := gz) mem4) Tryz.underlying30 rfl info30 (.tmp (.tmp .nil)))) rfl ?_
          subst hOV
          exact ⟨A3, c3, Ao, co, rfl, ⟨(Sep.drop1 (Sep.drop2 (Sep.drop4 H.out)))⟩⟩
end Go.Proofs.YtanonhipicoigaaGreatDoor.U
namespace Go.Proofs.YtanonhipicoigaaGreatDoor.U
open Go.RowKit Go.Proofs.YtanonhipicoigaaGreatDoorW.PrintWords Go.Proofs.YtanonhipicoigaaGreatDoorW.PrintLast Go.Proofs.YtanonhipicoigaaGreatDoorW.PrintMore
attribute [local go_sem] max2_int min2_int max_two min_two max_three min_three max_four min_four   -- for this text's walks alone
set_option linter.unusedVariables false
set_option linter.unusedSimpArgs false
/-! ### penstockref10_Same: function 28 -/
def penstockref10_Same.f (k : Nat) (l0_0 : List (S67)) (a0_1 : Bool) (a0_2 : Int) (a0_3 : Int) (a0_4 : Int) (a0_5 : Int) (a0_6 : Int) (a0_7 : Bool) (l1_0 : List (S67)) (a1_1 : Bool) (a1_2 : Int) (a1_3 : Int) (a1_4 : Int) (a1_5 : Int) (a1_6 : Int) (a1_7 : Bool) : Option (Bool) := (penstockref09_Same.f k l0_0 a0_1 a0_2 a0_3 l1_0 a1_1 a1_2 a1_3).bind fun t175 => (if t175 = true then (if a0_4 = a1_4 then (if a0_5 = a1_5 then (if a0_6 = a1_6 then (some (a0_7 == a1_7)) else (some false)) else (some false)) else (some false)) else (some false))
theorem penstockref10_Same.mono : ∀ a0 a1 a2 a3 a4 a5 a6 a7 a8 a9 a10 a11 a12 a13 a14 a15 k, LeO (penstockref10_Same.f k a0 a1 a2 a3 a4 a5 a6 a7 a8 a9 a10 a11 a12 a13 a14 a15) (penstockref10_Same.f (k + 1) a0 a1 a2 a3 a4 a5 a6 a7 a8 a9 a10 a11 a12 a13 a14 a15) := by
  intro a0 a1 a2 a3 a4 a5 a6 a7 a8 a9 a10 a11 a12 a13 a14 a15 k
  unfold penstockref10_Same.f
  repeat' first
      | (with_reducible exact penstockref09_Same.mono _ _ _ _ _ _ _ _ _)
      | (with_reducible exact LeO.refl _)
      | (with_reducible exact LeO.none _)
      | (with_reducible refine LeO.ite ?_ ?_)
      | (with_reducible refine LeO.bind ?_ (fun _ => ?_))
      | exact penstockref09_Same.mono _ _ _ _ _ _ _ _ _
      | exact LeO.none _
      | refine LeO.ite ?_ ?_
      | refine LeO.bind ?_ (fun _ => ?_)
set_option maxHeartbeats 8000000 in
set_option maxRecDepth 100000 in
theorem penstockref10_Same.calls (k : Nat) (A0_0 : Option Addr) (c0_0 : Nat) (l0_0 : List (S67)) (a0_1 : Bool) (a0_2 : Int) (a0_3 : Int) (a0_4 : Int) (a0_5 : Int) (a0_6 : Int) (a0_7 : Bool) (A1_0 : Option Addr) (c1_0 : Nat) (l1_0 : List (S67)) (a1_1 : Bool) (a1_2 : Int) (a1_3 : Int) (a1_4 : Int) (a1_5 : Int) (a1_6 : Int) (a1_7 : Bool) (r : Bool) (w : World) (hr0_0 : Kd.C k67 w A0_0 l0_0.length l0_0) (hc0_0 : l0_0.length ≤ c0_0) (hr1_0 : Kd.C k67 w A1_0 l1_0.length l1_0) (hc1_0 : l1_0.length ≤ c1_0) (h : penstockref10_Same.f k l0_0 a0_1 a0_2 a0_3 a0_4 a0_5 a0_6 a0_7 l1_0 a1_1 a1_2 a1_3 a1_4 a1_5 a1_6 a1_7 = some r) :
    Calls Tryz.prog 28 #[.agg #[.slice A0_0 l0_0.length c0_0, .bool a0_1, .int .i64 a0_2, .int .i64 a0_3, .int .i64 a0_4, .int .u64 a0_5, .int .u64 a0_6, .bool a0_7], .agg #[.slice A1_0 l1_0.length c1_0, .bool a1_1, .int .i64 a1_2, .int .i64 a1_3, .int .i64 a1_4, .int .u64 a1_5, .int .u64 a1_6, .bool a1_7]] w fun e w' => e = .returned (.bool r) ∧ Below w.heap.size w w' := by
  have hu30 := Tryz.underlying30
  have hu27 := Tryz.underlying27
  have HR0_0 := Aside0.mk hr0_0
  have HC0_0 := Aside0.mk hc0_0
  clear hr0_0 hc0_0
  have HR1_0 := Aside0.mk hr1_0
  have HC1_0 := Aside0.mk hc1_0
  clear hr1_0 hc1_0
  have HB := Aside0.mk (Below.refl w.heap.size w)
  have H : ((penstockref09_Same.f k l0_0 a0_1 a0_2 a0_3 l1_0 a1_1 a1_2 a1_3).bind fun t175 => (if t175 = true then (if a0_4 = a1_4 then (if a0_5 = a1_5 then (if a0_6 = a1_6 then (some (a0_7 == a1_7)) else (some false)) else (some false)) else (some false)) else (some false))) = some r := h
  clear h
  replace H := Option.bind_eq_some_iff.mp H
  obtain ⟨t175, A30, H⟩ := H
  replace H : (if t175 = true then (if a0_4 = a1_4 then (if a0_5 = a1_5 then (if a0_6 = a1_6 then (some (a0_7 == a1_7)) else (some false)) else (some false)) else (some false)) else (some false)) = some r := H
  have A3 := Aside0.mk A30
  clear A30
  by_cases c4 : t175 = true
  · subst c4
    have H1 : (if a0_4 = a1_4 then (if a0_5 = a1_5 then (if a0_6 = a1_6 then (some (a0_7 == a1_7)) else (some false)) else (some false)) else (some false)) = some r := by rw [if_pos rfl] at H; exact H
    clear H
    have H := H1
    clear H1
    by_cases c5 : a0_4 = a1_4
    · rw [if_pos c5] at H
      have c5b0 : (a0_4 == a1_4) = true := beq_iff_eq.mpr c5
      have c5b1 : (a0_4 != a1_4) = false := bne_eq_false_iff_eq.mpr c5
      clear c5
      by_cases c6 : a0_5 = a1_5
      · rw [if_pos c6] at H
        have c6b0 : (a0_5 == a1_5) = true := beq_iff_eq.mpr c6
        have c6b1 : (a0_5 != a1_5) = false := bne_eq_false_iff_eq.mpr c6
        clear c6
        by_cases c7 : a0_6 = a1_6
        · rw [if_pos c7] at H
          have c7b0 : (a0_6 == a1_6) = true := beq_iff_eq.mpr c7
          have c7b1 : (a0_6 != a1_6) = false := bne_eq_false_iff_eq.mpr c7
          clear c7
          obtain rfl := Option.some.inj H
          go_enter Tryz.func28, Tryz.ntmps28
          go_wp2_with (first | ((with_reducible refine gate_dst (N := 2) rfl ?_); refine box_event ?hg (N := 2) ?hd (cs := #[.slice A0_0 l0_0.length c0_0, .bool a0_1, .int .i64 a0_2, .int .i64 a0_3, .int .i64 a0_4, .int .u64 a0_5, .int .u64 a0_6, .bool a0_7]) (t := 30) ?hr ?_; (case hd => rfl); (case hg => rfl); (case hr => first | (go_simp; done) | (go_simp; rfl)); intro gb173 hg w8 hbox hb; have n0_ := Aside0.mk (below_step (by repeat (first | (with_reducible first | exact HB.out | apply below_alloc | apply pw_below_drewN | apply below_drew1) | exact HB.out)) hb); have n1_ := Aside0.mk (hbox); have n2_ := Aside0.mk ((by rw [hg]; exact (below_size (by repeat (first | (with_reducible first | exact HB.out | apply below_alloc | apply pw_below_drewN | apply below_drew1) | exact HB.out))) : w.heap.size ≤ gb173)); have n3_ := Aside0.mk ((by rw [hg]; exact (below_size (by repeat (first | (with_reducible first | exact HB.out | apply below_alloc | apply pw_below_drewN | apply below_drew1) | exact HB.out))) : w.heap.size ≤ gb173)); clear HB; have HB := n0_; have BK173 := n1_; have GW173 := n2_; have GE173 := n3_; clear n0_ n1_ n2_ n3_; clear hb hbox hg) | ((with_reducible refine gate_dst (N := 3) rfl ?_); refine box_event ?hg (N := 3) ?hd (cs := #[.slice A1_0 l1_0.length c1_0, .bool a1_1, .int .i64 a1_2, .int .i64 a1_3, .int .i64 a1_4, .int .u64 a1_5, .int .u64 a1_6, .bool a1_7]) (t := 30) ?hr ?_; (case hd => rfl); (case hg => rfl); (case hr => first | (go_simp; done) | (go_simp; rfl)); intro gb174 hg w9 hbox hb; have n0_ := Aside0.mk (blk_below (g := gb173) (o := .cells #[.slice A0_0 l0_0.length c0_0, .bool a0_1, .int .i64 a0_2, .int .i64 a0_3, .int .i64 a0_4, .int .u64 a0_5, .int .u64 a0_6, .bool a0_7] 30 (0, 0)) (by (with_reducible repeat (first | refine blk_drewN ?_ _ | refine blk_drew ?_ | refine blk_alloc ?_ _)); exact BK173.out) hb); have n1_ := Aside0.mk (below_step (by repeat (first | (with_reducible first | exact HB.out | apply below_alloc | apply pw_below_drewN | apply below_drew1 | refine below_set ?_ GE173.out) | exact HB.out)) hb); have n2_ := Aside0.mk (hbox); have n3_ := Aside0.mk ((by rw [hg]; exact (below_size (by repeat (first | (with_reducible first | exact HB.out | apply below_alloc | apply pw_below_drewN | apply below_drew1 | refine below_set ?_ GE173.out) | exact HB.out))) : w.heap.size ≤ gb174)); have n4_ := Aside0.mk ((by rw [hg]; exact (below_size (by repeat (first | (with_reducible first | exact HB.out | apply below_alloc | apply pw_below_drewN | apply below_drew1 | refine below_set ?_ GE173.out) | exact HB.out))) : w.heap.size ≤ gb174)); have n5_ := Aside0.mk ((by rw [hg]; exact Nat.ne_of_lt (blk_lt (g := gb173) (o := .cells #[.slice A0_0 l0_0.length c0_0, .bool a0_1, .int .i64 a0_2, .int .i64 a0_3, .int .i64 a0_4, .int .u64 a0_5, .int .u64 a0_6, .bool a0_7] 30 (0, 0)) (by (with_reducible repeat (first | refine blk_drewN ?_ _ | refine blk_drew ?_ | refine blk_alloc ?_ _)); exact BK173.out)) : gb173 ≠ gb174)); have n6_ := Aside0.mk ((by rw [hg]; exact Nat.ne_of_gt (blk_lt (g := gb173) (o := .cells #[.slice A0_0 l0_0.length c0_0, .bool a0_1, .int .i64 a0_2, .int .i64 a0_3, .int .i64 a0_4, .int .u64 a0_5, .int .u64 a0_6, .bool a0_7] 30 (0, 0)) (by (with_reducible repeat (first | refine blk_drewN ?_ _ | refine blk_drew ?_ | refine blk_alloc ?_ _)); exact BK173.out)) : gb174 ≠ gb173)); clear BK173; clear HB; have BK173 := n0_; have HB := n1_; have BK174 := n2_; have GW174 := n3_; have GE174 := n4_; have NB173_174 := n5_; have NB174_173 := n6_; clear n0_ n1_ n2_ n3_ n4_ n5_ n6_; clear hb hbox hg; have hnb10 := NB173_174.out; have hnc10 := NB174_173.out; have hcz11_0 : w9.cell? ⟨gb173, 0, none⟩ = some (.slice A0_0 l0_0.length c0_0) := (blk_cell BK173.out 0).trans rfl; have hcz11_1 : w9.cell? ⟨gb173, 1, none⟩ = some (.bool a0_1) := (blk_cell BK173.out 1).trans rfl; have hcz11_2 : w9.cell? ⟨gb173, 2, none⟩ = some (.int .i64 a0_2) := (blk_cell BK173.out 2).trans rfl; have hcz11_3 : w9.cell? ⟨gb173, 3, none⟩ = some (.int .i64 a0_3) := (blk_cell BK173.out 3).trans rfl; have hcz11_4 : w9.cell? ⟨gb173, 4, none⟩ = some (.int .i64 a0_4) := (blk_cell BK173.out 4).trans rfl; have hcz11_5 : w9.cell? ⟨gb173, 5, none⟩ = some (.int .u64 a0_5) := (blk_cell BK173.out 5).trans rfl; have hcz11_6 : w9.cell? ⟨gb173, 6, none⟩ = some (.int .u64 a0_6) := (blk_cell BK173.out 6).trans rfl; have hcz11_7 : w9.cell? ⟨gb173, 7, none⟩ = some (.bool a0_7) := (blk_cell BK173.out 7).trans rfl; have hfz11_0 := blk_frozen BK173.out 0; have hfz11_1 := blk_frozen BK173.out 1; have hfz11_2 := blk_frozen BK173.out 2; have hfz11_3 := blk_frozen BK173.out 3; have hfz11_4 := blk_frozen BK173.out 4; have hfz11_5 := blk_frozen BK173.out 5; have hfz11_6 := blk_frozen BK173.out 6; have hfz11_7 := blk_frozen BK173.out 7; have hcz12_0 : w9.cell? ⟨gb174, 0, none⟩ = some (.slice A1_0 l1_0.length c1_0) := (blk_cell BK174.out 0).trans rfl; have hcz12_1 : w9.cell? ⟨gb174, 1, none⟩ = some (.bool a1_1) := (blk_cell BK174.out 1).trans rfl; have hcz12_2 : w9.cell? ⟨gb174, 2, none⟩ = some (.int .i64 a1_2) := (blk_cell BK174.out 2).trans rfl; have hcz12_3 : w9.cell? ⟨gb174, 3, none⟩ = some (.int .i64 a1_3) := (blk_cell BK174.out 3).trans rfl; have hcz12_4 : w9.cell? ⟨gb174, 4, none⟩ = some (.int .i64 a1_4) := (blk_cell BK174.out 4).trans rfl; have hcz12_5 : w9.cell? ⟨gb174, 5, none⟩ = some (.int .u64 a1_5) := (blk_cell BK174.out 5).trans rfl; have hcz12_6 : w9.cell? ⟨gb174, 6, none⟩ = some (.int .u64 a1_6) := (blk_cell BK174.out 6).trans rfl; have hcz12_7 : w9.cell? ⟨gb174, 7, none⟩ = some (.bool a1_7) := (blk_cell BK174.out 7).trans rfl; have hfz12_0 := blk_frozen BK174.out 0; have hfz12_1 := blk_frozen BK174.out 1; have hfz12_2 := blk_frozen BK174.out 2; have hfz12_3 := blk_frozen BK174.out 3; have hfz12_4 := blk_frozen BK174.out 4; have hfz12_5 := blk_frozen BK174.out 5; have hfz12_6 := blk_frozen BK174.out 6; have hfz12_7 := blk_frozen BK174.out 7) | ((with_reducible refine gate_callee (f := 75) rfl ?_); refine goesL_ (some 9) rfl rfl Tryz.func75 (by kernel_rfl) rfl #[.agg #[.slice A0_0 l0_0.length c0_0, .bool a0_1, .int .i64 a0_2, .int .i64 a0_3], .agg #[.slice A1_0 l1_0.length c1_0, .bool a1_1, .int .i64 a1_2, .int .i64 a1_3]] rfl (by (try simp only [List.map_toArray, List.map_cons, List.map_nil]); first | done | rfl | (simp only [List.length_drop, List.length_take]; rfl)) ?_; (with_reducible refine (penstockref09_Same.calls k _ _ l0_0 a0_1 a0_2 a0_3 _ _ l1_0 a1_1 a1_2 a1_3 true _ ?side1 ?side2 ?side3 ?side4 A3.out).mono ?_); (case side1 => repeat (first | exact (Kd.C_below HR0_0.out HB.out) | (with_reducible refine Kd.C_alloc ?_ _) | (with_reducible refine Kd.C_drewN ?_ _) | (with_reducible refine Kd.C_drew ?_))); (case side2 => exact HC0_0.out); (case side3 => repeat (first | exact (Kd.C_below HR1_0.out HB.out) | (with_reducible refine Kd.C_alloc ?_ _) | (with_reducible refine Kd.C_drewN ?_ _) | (with_reducible refine Kd.C_drew ?_))); (case side4 => exact HC1_0.out); rintro e w13 ⟨rfl, hb⟩; refine ⟨_, rfl, ?_⟩; have n0_ := Aside0.mk (blk_below (g := gb173) (o := .cells #[.slice A0_0 l0_0.length c0_0, .bool a0_1, .int .i64 a0_2, .int .i64 a0_3, .int .i64 a0_4, .int .u64 a0_5, .int .u64 a0_6, .bool a0_7] 30 (0, 0)) (by (with_reducible repeat (first | refine blk_drewN ?_ _ | refine blk_drew ?_ | refine blk_alloc ?_ _)); exact BK173.out) hb); have n1_ := Aside0.mk (blk_below (g := gb174) (o := .cells #[.slice A1_0 l1_0.length c1_0, .bool a1_1, .int .i64 a1_2, .int .i64 a1_3, .int .i64 a1_4, .int .u64 a1_5, .int .u64 a1_6, .bool a1_7] 30 (0, 0)) (by (with_reducible repeat (first | refine blk_drewN ?_ _ | refine blk_drew ?_ | refine blk_alloc ?_ _)); exact BK174.out) hb); have n2_ := Aside0.mk (below_step (by repeat (first | (with_reducible first | exact HB.out | apply below_alloc | apply pw_below_drewN | apply below_drew1 | refine below_set ?_ GE173.out | refine below_set ?_ GE174.out) | exact HB.out)) hb); clear BK173; clear BK174; clear HB; have BK173 := n0_; have BK174 := n1_; have HB := n2_; clear n0_ n1_ n2_; (try clear hb); (try clear hb2); (try clear hk); (try clear hi); have hcz14_0 : w13.cell? ⟨gb173, 0, none⟩ = some (.slice A0_0 l0_0.length c0_0) := (blk_cell BK173.out 0).trans rfl; have hcz14_1 : w13.cell? ⟨gb173, 1, none⟩ = some (.bool a0_1) := (blk_cell BK173.out 1).trans rfl; have hcz14_2 : w13.cell? ⟨gb173, 2, none⟩ = some (.int .i64 a0_2) := (blk_cell BK173.out 2).trans rfl; have hcz14_3 : w13.cell? ⟨gb173, 3, none⟩ = some (.int .i64 a0_3) := (blk_cell BK173.out 3).trans rfl; have hcz14_4 : w13.cell? ⟨gb173, 4, none⟩ = some (.int .i64 a0_4) := (blk_cell BK173.out 4).trans rfl; have hcz14_5 : w13.cell? ⟨gb173, 5, none⟩ = some (.int .u64 a0_5) := (blk_cell BK173.out 5).trans rfl; have hcz14_6 : w13.cell? ⟨gb173, 6, none⟩ = some (.int .u64 a0_6) := (blk_cell BK173.out 6).trans rfl; have hcz14_7 : w13.cell? ⟨gb173, 7, none⟩ = some (.bool a0_7) := (blk_cell BK173.out 7).trans rfl; have hfz14_0 := blk_frozen BK173.out 0; have hfz14_1 := blk_frozen BK173.out 1; have hfz14_2 := blk_frozen BK173.out 2; have hfz14_3 := blk_frozen BK173.out 3; have hfz14_4 := blk_frozen BK173.out 4; have hfz14_5 := blk_frozen BK173.out 5; have hfz14_6 := blk_frozen BK173.out 6; have hfz14_7 := blk_frozen BK173.out 7; have hcz15_0 : w13.cell? ⟨gb174, 0, none⟩ = some (.slice A1_0 l1_0.length c1_0) := (blk_cell BK174.out 0).trans rfl; have hcz15_1 : w13.cell? ⟨gb174, 1, none⟩ = some (.bool a1_1) := (blk_cell BK174.out 1).trans rfl; have hcz15_2 : w13.cell? ⟨gb174, 2, none⟩ = some (.int .i64 a1_2) := (blk_cell BK174.out 2).trans rfl; have hcz15_3 : w13.cell? ⟨gb174, 3, none⟩ = some (.int .i64 a1_3) := (blk_cell BK174.out 3).trans rfl; have hcz15_4 : w13.cell? ⟨gb174, 4, none⟩ = some (.int .i64 a1_4) := (blk_cell BK174.out 4).trans rfl; have hcz15_5 : w13.cell? ⟨gb174, 5, none⟩ = some (.int .u64 a1_5) := (blk_cell BK174.out 5).trans rfl; have hcz15_6 : w13.cell? ⟨gb174, 6, none⟩ = some (.int .u64 a1_6) := (blk_cell BK174.out 6).trans rfl; have hcz15_7 : w13.cell? ⟨gb174, 7, none⟩ = some (.bool a1_7) := (blk_cell BK174.out 7).trans rfl; have hfz15_0 := blk_frozen BK174.out 0; have hfz15_1 := blk_frozen BK174.out 1; have hfz15_2 := blk_frozen BK174.out 2; have hfz15_3 := blk_frozen BK174.out 3; have hfz15_4 := blk_frozen BK174.out 4; have hfz15_5 := blk_frozen BK174.out 5; have hfz15_6 := blk_frozen BK174.out 6; have hfz15_7 := blk_frozen BK174.out 7))
          go_ret
          exact ⟨by first | rfl | (simp [errW_none, errW_some] <;> rfl) | (simp [*, errW_none, errW_some] <;> rfl), by repeat (first | (with_reducible first | exact HB.out | apply below_alloc | apply pw_below_drewN | apply below_drew1 | refine below_set ?_ GE173.out | refine below_set ?_ GE174.out) | exact HB.out)⟩
        · rw [if_neg c7] at H
          have c7b0 : (a0_6 == a1_6) = false := beq_eq_false_iff_ne.mpr c7
          have c7b1 : (a0_6 != a1_6) = true := bne_iff_ne.mpr c7
          obtain rfl := Option.some.inj H
          go_enter Tryz.func28, Tryz.ntmps28
          go_wp2_with (first | ((with_reducible refine gate_dst (N := 2) rfl ?_); refine box_event ?hg (N := 2) ?hd (cs := #[.slice A0_0 l0_0.length c0_0, .bool a0_1, .int .i64 a0_2, .int .i64 a0_3, .int .i64 a0_4, .int .u64 a0_5, .int .u64 a0_6, .bool a0_7]) (t := 30) ?hr ?_; (case hd => rfl); (case hg => rfl); (case hr => first | (go_simp; done) | (go_simp; rfl)); intro gb173 hg w16 hbox hb; have n0_ := Aside0.mk (below_step (by repeat (first | (with_reducible first | exact HB.out | apply below_alloc | apply pw_below_drewN | apply below_drew1) | exact HB.out)) hb); have n1_ := Aside0.mk (hbox); have n2_ := Aside0.mk ((by rw [hg]; exact (below_size (by repeat (first | (with_reducible first | exact HB.out | apply below_alloc | apply pw_below_drewN | apply below_drew1) | exact HB.out))) : w.heap.size ≤ gb173)); have n3_ := Aside0.mk ((by rw [hg]; exact (below_size (by repeat (first | (with_reducible first | exact HB.out | apply below_alloc | apply pw_below_drewN | apply below_drew1) | exact HB.out))) : w.heap.size ≤ gb173)); clear HB; have HB := n0_; have BK173 := n1_; have GW173 := n2_; have GE173 := n3_; clear n0_ n1_ n2_ n3_; clear hb hbox hg) | ((with_reducible refine gate_dst (N := 3) rfl ?_); refine box_event ?hg (N := 3) ?hd (cs := #[.slice A1_0 l1_0.length c1_0, .bool a1_1, .int .i64 a1_2, .int .i64 a1_3, .int .i64 a1_4, .int .u64 a1_5, .int .u64 a1_6, .bool a1_7]) (t := 30) ?hr ?_; (case hd => rfl); (case hg => rfl); (case hr => first | (go_simp; done) | (go_simp; rfl)); intro gb174 hg w17 hbox hb; have n0_ := Aside0.mk (blk_below (g := gb173) (o := .cells #[.slice A0_0 l0_0.length c0_0, .bool a0_1, .int .i64 a0_2, .int .i64 a0_3, .int .i64 a0_4, .int .u64 a0_5, .int .u64 a0_6, .bool a0_7] 30 (0, 0)) (by (with_reducible repeat (first | refine blk_drewN ?_ _ | refine blk_drew ?_ | refine blk_alloc ?_ _)); exact BK173.out) hb); have n1_ := Aside0.mk (below_step (by repeat (first | (with_reducible first | exact HB.out | apply below_alloc | apply pw_below_drewN | apply below_drew1 | refine below_set ?_ GE173.out) | exact HB.out)) hb); have n2_ := Aside0.mk (hbox); have n3_ := Aside0.mk ((by rw [hg]; exact (below_size (by repeat (first | (with_reducible first | exact HB.out | apply below_alloc | apply pw_below_drewN | apply below_drew1 | refine below_set ?_ GE173.out) | exact HB.out))) : w.heap.size ≤ gb174)); have n4_ := Aside0.mk ((by rw [hg]; exact (below_size (by repeat (first | (with_reducible first | exact HB.out | apply below_alloc | apply pw_below_drewN | apply below_drew1 | refine below_set ?_ GE173.out) | exact HB.out))) : w.heap.size ≤ gb174)); have n5_ := Aside0.mk ((by rw [hg]; exact Nat.ne_of_lt (blk_lt (g := gb173) (o := .cells #[.slice A0_0 l0_0.length c0_0, .bool a0_1, .int .i64 a0_2, .int .i64 a0_3, .int .i64 a0_4, .int .u64 a0_5, .int .u64 a0_6, .bool a0_7] 30 (0, 0)) (by (with_reducible repeat (first | refine blk_drewN ?_ _ | refine blk_drew ?_ | refine blk_alloc ?_ _)); exact BK173.out)) : gb173 ≠ gb174)); have n6_ := Aside0.mk ((by rw [hg]; exact Nat.ne_of_gt (blk_lt (g := gb173) (o := .cells #[.slice A0_0 l0_0.length c0_0, .bool a0_1, .int .i64 a0_2, .int .i64 a0_3, .int .i64 a0_4, .int .u64 a0_5, .int .u64 a0_6, .bool a0_7] 30 (0, 0)) (by (with_reducible repeat (first | refine blk_drewN ?_ _ | refine blk_drew ?_ | refine blk_alloc ?_ _)); exact BK173.out)) : gb174 ≠ gb173)); clear BK173; clear HB; have BK173 := n0_; have HB := n1_; have BK174 := n2_; have GW174 := n3_; have GE174 := n4_; have NB173_174 := n5_; have NB174_173 := n6_; clear n0_ n1_ n2_ n3_ n4_ n5_ n6_; clear hb hbox hg; have hnb18 := NB173_174.out; have hnc18 := NB174_173.out; have hcz19_0 : w17.cell? ⟨gb173, 0, none⟩ = some (.slice A0_0 l0_0.length c0_0) := (blk_cell BK173.out 0).trans rfl; have hcz19_1 : w17.cell? ⟨gb173, 1, none⟩ = some (.bool a0_1) := (blk_cell BK173.out 1).trans rfl; have hcz19_2 : w17.cell? ⟨gb173, 2, none⟩ = some (.int .i64 a0_2) := (blk_cell BK173.out 2).trans rfl; have hcz19_3 : w17.cell? ⟨gb173, 3, none⟩ = some (.int .i64 a0_3) := (blk_cell BK173.out 3).trans rfl; have hcz19_4 : w17.cell? ⟨gb173, 4, none⟩ = some (.int .i64 a0_4) := (blk_cell BK173.out 4).trans rfl; have hcz19_5 : w17.cell? ⟨gb173, 5, none⟩ = some (.int .u64 a0_5) := (blk_cell BK173.out 5).trans rfl; have hcz19_6 : w17.cell? ⟨gb173, 6, none⟩ = some (.int .u64 a0_6) := (blk_cell BK173.out 6).trans rfl; have hcz19_7 : w17.cell? ⟨gb173, 7, none⟩ = some (.bool a0_7) := (blk_cell BK173.out 7).trans rfl; have hfz19_0 := blk_frozen BK173.out 0; have hfz19_1 := blk_frozen BK173.out 1; have hfz19_2 := blk_frozen BK173.out 2; have hfz19_3 := blk_frozen BK173.out 3; have hfz19_4 := blk_frozen BK173.out 4; have hfz19_5 := blk_frozen BK173.out 5; have hfz19_6 := blk_frozen BK173.out 6; have hfz19_7 := blk_frozen BK173.out 7; have hcz20_0 : w17.cell? ⟨gb174, 0, none⟩ = some (.slice A1_0 l1_0.length c1_0) := (blk_cell BK174.out 0).trans rfl; have hcz20_1 : w17.cell? ⟨gb174, 1, none⟩ = some (.bool a1_1) := (blk_cell BK174.out 1).trans rfl; have hcz20_2 : w17.cell? ⟨gb174, 2, none⟩ = some (.int .i64 a1_2) := (blk_cell BK174.out 2).trans rfl; have hcz20_3 : w17.cell? ⟨gb174, 3, none⟩ = some (.int .i64 a1_3) := (blk_cell BK174.out 3).trans rfl; have hcz20_4 : w17.cell? ⟨gb174, 4, none⟩ = some (.int .i64 a1_4) := (blk_cell BK174.out 4).trans rfl; have hcz20_5 : w17.cell? ⟨gb174, 5, none⟩ = some (.int .u64 a1_5) := (blk_cell BK174.out 5).trans rfl; have hcz20_6 : w17.cell? ⟨gb174, 6, none⟩ = some (.int .u64 a1_6) := (blk_cell BK174.out 6).trans rfl; have hcz20_7 : w17.cell? ⟨gb174, 7, none⟩ = some (.bool a1_7) := (blk_cell BK174.out 7).trans rfl; have hfz20_0 := blk_frozen BK174.out 0; have hfz20_1 := blk_frozen BK174.out 1; have hfz20_2 := blk_frozen BK174.out 2; have hfz20_3 := blk_frozen BK174.out 3; have hfz20_4 := blk_frozen BK174.out 4; have hfz20_5 := blk_frozen BK174.out 5; have hfz20_6 := blk_frozen BK174.out 6; have hfz20_7 := blk_frozen BK174.out 7) | ((with_reducible refine gate_callee (f := 75) rfl ?_); refine goesL_ (some 9) rfl rfl Tryz.func75 (by kernel_rfl) rfl #[.agg #[.slice A0_0 l0_0.length c0_0, .bool a0_1, .int .i64 a0_2, .int .i64 a0_3], .agg #[.slice A1_0 l1_0.length c1_0, .bool a1_1, .int .i64 a1_2, .int .i64 a1_3]] rfl (by (try simp only [List.map_toArray, List.map_cons, List.map_nil]); first | done | rfl | (simp only [List.length_drop, List.length_take]; rfl)) ?_; (with_reducible refine (penstockref09_Same.calls k _ _ l0_0 a0_1 a0_2 a0_3 _ _ l1_0 a1_1 a1_2 a1_3 true _ ?side1 ?side2 ?side3 ?side4 A3.out).mono ?_); (case side1 => repeat (first | exact (Kd.C_below HR0_0.out HB.out) | (with_reducible refine Kd.C_alloc ?_ _) | (with_reducible refine Kd.C_drewN ?_ _) | (with_reducible refine Kd.C_drew ?_))); (case side2 => exact HC0_0.out); (case side3 => repeat (first | exact (Kd.C_below HR1_0.out HB.out) | (with_reducible refine Kd.C_alloc ?_ _) | (with_reducible refine Kd.C_drewN ?_ _) | (with_reducible refine Kd.C_drew ?_))); (case side4 => exact HC1_0.out); rintro e w21 ⟨rfl, hb⟩; refine ⟨_, rfl, ?_⟩; have n0_ := Aside0.mk (blk_below (g := gb173) (o := .cells #[.slice A0_0 l0_0.length c0_0, .bool a0_1, .int .i64 a0_2, .int .i64 a0_3, .int .i64 a0_4, .int .u64 a0_5, .int .u64 a0_6, .bool a0_7] 30 (0, 0)) (by (with_reducible repeat (first | refine blk_drewN ?_ _ | refine blk_drew ?_ | refine blk_alloc ?_ _)); exact BK173.out) hb); have n1_ := Aside0.mk (blk_below (g := gb174) (o := .cells #[.slice A1_0 l1_0.length c1_0, .bool a1_1, .int .i64 a1_2, .int .i64 a1_3, .int .i64 a1_4, .int .u64 a1_5, .int .u64 a1_6, .bool a1_7] 30 (0, 0)) (by (with_reducible repeat (first | refine blk_drewN ?_ _ | refine blk_drew ?_ | refine blk_alloc ?_ _)); exact BK174.out) hb); have n2_ := Aside0.mk (below_step (by repeat (first | (with_reducible first | exact HB.out | apply below_alloc | apply pw_below_drewN | apply below_drew1 | refine below_set ?_ GE173.out | refine below_set ?_ GE174.out) | exact HB.out)) hb); clear BK173; clear BK174; clear HB; have BK173 := n0_; have BK174 := n1_; have HB := n2_; clear n0_ n1_ n2_; (try clear hb); (try clear hb2); (try clear hk); (try clear hi); have hcz22_0 : w21.cell? ⟨gb173, 0, none⟩ = some (.slice A0_0 l0_0.length c0_0) := (blk_cell BK173.out 0).trans rfl; have hcz22_1 : w21.cell? ⟨gb173, 1, none⟩ = some (.bool a0_1) := (blk_cell BK173.out 1).trans rfl; have hcz22_2 : w21.cell? ⟨gb173, 2, none⟩ = some (.int .i64 a0_2) := (blk_cell BK173.out 2).trans rfl; have hcz22_3 : w21.cell? ⟨gb173, 3, none⟩ = some (.int .i64 a0_3) := (blk_cell BK173.out 3).trans rfl; have hcz22_4 : w21.cell? ⟨gb173, 4, none⟩ = some (.int .i64 a0_4) := (blk_cell BK173.out 4).trans rfl; have hcz22_5 : w21.cell? ⟨gb173, 5, none⟩ = some (.int .u64 a0_5) := (blk_cell BK173.out 5).trans rfl; have hcz22_6 : w21.cell? ⟨gb173, 6, none⟩ = some (.int .u64 a0_6) := (blk_cell BK173.out 6).trans rfl; have hcz22_7 : w21.cell? ⟨gb173, 7, none⟩ = some (.bool a0_7) := (blk_cell BK173.out 7).trans rfl; have hfz22_0 := blk_frozen BK173.out 0; have hfz22_1 := blk_frozen BK173.out 1; have hfz22_2 := blk_frozen BK173.out 2; have hfz22_3 := blk_frozen BK173.out 3; have hfz22_4 := blk_frozen BK173.out 4; have hfz22_5 := blk_frozen BK173.out 5; have hfz22_6 := blk_frozen BK173.out 6; have hfz22_7 := blk_frozen BK173.out 7; have hcz23_0 : w21.cell? ⟨gb174, 0, none⟩ = some (.slice A1_0 l1_0.length c1_0) := (blk_cell BK174.out 0).trans rfl; have hcz23_1 : w21.cell? ⟨gb174, 1, none⟩ = some (.bool a1_1) := (blk_cell BK174.out 1).trans rfl; have hcz23_2 : w21.cell? ⟨gb174, 2, none⟩ = some (.int .i64 a1_2) := (blk_cell BK174.out 2).trans rfl; have hcz23_3 : w21.cell? ⟨gb174, 3, none⟩ = some (.int .i64 a1_3) := (blk_cell BK174.out 3).trans rfl; have hcz23_4 : w21.cell? ⟨gb174, 4, none⟩ = some (.int .i64 a1_4) := (blk_cell BK174.out 4).trans rfl; have hcz23_5 : w21.cell? ⟨gb174, 5, none⟩ = some (.int .u64 a1_5) := (blk_cell BK174.out 5).trans rfl; have hcz23_6 : w21.cell? ⟨gb174, 6, none⟩ = some (.int .u64 a1_6) := (blk_cell BK174.out 6).trans rfl; have hcz23_7 : w21.cell? ⟨gb174, 7, none⟩ = some (.bool a1_7) := (blk_cell BK174.out 7).trans rfl; have hfz23_0 := blk_frozen BK174.out 0; have hfz23_1 := blk_frozen BK174.out 1; have hfz23_2 := blk_frozen BK174.out 2; have hfz23_3 := blk_frozen BK174.out 3; have hfz23_4 := blk_frozen BK174.out 4; have hfz23_5 := blk_frozen BK174.out 5; have hfz23_6 := blk_frozen BK174.out 6; have hfz23_7 := blk_frozen BK174.out 7))
          go_ret
          exact ⟨by first | rfl | (simp [errW_none, errW_some] <;> rfl) | (simp [*, errW_none, errW_some] <;> rfl), by repeat (first | (with_reducible first | exact HB.out | apply below_alloc | apply pw_below_drewN | apply below_drew1 | refine below_set ?_ GE173.out | refine below_set ?_ GE174.out) | exact HB.out)⟩
      · rw [if_neg c6] at H
        have c6b0 : (a0_5 == a1_5) = false := beq_eq_false_iff_ne.mpr c6
        have c6b1 : (a0_5 != a1_5) = true := bne_iff_ne.mpr c6
        obtain rfl := Option.some.inj H
        go_enter Tryz.func28, Tryz.ntmps28
        go_wp2_with (first | ((with_reducible refine gate_dst (N := 2) rfl ?_); refine box_event ?hg (N := 2) ?hd (cs := #[.slice A0_0 l0_0.length c0_0, .bool a0_1, .int .i64 a0_2, .int .i64 a0_3, .int .i64 a0_4, .int .u64 a0_5, .int .u64 a0_6, .bool a0_7]) (t := 30) ?hr ?_; (case hd => rfl); (case hg => rfl); (case hr => first | (go_simp; done) | (go_simp; rfl)); intro gb173 hg w24 hbox hb; have n0_ := Aside0.mk (below_step (by repeat (first | (with_reducible first | exact HB.out | apply below_alloc | apply pw_below_drewN | apply below_drew1) | exact HB.out)) hb); have n1_ := Aside0.mk (hbox); have n2_ := Aside0.mk ((by rw [hg]; exact (below_size (by repeat (first | (with_reducible first | exact HB.out | apply below_alloc | apply pw_below_drewN | apply below_drew1) | exact HB.out))) : w.heap.size ≤ gb173)); have n3_ := Aside0.mk ((by rw [hg]; exact (below_size (by repeat (first | (with_reducible first | exact HB.out | apply below_alloc | apply pw_below_drewN | apply below_drew1) | exact HB.out))) : w.heap.size ≤ gb173)); clear HB; have HB := n0_; have BK173 := n1_; have GW173 := n2_; have GE173 := n3_; clear n0_ n1_ n2_ n3_; clear hb hbox hg) | ((with_reducible refine gate_dst (N := 3) rfl ?_); refine box_event ?hg (N := 3) ?hd (cs := #[.slice A1_0 l1_0.length c1_0, .bool a1_1, .int .i64 a1_2, .int .i64 a1_3, .int .i64 a1_4, .int .u64 a1_5, .int .u64 a1_6, .bool a1_7]) (t := 30) ?hr ?_; (case hd => rfl); (case hg => rfl); (case hr => first | (go_simp; done) | (go_simp; rfl)); intro gb174 hg w25 hbox hb; have n0_ := Aside0.mk (blk_below (g := gb173) (o := .cells #[.slice A0_0 l0_0.length c0_0, .bool a0_1, .int .i64 a0_2, .int .i64 a0_3, .int .i64 a0_4, .int .u64 a0_5, .int .u64 a0_6, .bool a0_7] 30 (0, 0)) (by (with_reducible repeat (first | refine blk_drewN ?_ _ | refine blk_drew ?_ | refine blk_alloc ?_ _)); exact BK173.out) hb); have n1_ := Aside0.mk (below_step (by repeat (first | (with_reducible first | exact HB.out | apply below_alloc | apply pw_below_drewN | apply below_drew1 | refine below_set ?_ GE173.out) | exact HB.out)) hb); have n2_ := Aside0.mk (hbox); have n3_ := Aside0.mk ((by rw [hg]; exact (below_size (by repeat (first | (with_reducible first | exact HB.out | apply below_alloc | apply pw_below_drewN | apply below_drew1 | refine below_set ?_ GE173.out) | exact HB.out))) : w.heap.size ≤ gb174)); have n4_ := Aside0.mk ((by rw [hg]; exact (below_size (by repeat (first | (with_reducible first | exact HB.out | apply below_alloc | apply pw_below_drewN | apply below_drew1 | refine below_set ?_ GE173.out) | exact HB.out))) : w.heap.size ≤ gb174)); have n5_ := Aside0.mk ((by rw [hg]; exact Nat.ne_of_lt (blk_lt (g := gb173) (o := .cells #[.slice A0_0 l0_0.length c0_0, .bool a0_1, .int .i64 a0_2, .int .i64 a0_3, .int .i64 a0_4, .int .u64 a0_5, .int .u64 a0_6, .bool a0_7] 30 (0, 0)) (by (with_reducible repeat (first | refine blk_drewN ?_ _ | refine blk_drew ?_ | refine blk_alloc ?_ _)); exact BK173.out)) : gb173 ≠ gb174)); have n6_ := Aside0.mk ((by rw [hg]; exact Nat.ne_of_gt (blk_lt (g := gb173) (o := .cells #[.slice A0_0 l0_0.length c0_0, .bool a0_1, .int .i64 a0_2, .int .i64 a0_3, .int .i64 a0_4, .int .u64 a0_5, .int .u64 a0_6, .bool a0_7] 30 (0, 0)) (by (with_reducible repeat (first | refine blk_drewN ?_ _ | refine blk_drew ?_ | refine blk_alloc ?_ _)); exact BK173.out)) : gb174 ≠ gb173)); clear BK173; clear HB; have BK173 := n0_; have HB := n1_; have BK174 := n2_; have GW174 := n3_; have GE174 := n4_; have NB173_174 := n5_; have NB174_173 := n6_; clear n0_ n1_ n2_ n3_ n4_ n5_ n6_; clear hb hbox hg; have hnb26 := NB173_174.out; have hnc26 := NB174_173.out; have hcz27_0 : w25.cell? ⟨gb173, 0, none⟩ = some (.slice A0_0 l0_0.length c0_0) := (blk_cell BK173.out 0).trans rfl; have hcz27_1 : w25.cell? ⟨gb173, 1, none⟩ = some (.bool a0_1) := (blk_cell BK173.out 1).trans rfl; have hcz27_2 : w25.cell? ⟨gb173, 2, none⟩ = some (.int .i64 a0_2) := (blk_cell BK173.out 2).trans rfl; have hcz27_3 : w25.cell? ⟨gb173, 3, none⟩ = some (.int .i64 a0_3) := (blk_cell BK173.out 3).trans rfl; have hcz27_4 : w25.cell? ⟨gb173, 4, none⟩ = some (.int .i64 a0_4) := (blk_cell BK173.out 4).trans rfl; have hcz27_5 : w25.cell? ⟨gb173, 5, none⟩ = some (.int .u64 a0_5) := (blk_cell BK173.out 5).trans rfl; have hcz27_6 : w25.cell? ⟨gb173, 6, none⟩ = some (.int .u64 a0_6) := (blk_cell BK173.out 6).trans rfl; have hcz27_7 : w25.cell? ⟨gb173, 7, none⟩ = some (.bool a0_7) := (blk_cell BK173.out 7).trans rfl; have hfz27_0 := blk_frozen BK173.out 0; have hfz27_1 := blk_frozen BK173.out 1; have hfz27_2 := blk_frozen BK173.out 2; have hfz27_3 := blk_frozen BK173.out 3; have hfz27_4 := blk_frozen BK173.out 4; have hfz27_5 := blk_frozen BK173.out 5; have hfz27_6 := blk_frozen BK173.out 6; have hfz27_7 := blk_frozen BK173.out 7; have hcz28_0 : w25.cell? ⟨gb174, 0, none⟩ = some (.slice A1_0 l1_0.length c1_0) := (blk_cell BK174.out 0).trans rfl; have hcz28_1 : w25.cell? ⟨gb174, 1, none⟩ = some (.bool a1_1) := (blk_cell BK174.out 1).trans rfl; have hcz28_2 : w25.cell? ⟨gb174, 2, none⟩ = some (.int .i64 a1_2) := (blk_cell BK174.out 2).trans rfl; have hcz28_3 : w25.cell? ⟨gb174, 3, none⟩ = some (.int .i64 a1_3) := (blk_cell BK174.out 3).trans rfl; have hcz28_4 : w25.cell? ⟨gb174, 4, none⟩ = some (.int .i64 a1_4) := (blk_cell BK174.out 4).trans rfl; have hcz28_5 : w25.cell? ⟨gb174, 5, none⟩ = some (.int .u64 a1_5) := (blk_cell BK174.out 5).trans rfl; have hcz28_6 : w25.cell? ⟨gb174, 6, none⟩ = some (.int .u64 a1_6) := (blk_cell BK174.out 6).trans rfl; have hcz28_7 : w25.cell? ⟨gb174, 7, none⟩ = some (.bool a1_7) := (blk_cell BK174.out 7).trans rfl; have hfz28_0 := blk_frozen BK174.out 0; have hfz28_1 := blk_frozen BK174.out 1; have hfz28_2 := blk_frozen BK174.out 2; have hfz28_3 := blk_frozen BK174.out 3; have hfz28_4 := blk_frozen BK174.out 4; have hfz28_5 := blk_frozen BK174.out 5; have hfz28_6 := blk_frozen BK174.out 6; have hfz28_7 := blk_frozen BK174.out 7) | ((with_reducible refine gate_callee (f := 75) rfl ?_); refine goesL_ (some 9) rfl rfl Tryz.func75 (by kernel_rfl) rfl #[.agg #[.slice A0_0 l0_0.length c0_0, .bool a0_1, .int .i64 a0_2, .int .i64 a0_3], .agg #[.slice A1_0 l1_0.length c1_0, .bool a1_1, .int .i64 a1_2, .int .i64 a1_3]] rfl (by (try simp only [List.map_toArray, List.map_cons, List.map_nil]); first | done | rfl | (simp only [List.length_drop, List.length_take]; rfl)) ?_; (with_reducible refine (penstockref09_Same.calls k _ _ l0_0 a0_1 a0_2 a0_3 _ _ l1_0 a1_1 a1_2 a1_3 true _ ?side1 ?side2 ?side3 ?side4 A3.out).mono ?_); (case side1 => repeat (first | exact (Kd.C_below HR0_0.out HB.out) | (with_reducible refine Kd.C_alloc ?_ _) | (with_reducible refine Kd.C_drewN ?_ _) | (with_reducible refine Kd.C_drew ?_))); (case side2 => exact HC0_0.out); (case side3 => repeat (first | exact (Kd.C_below HR1_0.out HB.out) | (with_reducible refine Kd.C_alloc ?_ _) | (with_reducible refine Kd.C_drewN ?_ _) | (with_reducible refine Kd.C_drew ?_))); (case side4 => exact HC1_0.out); rintro e w29 ⟨rfl, hb⟩; refine ⟨_, rfl, ?_⟩; have n0_ := Aside0.mk (blk_below (g := gb173) (o := .cells #[.slice A0_0 l0_0.length c0_0, .bool a0_1, .int .i64 a0_2, .int .i64 a0_3, .int .i64 a0_4, .int .u64 a0_5, .int .u64 a0_6, .bool a0_7] 30 (0, 0)) (by (with_reducible repeat (first | refine blk_drewN ?_ _ | refine blk_drew ?_ | refine blk_alloc ?_ _)); exact BK173.out) hb); have n1_ := Aside0.mk (blk_below (g := gb174) (o := .cells #[.slice A1_0 l1_0.length c1_0, .bool a1_1, .int .i64 a1_2, .int .i64 a1_3, .int .i64 a1_4, .int .u64 a1_5, .int .u64 a1_6, .bool a1_7] 30 (0, 0)) (by (with_reducible repeat (first | refine blk_drewN ?_ _ | refine blk_drew ?_ | refine blk_alloc ?_ _)); exact BK174.out) hb); have n2_ := Aside0.mk (below_step (by repeat (first | (with_reducible first | exact HB.out | apply below_alloc | apply pw_below_drewN | apply below_drew1 | refine below_set ?_ GE173.out | refine below_set ?_ GE174.out) | exact HB.out)) hb); clear BK173; clear BK174; clear HB; have BK173 := n0_; have BK174 := n1_; have HB := n2_; clear n0_ n1_ n2_; (try clear hb); (try clear hb2); (try clear hk); (try clear hi); have hcz30_0 : w29.cell? ⟨gb173, 0, none⟩ = some (.slice A0_0 l0_0.length c0_0) := (blk_cell BK173.out 0).trans rfl; have hcz30_1 : w29.cell? ⟨gb173, 1, none⟩ = some (.bool a0_1) := (blk_cell BK173.out 1).trans rfl; have hcz30_2 : w29.cell? ⟨gb173, 2, none⟩ = some (.int .i64 a0_2) := (blk_cell BK173.out 2).trans rfl; have hcz30_3 : w29.cell? ⟨gb173, 3, none⟩ = some (.int .i64 a0_3) := (blk_cell BK173.out 3).trans rfl; have hcz30_4 : w29.cell? ⟨gb173, 4, none⟩ = some (.int .i64 a0_4) := (blk_cell BK173.out 4).trans rfl; have hcz30_5 : w29.cell? ⟨gb173, 5, none⟩ = some (.int .u64 a0_5) := (blk_cell BK173.out 5).trans rfl; have hcz30_6 : w29.cell? ⟨gb173, 6, none⟩ = some (.int .u64 a0_6) := (blk_cell BK173.out 6).trans rfl; have hcz30_7 : w29.cell? ⟨gb173, 7, none⟩ = some (.bool a0_7) := (blk_cell BK173.out 7).trans rfl; have hfz30_0 := blk_frozen BK173.out 0; have hfz30_1 := blk_frozen BK173.out 1; have hfz30_2 := blk_frozen BK173.out 2; have hfz30_3 := blk_frozen BK173.out 3; have hfz30_4 := blk_frozen BK173.out 4; have hfz30_5 := blk_frozen BK173.out 5; have hfz30_6 := blk_frozen BK173.out 6; have hfz30_7 := blk_frozen BK173.out 7; have hcz31_0 : w29.cell? ⟨gb174, 0, none⟩ = some (.slice A1_0 l1_0.length c1_0) := (blk_cell BK174.out 0).trans rfl; have hcz31_1 : w29.cell? ⟨gb174, 1, none⟩ = some (.bool a1_1) := (blk_cell BK174.out 1).trans rfl; have hcz31_2 : w29.cell? ⟨gb174, 2, none⟩ = some (.int .i64 a1_2) := (blk_cell BK174.out 2).trans rfl; have hcz31_3 : w29.cell? ⟨gb174, 3, none⟩ = some (.int .i64 a1_3) := (blk_cell BK174.out 3).trans rfl; have hcz31_4 : w29.cell? ⟨gb174, 4, none⟩ = some (.int .i64 a1_4) := (blk_cell BK174.out 4).trans rfl; have hcz31_5 : w29.cell? ⟨gb174, 5, none⟩ = some (.int .u64 a1_5) := (blk_cell BK174.out 5).trans rfl; have hcz31_6 : w29.cell? ⟨gb174, 6, none⟩ = some (.int .u64 a1_6) := (blk_cell BK174.out 6).trans rfl; have hcz31_7 : w29.cell? ⟨gb174, 7, none⟩ = some (.bool a1_7) := (blk_cell BK174.out 7).trans rfl; have hfz31_0 := blk_frozen BK174.out 0; have hfz31_1 := blk_frozen BK174.out 1; have hfz31_2 := blk_frozen BK174.out 2; have hfz31_3 := blk_frozen BK174.out 3; have hfz31_4 := blk_frozen BK174.out 4; have hfz31_5 := blk_frozen BK174.out 5; have hfz31_6 := blk_frozen BK174.out 6; have hfz31_7 := blk_frozen BK174.out 7))
        go_ret
        exact ⟨by first | rfl | (simp [errW_none, errW_some] <;> rfl) | (simp [*, errW_none, errW_some] <;> rfl), by repeat (first | (with_reducible first | exact HB.out | apply below_alloc | apply pw_below_drewN | apply below_drew1 | refine below_set ?_ GE173.out | refine below_set ?_ GE174.out) | exact HB.out)⟩
    · rw [if_neg c5] at H
      have c5b0 : (a0_4 == a1_4) = false := beq_eq_false_iff_ne.mpr c5
      have c5b1 : (a0_4 != a1_4) = true := bne_iff_ne.mpr c5
      obtain rfl := Option.some.inj H
      go_enter Tryz.func28, Tryz.ntmps28
      go_wp2_with (first | ((with_reducible refine gate_dst (N := 2) rfl ?_); refine box_event ?hg (N := 2) ?hd (cs := #[.slice A0_0 l0_0.length c0_0, .bool a0_1, .int .i64 a0_2, .int .i64 a0_3, .int .i64 a0_4, .int .u64 a0_5, .int .u64 a0_6, .bool a0_7]) (t := 30) ?hr ?_; (case hd => rfl); (case hg => rfl); (case hr => first | (go_simp; done) | (go_simp; rfl)); intro gb173 hg w32 hbox hb; have n0_ := Aside0.mk (below_step (by repeat (first | (with_reducible first | exact HB.out | apply below_alloc | apply pw_below_drewN | apply below_drew1) | exact HB.out)) hb); have n1_ := Aside0.mk (hbox); have n2_ := Aside0.mk ((by rw [hg]; exact (below_size (by repeat (first | (with_reducible first | exact HB.out | apply below_alloc | apply pw_below_drewN | apply below_drew1) | exact HB.out))) : w.heap.size ≤ gb173)); have n3_ := Aside0.mk ((by rw [hg]; exact (below_size (by repeat (first | (with_reducible first | exact HB.out | apply below_alloc | apply pw_below_drewN | apply below_drew1) | exact HB.out))) : w.heap.size ≤ gb173)); clear HB; have HB := n0_; have BK173 := n1_; have GW173 := n2_; have GE173 := n3_; clear n0_ n1_ n2_ n3_; clear hb hbox hg) | ((with_reducible refine gate_dst (N := 3) rfl ?_); refine box_event ?hg (N := 3) ?hd (cs := #[.slice A1_0 l1_0.length c1_0, .bool a1_1, .int .i64 a1_2, .int .i64 a1_3, .int .i64 a1_4, .int .u64 a1_5, .int .u64 a1_6, .bool a1_7]) (t := 30) ?hr ?_; (case hd => rfl); (case hg => rfl); (case hr => first | (go_simp; done) | (go_simp; rfl)); intro gb174 hg w33 hbox hb; have n0_ := Aside0.mk (blk_below (g := gb173) (o := .cells #[.slice A0_0 l0_0.length c0_0, .bool a0_1, .int .i64 a0_2, .int .i64 a0_3, .int .i64 a0_4, .int .u64 a0_5, .int .u64 a0_6, .bool a0_7] 30 (0, 0)) (by (with_reducible repeat (first | refine blk_drewN ?_ _ | refine blk_drew ?_ | refine blk_alloc ?_ _)); exact BK173.out) hb); have n1_ := Aside0.mk (below_step (by repeat (first | (with_reducible first | exact HB.out | apply below_alloc | apply pw_below_drewN | apply below_drew1 | refine below_set ?_ GE173.out) | exact HB.out)) hb); have n2_ := Aside0.mk (hbox); have n3_ := Aside0.mk ((by rw [hg]; exact (below_size (by repeat (first | (with_reducible first | exact HB.out | apply below_alloc | apply pw_below_drewN | apply below_drew1 | refine below_set ?_ GE173.out) | exact HB.out))) : w.heap.size ≤ gb174)); have n4_ := Aside0.mk ((by rw [hg]; exact (below_size (by repeat (first | (with_reducible first | exact HB.out | apply below_alloc | apply pw_below_drewN | apply below_drew1 | refine below_set ?_ GE173.out) | exact HB.out))) : w.heap.size ≤ gb174)); have n5_ := Aside0.mk ((by rw [hg]; exact Nat.ne_of_lt (blk_lt (g := gb173) (o := .cells #[.slice A0_0 l0_0.length c0_0, .bool a0_1, .int .i64 a0_2, .int .i64 a0_3, .int .i64 a0_4, .int .u64 a0_5, .int .u64 a0_6, .bool a0_7] 30 (0, 0)) (by (with_reducible repeat (first | refine blk_drewN ?_ _ | refine blk_drew ?_ | refine blk_alloc ?_ _)); exact BK173.out)) : gb173 ≠ gb174)); have n6_ := Aside0.mk ((by rw [hg]; exact Nat.ne_of_gt (blk_lt (g := gb173) (o := .cells #[.slice A0_0 l0_0.length c0_0, .bool a0_1, .int .i64 a0_2, .int .i64 a0_3, .int .i64 a0_4, .int .u64 a0_5, .int .u64 a0_6, .bool a0_7] 30 (0, 0)) (by (with_reducible repeat (first | refine blk_drewN ?_ _ | refine blk_drew ?_ | refine blk_alloc ?_ _)); exact BK173.out)) : gb174 ≠ gb173)); clear BK173; clear HB; have BK173 := n0_; have HB := n1_; have BK174 := n2_; have GW174 := n3_; have GE174 := n4_; have NB173_174 := n5_; have NB174_173 := n6_; clear n0_ n1_ n2_ n3_ n4_ n5_ n6_; clear hb hbox hg; have hnb34 := NB173_174.out; have hnc34 := NB174_173.out; have hcz35_0 : w33.cell? ⟨gb173, 0, none⟩ = some (.slice A0_0 l0_0.length c0_0) := (blk_cell BK173.out 0).trans rfl; have hcz35_1 : w33.cell? ⟨gb173, 1, none⟩ = some (.bool a0_1) := (blk_cell BK173.out 1).trans rfl; have hcz35_2 : w33.cell? ⟨gb173, 2, none⟩ = some (.int .i64 a0_2) := (blk_cell BK173.out 2).trans rfl; have hcz35_3 : w33.cell? ⟨gb173, 3, none⟩ = some (.int .i64 a0_3) := (blk_cell BK173.out 3).trans rfl; have hcz35_4 : w33.cell? ⟨gb173, 4, none⟩ = some (.int .i64 a0_4) := (blk_cell BK173.out 4).trans rfl; have hcz35_5 : w33.cell? ⟨gb173, 5, none⟩ = some (.int .u64 a0_5) := (blk_cell BK173.out 5).trans rfl; have hcz35_6 : w33.cell? ⟨gb173, 6, none⟩ = some (.int .u64 a0_6) := (blk_cell BK173.out 6).trans rfl; have hcz35_7 : w33.cell? ⟨gb173, 7, none⟩ = some (.bool a0_7) := (blk_cell BK173.out 7).trans rfl; have hfz35_0 := blk_frozen BK173.out 0; have hfz35_1 := blk_frozen BK173.out 1; have hfz35_2 := blk_frozen BK173.out 2; have hfz35_3 := blk_frozen BK173.out 3; have hfz35_4 := blk_frozen BK173.out 4; have hfz35_5 := blk_frozen BK173.out 5; have hfz35_6 := blk_frozen BK173.out 6; have hfz35_7 := blk_frozen BK173.out 7; have hcz36_0 : w33.cell? ⟨gb174, 0, none⟩ = some (.slice A1_0 l1_0.length c1_0) := (blk_cell BK174.out 0).trans rfl; have hcz36_1 : w33.cell? ⟨gb174, 1, none⟩ = some (.bool a1_1) := (blk_cell BK174.out 1).trans rfl; have hcz36_2 : w33.cell? ⟨gb174, 2, none⟩ = some (.int .i64 a1_2) := (blk_cell BK174.out 2).trans rfl; have hcz36_3 : w33.cell? ⟨gb174, 3, none⟩ = some (.int .i64 a1_3) := (blk_cell BK174.out 3).trans rfl; have hcz36_4 : w33.cell? ⟨gb174, 4, none⟩ = some (.int .i64 a1_4) := (blk_cell BK174.out 4).trans rfl; have hcz36_5 : w33.cell? ⟨gb174, 5, none⟩ = some (.int .u64 a1_5) := (blk_cell BK174.out 5).trans rfl; have hcz36_6 : w33.cell? ⟨gb174, 6, none⟩ = some (.int .u64 a1_6) := (blk_cell BK174.out 6).trans rfl; have hcz36_7 : w33.cell? ⟨gb174, 7, none⟩ = some (.bool a1_7) := (blk_cell BK174.out 7).trans rfl; have hfz36_0 := blk_frozen BK174.out 0; have hfz36_1 := blk_frozen BK174.out 1; have hfz36_2 := blk_frozen BK174.out 2; have hfz36_3 := blk_frozen BK174.out 3; have hfz36_4 := blk_frozen BK174.out 4; have hfz36_5 := blk_frozen BK174.out 5; have hfz36_6 := blk_frozen BK174.out 6; have hfz36_7 := blk_frozen BK174.out 7) | ((with_reducible refine gate_callee (f := 75) rfl ?_); refine goesL_ (some 9) rfl rfl Tryz.func75 (by kernel_rfl) rfl #[.agg #[.slice A0_0 l0_0.length c0_0, .bool a0_1, .int .i64 a0_2, .int .i64 a0_3], .agg #[.slice A1_0 l1_0.length c1_0, .bool a1_1, .int .i64 a1_2, .int .i64 a1_3]] rfl (by (try simp only [List.map_toArray, List.map_cons, List.map_nil]); first | done | rfl | (simp only [List.length_drop, List.length_take]; rfl)) ?_; (with_reducible refine (penstockref09_Same.calls k _ _ l0_0 a0_1 a0_2 a0_3 _ _ l1_0 a1_1 a1_2 a1_3 true _ ?side1 ?side2 ?side3 ?side4 A3.out).mono ?_); (case side1 => repeat (first | exact (Kd.C_below HR0_0.out HB.out) | (with_reducible refine Kd.C_alloc ?_ _) | (with_reducible refine Kd.C_drewN ?_ _) | (with_reducible refine Kd.C_drew ?_))); (case side2 => exact HC0_0.out); (case side3 => repeat (first | exact (Kd.C_below HR1_0.out HB.out) | (with_reducible refine Kd.C_alloc ?_ _) | (with_reducible refine Kd.C_drewN ?_ _) | (with_reducible refine Kd.C_drew ?_))); (case side4 => exact HC1_0.out); rintro e w37 ⟨rfl, hb⟩; refine ⟨_, rfl, ?_⟩; have n0_ := Aside0.mk (blk_below (g := gb173) (o := .cells #[.slice A0_0 l0_0.length c0_0, .bool a0_1, .int .i64 a0_2, .int .i64 a0_3, .int .i64 a0_4, .int .u64 a0_5, .int .u64 a0_6, .bool a0_7] 30 (0, 0)) (by (with_reducible repeat (first | refine blk_drewN ?_ _ | refine blk_drew ?_ | refine blk_alloc ?_ _)); exact BK173.out) hb); have n1_ := Aside0.mk (blk_below (g := gb174) (o := .cells #[.slice A1_0 l1_0.length c1_0, .bool a1_1, .int .i64 a1_2, .int .i64 a1_3, .int .i64 a1_4, .int .u64 a1_5, .int .u64 a1_6, .bool a1_7] 30 (0, 0)) (by (with_reducible repeat (first | refine blk_drewN ?_ _ | refine blk_drew ?_ | refine blk_alloc ?_ _)); exact BK174.out) hb); have n2_ := Aside0.mk (below_step (by repeat (first | (with_reducible first | exact HB.out | apply below_alloc | apply pw_below_drewN | apply below_drew1 | refine below_set ?_ GE173.out | refine below_set ?_ GE174.out) | exact HB.out)) hb); clear BK173; clear BK174; clear HB; have BK173 := n0_; have BK174 := n1_; have HB := n2_; clear n0_ n1_ n2_; (try clear hb); (try clear hb2); (try clear hk); (try clear hi); have hcz38_0 : w37.cell? ⟨gb173, 0, none⟩ = some (.slice A0_0 l0_0.length c0_0) := (blk_cell BK173.out 0).trans rfl; have hcz38_1 : w37.cell? ⟨gb173, 1, none⟩ = some (.bool a0_1) := (blk_cell BK173.out 1).trans rfl; have hcz38_2 : w37.cell? ⟨gb173, 2, none⟩ = some (.int .i64 a0_2) := (blk_cell BK173.out 2).trans rfl; have hcz38_3 : w37.cell? ⟨gb173, 3, none⟩ = some (.int .i64 a0_3) := (blk_cell BK173.out 3).trans rfl; have hcz38_4 : w37.cell? ⟨gb173, 4, none⟩ = some (.int .i64 a0_4) := (blk_cell BK173.out 4).trans rfl; have hcz38_5 : w37.cell? ⟨gb173, 5, none⟩ = some (.int .u64 a0_5) := (blk_cell BK173.out 5).trans rfl; have hcz38_6 : w37.cell? ⟨gb173, 6, none⟩ = some (.int .u64 a0_6) := (blk_cell BK173.out 6).trans rfl; have hcz38_7 : w37.cell? ⟨gb173, 7, none⟩ = some (.bool a0_7) := (blk_cell BK173.out 7).trans rfl; have hfz38_0 := blk_frozen BK173.out 0; have hfz38_1 := blk_frozen BK173.out 1; have hfz38_2 := blk_frozen BK173.out 2; have hfz38_3 := blk_frozen BK173.out 3; have hfz38_4 := blk_frozen BK173.out 4; have hfz38_5 := blk_frozen BK173.out 5; have hfz38_6 := blk_frozen BK173.out 6; have hfz38_7 := blk_frozen BK173.out 7; have hcz39_0 : w37.cell? ⟨gb174, 0, none⟩ = some (.slice A1_0 l1_0.length c1_0) := (blk_cell BK174.out 0).trans rfl; have hcz39_1 : w37.cell? ⟨gb174, 1, none⟩ = some (.bool a1_1) := (blk_cell BK174.out 1).trans rfl; have hcz39_2 : w37.cell? ⟨gb174, 2, none⟩ = some (.int .i64 a1_2) := (blk_cell BK174.out 2).trans rfl; have hcz39_3 : w37.cell? ⟨gb174, 3, none⟩ = some (.int .i64 a1_3) := (blk_cell BK174.out 3).trans rfl; have hcz39_4 : w37.cell? ⟨gb174, 4, none⟩ = some (.int .i64 a1_4) := (blk_cell BK174.out 4).trans rfl; have hcz39_5 : w37.cell? ⟨gb174, 5, none⟩ = some (.int .u64 a1_5) := (blk_cell BK174.out 5).trans rfl; have hcz39_6 : w37.cell? ⟨gb174, 6, none⟩ = some (.int .u64 a1_6) := (blk_cell BK174.out 6).trans rfl; have hcz39_7 : w37.cell? ⟨gb174, 7, none⟩ = some (.bool a1_7) := (blk_cell BK174.out 7).trans rfl; have hfz39_0 := blk_frozen BK174.out 0; have hfz39_1 := blk_frozen BK174.out 1; have hfz39_2 := blk_frozen BK174.out 2; have hfz39_3 := blk_frozen BK174.out 3; have hfz39_4 := blk_frozen BK174.out 4; have hfz39_5 := blk_frozen BK174.out 5; have hfz39_6 := blk_frozen BK174.out 6; have hfz39_7 := blk_frozen BK174.out 7))
      go_ret
      exact ⟨by first | rfl | (simp [errW_none, errW_some] <;> rfl) | (simp [*, errW_none, errW_some] <;> rfl), by repeat (first | (with_reducible first | exact HB.out | apply below_alloc | apply pw_below_drewN | apply below_drew1 | refine below_set ?_ GE173.out | refine below_set ?_ GE174.out) | exact HB.out)⟩
  · replace c4 := Bool.eq_false_iff.mpr c4
    subst c4
    have H1 : (some false) = some r := by rw [if_neg (show ¬ (false = true) by decide)] at H; exact H
    clear H
    have H := H1
    clear H1
    obtain rfl := Option.some.inj H
    go_enter Tryz.func28, Tryz.ntmps28
    go_wp2_with (first | ((with_reducible refine gate_dst (N := 2) rfl ?_); refine box_event ?hg (N := 2) ?hd (cs := #[.slice A0_0 l0_0.length c0_0, .bool a0_1, .int .i64 a0_2, .int .i64 a0_3, .int .i64 a0_4, .int .u64 a0_5, .int .u64 a0_6, .bool a0_7]) (t := 30) ?hr ?_; (case hd => rfl); (case hg => rfl); (case hr => first | (go_simp; done) | (go_simp; rfl)); intro gb173 hg w40 hbox hb; have n0_ := Aside0.mk (below_step (by repeat (first | (with_reducible first | exact HB.out | apply below_alloc | apply pw_below_drewN | apply below_drew1) | exact HB.out)) hb); have n1_ := Aside0.mk (hbox); have n2_ := Aside0.mk ((by rw [hg]; exact (below_size (by repeat (first | (with_reducible first | exact HB.out | apply below_alloc | apply pw_below_drewN | apply below_drew1) | exact HB.out))) : w.heap.size ≤ gb173)); have n3_ := Aside0.mk ((by rw [hg]; exact (below_size (by repeat (first | (with_reducible first | exact HB.out | apply below_alloc | apply pw_below_drewN | apply below_drew1) | exact HB.out))) : w.heap.size ≤ gb173)); clear HB; have HB := n0_; have BK173 := n1_; have GW173 := n2_; have GE173 := n3_; clear n0_ n1_ n2_ n3_; clear hb hbox hg) | ((with_reducible refine gate_dst (N := 3) rfl ?_); refine box_event ?hg (N := 3) ?hd (cs := #[.slice A1_0 l1_0.length c1_0, .bool a1_1, .int .i64 a1_2, .int .i64 a1_3, .int .i64 a1_4, .int .u64 a1_5, .int .u64 a1_6, .bool a1_7]) (t := 30) ?hr ?_; (case hd => rfl); (case hg => rfl); (case hr => first | (go_simp; done) | (go_simp; rfl)); intro gb174 hg w41 hbox hb; have n0_ := Aside0.mk (blk_below (g := gb173) (o := .cells #[.slice A0_0 l0_0.length c0_0, .bool a0_1, .int .i64 a0_2, .int .i64 a0_3, .int .i64 a0_4, .int .u64 a0_5, .int .u64 a0_6, .bool a0_7] 30 (0, 0)) (by (with_reducible repeat (first | refine blk_drewN ?_ _ | refine blk_drew ?_ | refine blk_alloc ?_ _)); exact BK173.out) hb); have n1_ := Aside0.mk (below_step (by repeat (first | (with_reducible first | exact HB.out | apply below_alloc | apply pw_below_drewN | apply below_drew1 | refine below_set ?_ GE173.out) | exact HB.out)) hb); have n2_ := Aside0.mk (hbox); have n3_ := Aside0.mk ((by rw [hg]; exact (below_size (by repeat (first | (with_reducible first | exact HB.out | apply below_alloc | apply pw_below_drewN | apply below_drew1 | refine below_set ?_ GE173.out) | exact HB.out))) : w.heap.size ≤ gb174)); have n4_ := Aside0.mk ((by rw [hg]; exact (below_size (by repeat (first | (with_reducible first | exact HB.out | apply below_alloc | apply pw_below_drewN | apply below_drew1 | refine below_set ?_ GE173.out) | exact HB.out))) : w.heap.size ≤ gb174)); have n5_ := Aside0.mk ((by rw [hg]; exact Nat.ne_of_lt (blk_lt (g := gb173) (o := .cells #[.slice A0_0 l0_0.length c0_0, .bool a0_1, .int .i64 a0_2, .int .i64 a0_3, .int .i64 a0_4, .int .u64 a0_5, .int .u64 a0_6, .bool a0_7] 30 (0, 0)) (by (with_reducible repeat (first | refine blk_drewN ?_ _ | refine blk_drew ?_ | refine blk_alloc ?_ _)); exact BK173.out)) : gb173 ≠ gb174)); have n6_ := Aside0.mk ((by rw [hg]; exact Nat.ne_of_gt (blk_lt (g := gb173) (o := .cells #[.slice A0_0 l0_0.length c0_0, .bool a0_1, .int .i64 a0_2, .int .i64 a0_3, .int .i64 a0_4, .int .u64 a0_5, .int .u64 a0_6, .bool a0_7] 30 (0, 0)) (by (with_reducible repeat (first | refine blk_drewN ?_ _ | refine blk_drew ?_ | refine blk_alloc ?_ _)); exact BK173.out)) : gb174 ≠ gb173)); clear BK173; clear HB; have BK173 := n0_; have HB := n1_; have BK174 := n2_; have GW174 := n3_; have GE174 := n4_; have NB173_174 := n5_; have NB174_173 := n6_; clear n0_ n1_ n2_ n3_ n4_ n5_ n6_; clear hb hbox hg; have hnb42 := NB173_174.out; have hnc42 := NB174_173.out; have hcz43_0 : w41.cell? ⟨gb173, 0, none⟩ = some (.slice A0_0 l0_0.length c0_0) := (blk_cell BK173.out 0).trans rfl; have hcz43_1 : w41.cell? ⟨gb173, 1, none⟩ = some (.bool a0_1) := (blk_cell BK173.out 1).trans rfl; have hcz43_2 : w41.cell? ⟨gb173, 2, none⟩ = some (.int .i64 a0_2) := (blk_cell BK173.out 2).trans rfl; have hcz43_3 : w41.cell? ⟨gb173, 3, none⟩ = some (.int .i64 a0_3) := (blk_cell BK173.out 3).trans rfl; have hcz43_4 : w41.cell? ⟨gb173, 4, none⟩ = some (.int .i64 a0_4) := (blk_cell BK173.out 4).trans rfl; have hcz43_5 : w41.cell? ⟨gb173, 5, none⟩ = some (.int .u64 a0_5) := (blk_cell BK173.out 5).trans rfl; have hcz43_6 : w41.cell? ⟨gb173, 6, none⟩ = some (.int .u64 a0_6) := (blk_cell BK173.out 6).trans rfl; have hcz43_7 : w41.cell? ⟨gb173, 7, none⟩ = some (.bool a0_7) := (blk_cell BK173.out 7).trans rfl; have hfz43_0 := blk_frozen BK173.out 0; have hfz43_1 := blk_frozen BK173.out 1; have hfz43_2 := blk_frozen BK173.out 2; have hfz43_3 := blk_frozen BK173.out 3; have hfz43_4 := blk_frozen BK173.out 4; have hfz43_5 := blk_frozen BK173.out 5; have hfz43_6 := blk_frozen BK173.out 6; have hfz43_7 := blk_frozen BK173.out 7; have hcz44_0 : w41.cell? ⟨gb174, 0, none⟩ = some (.slice A1_0 l1_0.length c1_0) := (blk_cell BK174.out 0).trans rfl; have hcz44_1 : w41.cell? ⟨gb174, 1, none⟩ = some (.bool a1_1) := (blk_cell BK174.out 1).trans rfl; have hcz44_2 : w41.cell? ⟨gb174, 2, none⟩ = some (.int .i64 a1_2) := (blk_cell BK174.out 2).trans rfl; have hcz44_3 : w41.cell? ⟨gb174, 3, none⟩ = some (.int .i64 a1_3) := (blk_cell BK174.out 3).trans rfl; have hcz44_4 : w41.cell? ⟨gb174, 4, none⟩ = some (.int .i64 a1_4) := (blk_cell BK174.out 4).trans rfl; have hcz44_5 : w41.cell? ⟨gb174, 5, none⟩ = some (.int .u64 a1_5) := (blk_cell BK174.out 5).trans rfl; have hcz44_6 : w41.cell? ⟨gb174, 6, none⟩ = some (.int .u64 a1_6) := (blk_cell BK174.out 6).trans rfl; have hcz44_7 : w41.cell? ⟨gb174, 7, none⟩ = some (.bool a1_7) := (blk_cell BK174.out 7).trans rfl; have hfz44_0 := blk_frozen BK174.out 0; have hfz44_1 := blk_frozen BK174.out 1; have hfz44_2 := blk_frozen BK174.out 2; have hfz44_3 := blk_frozen BK174.out 3; have hfz44_4 := blk_frozen BK174.out 4; have hfz44_5 := blk_frozen BK174.out 5; have hfz44_6 := blk_frozen BK174.out 6; have hfz44_7 := blk_frozen BK174.out 7) | ((with_reducible refine gate_callee (f := 75) rfl ?_); refine goesL_ (some 9) rfl rfl Tryz.func75 (by kernel_rfl) rfl #[.agg #[.slice A0_0 l0_0.length c0_0, .bool a0_1, .int .i64 a0_2, .int .i64 a0_3], .agg #[.slice A1_0 l1_0.length c1_0, .bool a1_1, .int .i64 a1_2, .int .i64 a1_3]] rfl (by (try simp only [List.map_toArray, List.map_cons, List.map_nil]); first | done | rfl | (simp only [List.length_drop, List.length_take]; rfl)) ?_; (with_reducible refine (penstockref09_Same.calls k _ _ l0_0 a0_1 a0_2 a0_3 _ _ l1_0 a1_1 a1_2 a1_3 false _ ?side1 ?side2 ?side3 ?side4 A3.out).mono ?_); (case side1 => repeat (first | exact (Kd.C_below HR0_0.out HB.out) | (with_reducible refine Kd.C_alloc ?_ _) | (with_reducible refine Kd.C_drewN ?_ _) | (with_reducible refine Kd.C_drew ?_))); (case side2 => exact HC0_0.out); (case side3 => repeat (first | exact (Kd.C_below HR1_0.out HB.out) | (with_reducible refine Kd.C_alloc ?_ _) | (with_reducible refine Kd.C_drewN ?_ _) | (with_reducible refine Kd.C_drew ?_))); (case side4 => exact HC1_0.out); rintro e w45 ⟨rfl, hb⟩; refine ⟨_, rfl, ?_⟩; have n0_ := Aside0.mk (blk_below (g := gb173) (o := .cells #[.slice A0_0 l0_0.length c0_0, .bool a0_1, .int .i64 a0_2, .int .i64 a0_3, .int .i64 a0_4, .int .u64 a0_5, .int .u64 a0_6, .bool a0_7] 30 (0, 0)) (by (with_reducible repeat (first | refine blk_drewN ?_ _ | refine blk_drew ?_ | refine blk_alloc ?_ _)); exact BK173.out) hb); have n1_ := Aside0.mk (blk_below (g := gb174) (o := .cells #[.slice A1_0 l1_0.length c1_0, .bool a1_1, .int .i64 a1_2, .int .i64 a1_3, .int .i64 a1_4, .int .u64 a1_5, .int .u64 a1_6, .bool a1_7] 30 (0, 0)) (by (with_reducible repeat (first | refine blk_drewN ?_ _ | refine blk_drew ?_ | refine blk_alloc ?_ _)); exact BK174.out) hb); have n2_ := Aside0.mk (below_step (by repeat (first | (with_reducible first | exact HB.out | apply below_alloc | apply pw_below_drewN | apply below_drew1 | refine below_set ?_ GE173.out | refine below_set ?_ GE174.out) | exact HB.out)) hb); clear BK173; clear BK174; clear HB; have BK173 := n0_; have BK174 := n1_; have HB := n2_; clear n0_ n1_ n2_; (try clear hb); (try clear hb2); (try clear hk); (try clear hi)))
    go_ret
    exact ⟨by first | rfl | (simp [errW_none, errW_some] <;> rfl) | (simp [*, errW_none, errW_some] <;> rfl), by repeat (first | (with_reducible first | exact HB.out | apply below_alloc | apply pw_below_drewN | apply below_drew1 | refine below_set ?_ GE173.out | refine below_set ?_ GE174.out) | exact HB.out)⟩
end Go.Proofs.YtanonhipicoigaaGreatDoor.U
namespace Go.Proofs.YtanonhipicoigaaGreatDoor.U
open Go.RowKit Go.Proofs.YtanonhipicoigaaGreatDoorW.PrintWords Go.Proofs.YtanonhipicoigaaGreatDoorW.PrintLast Go.Proofs.YtanonhipicoigaaGreatDoorW.PrintMore
attribute [local go_sem] max2_int min2_int max_two min_two max_three min_three max_four min_four   -- for this text's walks alone
set_option linter.unusedVariables false
set_option linter.unusedSimpArgs false
theorem eqA62 (d : Nat) (w : World) (x0 y0 : Int) (x1 y1 : ByteArray) :
    (Op.equalIn (d + 2) 62 (.agg #[.int .u64 x0, .string x1]) (.agg #[.int .u64 y0, .string y1])).run Tryz.prog w = .ok (x0 == y0 && (x1.toList == y1.toList)) w := by
  refine eqA_of Tryz.underlying62 (by kernel_rfl) ?_
  refine eqf_cons (by rfl) (by go_simp; rfl) (by go_simp; rfl) (by go_simp) ?_
  exact eqf_last (by rfl) (by go_simp; rfl) (by go_simp; rfl) (by go_simp)
end Go.Proofs.YtanonhipicoigaaGreatDoor.U
namespace Go.Proofs.YtanonhipicoigaaGreatDoor.U
open Go.RowKit Go.Proofs.YtanonhipicoigaaGreatDoorW.PrintWords Go.Proofs.YtanonhipicoigaaGreatDoorW.PrintLast Go.Proofs.YtanonhipicoigaaGreatDoorW.PrintMore
attribute [local go_sem] max2_int min2_int max_two min_two max_three min_three max_four min_four   -- for this text's walks alone
set_option linter.unusedVariables false
set_option linter.unusedSimpArgs false
attribute [local go_sem high] eqA62
/-! ### penstockref10_SameRecords: function 29 -/
def penstockref10_SameRecords.l0 : Nat → List (S62) → List (S62) → Int → Int → Option (Bool)
  | 0, _, _, _, _ => none
  | k + 1, x0, x1, x12, x13 => if x13 < x12 then (if 0 ≤ x13 then (if x13 < (x0.length : Int) then (if x13 < (x1.length : Int) then (if (!(((rd_T62 x0 x13).f0) == ((rd_T62 x1 x13).f0)) || (!((((rd_T62 x0 x13).f1).toList) == (((rd_T62 x1 x13).f1).toList)))) = true then (some false) else (penstockref10_SameRecords.l0 k x0 x1 x12 (wrap64 (x13 + 1)))) else (none)) else (none)) else (none)) else (some true)
def penstockref10_SameRecords.f (k : Nat) (l0 : List (S62)) (l1 : List (S62)) : Option (Bool) := if (l0.length : Int) = (l1.length : Int) then (penstockref10_SameRecords.l0 k l0 l1 (l0.length : Int) 0) else (some false)
theorem penstockref10_SameRecords.mono_l : ∀ k, (∀ y0 y1 y2 y3, LeO (penstockref10_SameRecords.l0 k y0 y1 y2 y3) (penstockref10_SameRecords.l0 (k + 1) y0 y1 y2 y3))
  | 0 => fun _ _ _ _ r h => by simp [penstockref10_SameRecords.l0] at h
  | k + 1 => by
    have ih0 := penstockref10_SameRecords.mono_l k
    · intro y0 y1 y2 y3
      unfold penstockref10_SameRecords.l0
      repeat' first
      | (with_reducible exact ih0 _ _ _ _)
      | (with_reducible exact LeO.refl _)
      | (with_reducible exact LeO.none _)
      | (with_reducible refine LeO.ite ?_ ?_)
      | (with_reducible refine LeO.bind ?_ (fun _ => ?_))
      | exact ih0 _ _ _ _
      | exact LeO.none _
      | refine LeO.ite ?_ ?_
      | refine LeO.bind ?_ (fun _ => ?_)
theorem penstockref10_SameRecords.mono : ∀ a0 a1 k, LeO (penstockref10_SameRecords.f k a0 a1) (penstockref10_SameRecords.f (k + 1) a0 a1) := by
  intro a0 a1 k
  have ih0 := penstockref10_SameRecords.mono_l k
  unfold penstockref10_SameRecords.f
  repeat' first
      | (with_reducible exact ih0 _ _ _ _)
      | (with_reducible exact LeO.refl _)
      | (with_reducible exact LeO.none _)
      | (with_reducible refine LeO.ite ?_ ?_)
      | (with_reducible refine LeO.bind ?_ (fun _ => ?_))
      | exact ih0 _ _ _ _
      | exact LeO.none _
      | refine LeO.ite ?_ ?_
      | refine LeO.bind ?_ (fun _ => ?_)
set_option maxHeartbeats 8000000 in
set_option maxRecDepth 100000 in
theorem penstockref10_SameRecords.calls (k : Nat) (A0 : Option Addr) (c0 : Nat) (l0 : List (S62)) (A1 : Option Addr) (c1 : Nat) (l1 : List (S62)) (r : Bool) (w : World) (hr0 : Kd.C k62 w A0 l0.length l0) (hc0 : l0.length ≤ c0) (hr1 : Kd.C k62 w A1 l1.length l1) (hc1 : l1.length ≤ c1) (h : penstockref10_SameRecords.f k l0 l1 = some r) :
    Calls Tryz.prog 29 #[.slice A0 l0.length c0, .slice A1 l1.length c1] w fun e w' => e = .returned (.bool r) ∧ Drawn0 w w' := by
  have hu62 := Tryz.underlying62
  have HR0 := Aside0.mk hr0
  have HC0 := Aside0.mk hc0
  clear hr0 hc0
  have HR1 := Aside0.mk hr1
  have HC1 := Aside0.mk hc1
  clear hr1 hc1
  have H : (if (l0.length : Int) = (l1.length : Int) then (penstockref10_SameRecords.l0 k l0 l1 (l0.length : Int) 0) else (some false)) = some r := h
  clear h
  by_cases c3 : (l0.length : Int) = (l1.length : Int)
  · rw [if_pos c3] at H
    have c3b0 : ((l0.length : Int) == (l1.length : Int)) = true := beq_iff_eq.mpr c3
    have c3b1 : ((l0.length : Int) != (l1.length : Int)) = false := bne_eq_false_iff_eq.mpr c3
    have c3b2 : (l0.length == l1.length) = true := by first | simpa using c3 | (simp at c3 ⊢; omega)
    clear c3
    have H' := Aside0.mk H
    clear H
    go_enter Tryz.func29, Tryz.ntmps29
    go_wp2
    repeat (go_quiet (fail); try go_wp2)
    go_loopg [13] k (fun kq v13 w' => ∃ (x13_1 : Int), v13 = .int .i64 x13_1 ∧ Aside0 (penstockref10_SameRecords.l0 kq l0 l1 (l0.length : Int) x13_1 = some r) ∧ Aside0 (kq ≤ k) ∧ Drawn0 w w')
    case atStart => exact ⟨(0), (by first | rfl | (simp; done) | (simp [*]; done)), H', ⟨Nat.le_refl _⟩, by repeat (first | exact Drawn0.refl _ | apply Drawn0.step)⟩
    case round =>
      clear H'
      try clear c1
      try clear c2
      try clear p2
      try clear c3
      try clear c3b0
      try clear c3b1
      try clear c3b2
      obtain ⟨x13_1, rfl, HA, HK1, ⟨m1, rfl⟩⟩ := hrel
      cases gk with
      | zero => exact absurd HA.out (by simp [penstockref10_SameRecords.l0])
      | succ k1 =>
        have H := HA.out
        clear HA
        simp only [penstockref10_SameRecords.l0] at H
        by_cases c4 : x13_1 < (l0.length : Int)
        · rw [if_pos c4] at H
          have c4b0 : decide (x13_1 < (l0.length : Int)) = true := decide_eq_true c4
          clear c4
          by_cases c5 : 0 ≤ x13_1
          · rw [if_pos c5] at H
            have c5b0 : decide (0 ≤ x13_1) = true := decide_eq_true c5
            clear c5
            by_cases c6 : x13_1 < (l0.length : Int)
            · rw [if_pos c6] at H
              have c6b0 : decide (x13_1 < (l0.length : Int)) = true := decide_eq_true c6
              clear c6
              by_cases c7 : x13_1 < (l1.length : Int)
              · rw [if_pos c7] at H
                have c7b0 : decide (x13_1 < (l1.length : Int)) = true := decide_eq_true c7
                clear c7
                by_cases c8 : (!(((rd_T62 l0 x13_1).f0) == ((rd_T62 l1 x13_1).f0)) || (!((((rd_T62 l0 x13_1).f1).toList) == (((rd_T62 l1 x13_1).f1).toList)))) = true
                · rw [if_pos c8] at H
                  have c8b0 : (!(((rd_T62 l0 x13_1).f0) == ((rd_T62 l1 x13_1).f0)) || (!((((rd_T62 l0 x13_1).f1).toList) == (((rd_T62 l1 x13_1).f1).toList)))) = true := c8
                  clear c8
                  obtain rfl := Option.some.inj H
                  have p176 : 0 ≤ (x13_1 : Int) := of_decide_eq_true (by first | (with_reducible assumption) | assumption)
                  have q176 : x13_1 < (l0.length : Int) := of_decide_eq_true (by first | (with_reducible assumption) | assumption)
                  obtain ⟨ad176, e176, hx176_0, hx176_1⟩ := at_T62 HR0.out x13_1 p176 q176
                  cases e176
                  replace p176 := eq_true p176
                  replace q176 := eq_true q176
                  have p177 : 0 ≤ (x13_1 : Int) := of_decide_eq_true (by first | (with_reducible assumption) | assumption)
                  have q177 : x13_1 < (l1.length : Int) := of_decide_eq_true (by first | (with_reducible assumption) | assumption)
                  obtain ⟨ad177, e177, hx177_0, hx177_1⟩ := at_T62 HR1.out x13_1 p177 q177
                  cases e177
                  replace p177 := eq_true p177
                  replace q177 := eq_true q177
                  go_wp2
                  repeat (go_quiet (fail); try go_wp2)
                  go_ret
                  exact ⟨by first | rfl | (simp; done) | (simp [*]; done), by repeat (first | exact Drawn0.refl _ | apply Drawn0.step)⟩
                · rw [if_neg c8] at H
                  have c8b0 : (!(((rd_T62 l0 x13_1).f0) == ((rd_T62 l1 x13_1).f0)) || (!((((rd_T62 l0 x13_1).f1).toList) == (((rd_T62 l1 x13_1).f1).toList)))) = false := by simpa using c8
                  clear c8
                  have H' := Aside0.mk H
                  clear H
                  have p176 : 0 ≤ (x13_1 : Int) := of_decide_eq_true (by first | (with_reducible assumption) | assumption)
                  have q176 : x13_1 < (l0.length : Int) := of_decide_eq_true (by first | (with_reducible assumption) | assumption)
                  obtain ⟨ad176, e176, hx176_0, hx176_1⟩ := at_T62 HR0.out x13_1 p176 q176
                  cases e176
                  replace p176 := eq_true p176
                  replace q176 := eq_true q176
                  have p177 : 0 ≤ (x13_1 : Int) := of_decide_eq_true (by first | (with_reducible assumption) | assumption)
                  have q177 : x13_1 < (l1.length : Int) := of_decide_eq_true (by first | (with_reducible assumption) | assumption)
                  obtain ⟨ad177, e177, hx177_0, hx177_1⟩ := at_T62 HR1.out x13_1 p177 q177
                  cases e177
                  replace p177 := eq_true p177
                  replace q177 := eq_true q177
                  go_wp2
                  repeat (go_quiet (fail); try go_wp2)
                  go_roundg k1
                  case measure => have := HK1.out; omega
                  case rel => exact ⟨(wrap64 (x13_1 + 1)), (by first | rfl | (simp; done) | (simp [*]; done)), H', ⟨by have := HK1.out; omega⟩, by repeat (first | exact Drawn0.refl _ | apply Drawn0.step)⟩
              · rw [if_neg c7] at H
                exact absurd H (by simp)
            · rw [if_neg c6] at H
              exact absurd H (by simp)
          · rw [if_neg c5] at H
            exact absurd H (by simp)
        · rw [if_neg c4] at H
          have c4b0 : decide (x13_1 < (l0.length : Int)) = false := decide_eq_false c4
          clear c4
          obtain rfl := Option.some.inj H
          go_wp2
          repeat (go_quiet (fail); try go_wp2)
          go_ret
          exact ⟨by first | rfl | (simp; done) | (simp [*]; done), by repeat (first | exact Drawn0.refl _ | apply Drawn0.step)⟩
  · rw [if_neg c3] at H
    have c3b0 : ((l0.length : Int) == (l1.length : Int)) = false := beq_eq_false_iff_ne.mpr c3
    have c3b1 : ((l0.length : Int) != (l1.length : Int)) = true := bne_iff_ne.mpr c3
    have c3b2 : (l0.length == l1.length) = false := by first | simpa using c3 | (simp at c3 ⊢; omega)
    obtain rfl := Option.some.inj H
    go_enter Tryz.func29, Tryz.ntmps29
    go_wp2
    repeat (go_quiet (fail); try go_wp2)
    go_ret
    exact ⟨by first | rfl | (simp; done) | (simp [*]; done), by repeat (first | exact Drawn0.refl _ | apply Drawn0.step)⟩
end Go.Proofs.YtanonhipicoigaaGreatDoor.U
namespace Go.Proofs.YtanonhipicoigaaGreatDoor.U
open Go.RowKit Go.Proofs.YtanonhipicoigaaGreatDoorW.PrintWords Go.Proofs.YtanonhipicoigaaGreatDoorW.PrintLast Go.Proofs.YtanonhipicoigaaGreatDoorW.PrintMore Go.Proofs.YtanonhipicoigaaGreatDoor.Sp Go.Proofs.YtanonhipicoigaaGreatDoor.SegP
set_option linter.unusedVariables false
set_option linter.unusedSimpArgs false
theorem same10_refl (L : Lg) (h : L.l.length ≤ 64) : penstockref10_Same.f 70 L.l L.dn L.fu L.fa L.size L.fr L.nx L.br L.l L.dn L.fu L.fa L.size L.fr L.nx L.br = some true := by
  unfold penstockref10_Same.f
  rw [same_refl L.l L.dn L.fu L.fa h]
  simp
theorem samerec_l0 (l : List S62) (hl : l.length ≤ 4611686018427387904) : ∀ (f i : Nat), i ≤ l.length → l.length - i < f → penstockref10_SameRecords.l0 f l l (l.length : Int) (i : Int) = some true
  | 0, i, hi, hf => by omega
  | f + 1, i, hi, hf => by
    rw [penstockref10_SameRecords.l0]
    by_cases h : i < l.length
    · rw [if_pos (by omega), if_pos (by omega), if_pos (by omega), if_pos (by omega)]
      have e : wrap64 ((i : Int) + 1) = ((i + 1 : Nat) : Int) := by
        unfold wrap64
        omega
      rw [e]
      simp only [beq_self_eq_true, Bool.not_true, Bool.or_self, Bool.false_eq_true, if_false]
      exact samerec_l0 l hl f (i + 1) (by omega) (by omega)
    · rw [if_neg (by omega)]
theorem samerec_refl (l : List S62) (hl : l.length ≤ 4611686018427387904) : penstockref10_SameRecords.f (l.length + 1) l l = some true := by
  unfold penstockref10_SameRecords.f
  rw [if_pos rfl]
  exact samerec_l0 l hl (l.length + 1) 0 (by omega) (by omega)
end Go.Proofs.YtanonhipicoigaaGreatDoor.U
