import Derived.Test.YtanonhipicoigaaG10
namespace Go.Proofs.Ytanonhipicoigaa.T
open Go.RowKit Go.Proofs.YtanonhipicoigaaW.PrintWords Go.Proofs.YtanonhipicoigaaW.PrintLast Go.Proofs.YtanonhipicoigaaW.PrintMore
set_option linter.unusedVariables false
set_option linter.unusedSimpArgs false

/-! ### The plain law of right files -/
abbrev BL (a b : List UInt8) : Prop := Op.bytesLess a b = true
def names (l : List S43) : List (List UInt8) := l.map fun x => x.f0.toList
def OkOne (x : S43) : Prop := x.f0.size ≤ 4096 ∧ x.f1.size ≤ 262144 ∧ 0 ≤ x.f2 ∧ x.f2 ≤ (x.f1.size : Int)
theorem bl_ne {a b : List UInt8} (h : BL a b) : a ≠ b := by
  rintro rfl
  rw [BL, bl_irrefl] at h
  cases h
theorem okFiles_iff : ∀ (l : List S43) (last : List UInt8), okFiles last l = true ↔ (last :: names l).Pairwise BL ∧ ∀ x ∈ l, OkOne x
  | [], last => by simp [okFiles, names]
  | x :: l, last => by
    have ih := okFiles_iff l x.f0.toList
    simp only [okFiles, Bool.and_eq_true, ih, okFile, decide_eq_true_eq]
    constructor
    · rintro ⟨⟨⟨⟨⟨h1, h2⟩, h3⟩, h4⟩, h5⟩, h6, h7⟩
      refine ⟨?_, ?_⟩
      · refine List.pairwise_cons.2 ⟨?_, h6⟩
        intro a ha
        rcases List.mem_cons.1 ha with rfl | ha
        · exact h1
        · exact bl_trans _ _ _ h1 ((List.pairwise_cons.1 h6).1 a ha)
      · intro y hy
        rcases List.mem_cons.1 hy with rfl | hy
        · exact ⟨h2, h3, h4, h5⟩
        · exact h7 y hy
    · rintro ⟨h1, h2⟩
      have h3 := List.pairwise_cons.1 h1
      obtain ⟨a, b, c, d⟩ := h2 x (List.mem_cons_self ..)
      exact ⟨⟨⟨⟨⟨h3.1 _ (List.mem_cons_self ..), a⟩, b⟩, c⟩, d⟩, h3.2, fun y hy => h2 y (List.mem_cons_of_mem _ hy)⟩
theorem right_iff (l : List S43) : rightF l = true ↔ (([] : List UInt8) :: names l).Pairwise BL ∧ (∀ x ∈ l, OkOne x) ∧ l.length ≤ 64 := by
  simp only [rightF, Bool.and_eq_true, okFiles_iff, decide_eq_true_eq, and_assoc]
theorem right_len {l : List S43} (h : rightF l = true) : l.length ≤ 64 := ((right_iff l).1 h).2.2
theorem right_names {l : List S43} (h : rightF l = true) : (names l).Pairwise BL := (List.pairwise_cons.1 ((right_iff l).1 h).1).2
theorem right_lt {l : List S43} (h : rightF l = true) {i j : Nat} {x y : S43} (hij : i < j) (hx : l[i]? = some x) (hy : l[j]? = some y) : BL x.f0.toList y.f0.toList := by
  have hp := right_names h
  rw [List.pairwise_iff_getElem] at hp
  have hi : i < l.length := (List.getElem?_eq_some_iff.1 hx).1
  have hj : j < l.length := (List.getElem?_eq_some_iff.1 hy).1
  have := hp i j (by simpa [names] using hi) (by simpa [names] using hj) hij
  simp only [names, List.getElem_map] at this
  rw [(List.getElem?_eq_some_iff.1 hx).2, (List.getElem?_eq_some_iff.1 hy).2] at this
  exact this
theorem right_same {l : List S43} (h : rightF l = true) {i j : Nat} {x y : S43} (hx : l[i]? = some x) (hy : l[j]? = some y) (e : x.f0.toList = y.f0.toList) : i = j := by
  rcases Nat.lt_trichotomy i j with g | g | g
  · exact absurd e (bl_ne (right_lt h g hx hy))
  · exact g
  · exact absurd e.symm (bl_ne (right_lt h g hy hx))

/-! ### Where a name is -/
theorem cmpS_neg (x y : ByteArray) : cmpS x y < 0 ↔ BL x.toList y.toList := by
  unfold cmpS BL
  split
  · simp [*, bl_irrefl]
  · split <;> simp [*, bl_irrefl]
theorem cmpS_zero (x y : ByteArray) : cmpS x y = 0 ↔ x.toList = y.toList := by
  unfold cmpS
  split
  · rename_i h
    constructor
    · intro e; omega
    · intro e; exact absurd e (bl_ne h)
  · split <;> simp [*]
theorem bsGo_spec {l : List S43} (h : rightF l = true) (s : ByteArray) : ∀ (f i j : Nat), i ≤ j → j ≤ l.length → j ≤ i + f →
    (∀ k x, k < i → l[k]? = some x → BL x.f0.toList s.toList) → (∀ k x, j ≤ k → l[k]? = some x → ¬ BL x.f0.toList s.toList) →
    (∀ k x, k < bsGo l s f i j → l[k]? = some x → BL x.f0.toList s.toList) ∧ (∀ k x, bsGo l s f i j ≤ k → l[k]? = some x → ¬ BL x.f0.toList s.toList)
  | 0, i, j, hij, hj, hf, h1, h2 => by
    have : i = j := by omega
    subst this
    exact ⟨h1, h2⟩
  | f + 1, i, j, hij, hj, hf, h1, h2 => by
    unfold bsGo
    split
    · rename_i hlt
      have hm : (i + j) / 2 < l.length := by omega
      have hx : l[(i + j) / 2]? = some (rd_T43 l (((i + j) / 2 : Nat) : Int)) := by
        simp only [rd_T43, Int.toNat_natCast, List.getD_eq_getElem?_getD, List.getElem?_eq_getElem hm]
        rfl
      split
      · rename_i hc
        rw [cmpS_neg] at hc
        refine bsGo_spec h s f _ _ (by omega) hj (by omega) ?_ h2
        intro k x hk hkx
        rcases Nat.lt_or_ge k ((i + j) / 2) with g | g
        · exact bl_trans _ _ _ (right_lt h g hkx hx) hc
        · have : k = (i + j) / 2 := by omega
          subst this
          rw [hx] at hkx
          injection hkx with e
          subst e
          exact hc
      · rename_i hc
        rw [cmpS_neg] at hc
        refine bsGo_spec h s f _ _ (by omega) (by omega) (by omega) h1 ?_
        intro k x hk hkx hb
        rcases Nat.lt_or_ge ((i + j) / 2) k with g | g
        · exact hc (bl_trans _ _ _ (right_lt h g hx hkx) hb)
        · have : k = (i + j) / 2 := by omega
          subst this
          rw [hx] at hkx
          injection hkx with e
          subst e
          exact hc hb
    · have : i = j := by omega
      subst this
      exact ⟨h1, h2⟩
theorem bs_lo {l : List S43} (h : rightF l = true) (s : ByteArray) {k : Nat} {x : S43} (hk : k < bsOf l s) (hx : l[k]? = some x) : BL x.f0.toList s.toList :=
  (bsGo_spec h s l.length 0 l.length (by omega) (by omega) (by omega) (fun k x hk => by omega) (fun k x hk hx => by have := (List.getElem?_eq_some_iff.1 hx).1; omega)).1 k x hk hx
theorem bs_hi {l : List S43} (h : rightF l = true) (s : ByteArray) {k : Nat} {x : S43} (hk : bsOf l s ≤ k) (hx : l[k]? = some x) : ¬ BL x.f0.toList s.toList :=
  (bsGo_spec h s l.length 0 l.length (by omega) (by omega) (by omega) (fun k x hk => by omega) (fun k x hk hx => by have := (List.getElem?_eq_some_iff.1 hx).1; omega)).2 k x hk hx
theorem bsOf_le (l : List S43) (s : ByteArray) : bsOf l s ≤ l.length := (bsGo_le l s _ 0 l.length (Nat.zero_le _)).2
theorem isAt_iff (l : List S43) (s : ByteArray) (i : Nat) : isAt l s i = true ↔ ∃ x, l[i]? = some x ∧ x.f0.toList = s.toList := by
  simp only [isAt, Bool.and_eq_true, decide_eq_true_eq, beq_iff_eq, cmpS_zero]
  constructor
  · rintro ⟨hi, e⟩
    refine ⟨l[i], List.getElem?_eq_getElem hi, ?_⟩
    rwa [rd_get (List.getElem?_eq_getElem hi)] at e
  · rintro ⟨x, hx, e⟩
    exact ⟨(List.getElem?_eq_some_iff.1 hx).1, by rw [rd_get hx]; exact e⟩
theorem bs_found {l : List S43} (h : rightF l = true) (s : ByteArray) {x : S43} (hx : x ∈ l) (e : x.f0.toList = s.toList) : l[bsOf l s]? = some x := by
  obtain ⟨k, hk⟩ := List.getElem?_of_mem hx
  rcases Nat.lt_trichotomy k (bsOf l s) with g | g | g
  · exact absurd e (bl_ne (bs_lo h s g hk))
  · rw [← g]; exact hk
  · have hlt : bsOf l s < l.length := by have := (List.getElem?_eq_some_iff.1 hk).1; omega
    have hy := List.getElem?_eq_getElem hlt
    have := right_lt h g hy hk
    rw [e] at this
    exact absurd this (bs_hi h s (Nat.le_refl _) hy)
/-- The file of a name. -/
def getF (l : List S43) (s : ByteArray) : Option S43 := if isAt l s (bsOf l s) = true then l[bsOf l s]? else none
theorem getF_iff {l : List S43} (h : rightF l = true) (s : ByteArray) (x : S43) : getF l s = some x ↔ x ∈ l ∧ x.f0.toList = s.toList := by
  unfold getF
  constructor
  · intro g
    split at g
    · rename_i hi
      obtain ⟨y, hy, e⟩ := (isAt_iff _ _ _).1 hi
      rw [hy] at g
      injection g with g
      subst g
      exact ⟨List.mem_of_getElem? hy, e⟩
    · cases g
  · rintro ⟨hx, e⟩
    have := bs_found h s hx e
    rw [if_pos ((isAt_iff _ _ _).2 ⟨x, this, e⟩)]
    exact this
theorem getF_none {l : List S43} (h : rightF l = true) (s : ByteArray) : getF l s = none ↔ ∀ x ∈ l, x.f0.toList ≠ s.toList := by
  constructor
  · intro g x hx e
    rw [(getF_iff h s x).2 ⟨hx, e⟩] at g
    cases g
  · intro g
    cases e : getF l s with
    | none => rfl
    | some x => exact absurd ((getF_iff h s x).1 e).2 (g x ((getF_iff h s x).1 e).1)
/-- What is read. -/
def readF (l : List S43) (dn : Bool) (s : ByteArray) : ByteArray × Int :=
  if rightF l = true then (if dn = true then ((⟨#[]⟩ : ByteArray), 17) else match getF l s with | some x => (x.f1, 0) | none => ((⟨#[]⟩ : ByteArray), 7)) else ((⟨#[]⟩ : ByteArray), 6)

/-! ### A right disk behind a change -/
theorem names_set {l : List S43} {i : Nat} {x y : S43} (hx : l[i]? = some x) (e : y.f0 = x.f0) : names (l.set i y) = names l := by
  unfold names
  rw [List.map_set]
  apply List.ext_getElem?
  intro j
  rw [List.getElem?_set]
  split
  · rename_i hj
    subst hj
    have hi := (List.getElem?_eq_some_iff.1 hx).1
    rw [if_pos (by simpa using hi)]
    simp [List.getElem?_map, hx, e]
  · rfl
theorem right_set {l : List S43} (h : rightF l = true) {i : Nat} {x y : S43} (hx : l[i]? = some x) (e : y.f0 = x.f0) (hy : OkOne y) : rightF (l.set i y) = true := by
  have h' := (right_iff l).1 h
  refine (right_iff _).2 ⟨by rw [names_set hx e]; exact h'.1, fun z hz => ?_, by rw [List.length_set]; exact h'.2.2⟩
  rcases List.mem_or_eq_of_mem_set hz with hz | rfl
  · exact h'.2.1 z hz
  · exact hy
theorem mem_set {l : List S43} (h : rightF l = true) {i : Nat} {x y z : S43} (hx : l[i]? = some x) (e : y.f0 = x.f0) (hz : z.f0.toList ≠ x.f0.toList) : z ∈ l.set i y ↔ z ∈ l := by
  constructor
  · intro g
    rcases List.mem_or_eq_of_mem_set g with g | rfl
    · exact g
    · exact absurd (by rw [e]) hz
  · intro g
    obtain ⟨k, hk⟩ := List.getElem?_of_mem g
    have : i ≠ k := by
      rintro rfl
      rw [hx] at hk
      injection hk with hk
      exact hz (by rw [hk])
    exact List.mem_of_getElem? (i := k) (by rw [List.getElem?_set_ne this]; exact hk)
theorem mem_set_self {l : List S43} {i : Nat} {x y : S43} (hx : l[i]? = some x) : y ∈ l.set i y :=
  List.mem_of_getElem? (i := i) (by rw [List.getElem?_set_self (List.getElem?_eq_some_iff.1 hx).1])
theorem right_cut {l : List S43} (h : rightF l = true) (i : Nat) : rightF (l.take i ++ l.drop (i + 1)) = true := by
  have h' := (right_iff l).1 h
  have hs : (l.take i ++ l.drop (i + 1)).Sublist l := by
    conv => rhs; rw [← List.take_append_drop i l]
    exact List.Sublist.append (List.Sublist.refl _) (by rw [← List.drop_drop]; exact List.drop_sublist _ _)
  refine (right_iff _).2 ⟨h'.1.sublist ((hs.map _).cons_cons _), fun z hz => h'.2.1 z (hs.subset hz), Nat.le_trans hs.length_le h'.2.2⟩
theorem mem_cut {l : List S43} (h : rightF l = true) {i : Nat} {x z : S43} (hx : l[i]? = some x) : z ∈ l.take i ++ l.drop (i + 1) ↔ z ∈ l ∧ z.f0.toList ≠ x.f0.toList := by
  constructor
  · intro g
    rcases List.mem_append.1 g with g | g
    · obtain ⟨k, hk⟩ := List.getElem?_of_mem g
      have hki : k < i := by
        have := (List.getElem?_eq_some_iff.1 hk).1
        simp only [List.length_take] at this
        omega
      rw [List.getElem?_take_of_lt hki] at hk
      exact ⟨List.mem_of_getElem? hk, bl_ne (right_lt h hki hk hx)⟩
    · obtain ⟨k, hk⟩ := List.getElem?_of_mem g
      rw [List.getElem?_drop] at hk
      exact ⟨List.mem_of_getElem? hk, fun e => bl_ne (right_lt h (show i < i + 1 + k by omega) hx hk) e.symm⟩
  · rintro ⟨g, hz⟩
    obtain ⟨k, hk⟩ := List.getElem?_of_mem g
    rcases Nat.lt_trichotomy k i with c | c | c
    · exact List.mem_append.2 (.inl (List.mem_of_getElem? (i := k) (by rw [List.getElem?_take_of_lt c]; exact hk)))
    · subst c
      rw [hx] at hk
      injection hk with hk
      exact absurd (by rw [hk]) hz
    · exact List.mem_append.2 (.inr (List.mem_of_getElem? (i := k - (i + 1)) (by rw [List.getElem?_drop, show i + 1 + (k - (i + 1)) = k by omega]; exact hk)))
theorem mem_new {l : List S43} (i : Nat) (y z : S43) : z ∈ l.take i ++ [y] ++ l.drop i ↔ z = y ∨ z ∈ l := by
  conv => rhs; rw [← List.take_append_drop i l]
  simp only [List.mem_append, List.mem_singleton]
  constructor
  · rintro ((h | h) | h)
    · exact .inr (.inl h)
    · exact .inl h
    · exact .inr (.inr h)
  · rintro (h | h | h)
    · exact .inl (.inr h)
    · exact .inl (.inl h)
    · exact .inr h
theorem right_new {l : List S43} (h : rightF l = true) {s : ByteArray} {y : S43} (hi : isAt l s (bsOf l s) = false) (hy : OkOne y) (hn : y.f0 = s) (hne : s.toList ≠ []) (hlen : l.length < 64) : rightF (l.take (bsOf l s) ++ [y] ++ l.drop (bsOf l s)) = true := by
  have h' := (right_iff l).1 h
  have hp := List.pairwise_cons.1 h'.1
  refine (right_iff _).2 ⟨List.pairwise_cons.2 ⟨?_, ?_⟩, ?_, ?_⟩
  · intro a ha
    simp only [names, List.map_append, List.mem_append, List.map_cons, List.map_nil, List.mem_singleton] at ha
    rcases ha with (ha | rfl) | ha
    · rw [List.map_take] at ha
      exact hp.1 a (List.mem_of_mem_take ha)
    · rw [hn]
      rcases bl_total [] s.toList with g | g | g
      · exact g
      · exact absurd g.symm hne
      · revert g; cases s.toList <;> simp [Op.bytesLess]
    · rw [List.map_drop] at ha
      exact hp.1 a (List.mem_of_mem_drop ha)
  · simp only [names, List.map_append, List.map_cons, List.map_nil]
    rw [List.append_assoc, List.pairwise_append, List.pairwise_append, List.map_take, List.map_drop]
    have hlo : ∀ a ∈ (names l).take (bsOf l s), BL a s.toList := by
      intro a ha
      obtain ⟨k, hk⟩ := List.getElem?_of_mem ha
      have hki : k < bsOf l s := by
        have := (List.getElem?_eq_some_iff.1 hk).1
        simp only [List.length_take] at this
        omega
      rw [List.getElem?_take_of_lt hki, names, List.getElem?_map] at hk
      cases e : l[k]? with
      | none => rw [e] at hk; cases hk
      | some x =>
        rw [e] at hk
        injection hk with hk
        subst hk
        exact bs_lo h s hki e
    have hhi : ∀ a ∈ (names l).drop (bsOf l s), BL s.toList a := by
      intro a ha
      obtain ⟨k, hk⟩ := List.getElem?_of_mem ha
      rw [List.getElem?_drop, names, List.getElem?_map] at hk
      cases e : l[bsOf l s + k]? with
      | none => rw [e] at hk; cases hk
      | some x =>
        rw [e] at hk
        injection hk with hk
        subst hk
        rcases bl_total s.toList x.f0.toList with g | g | g
        · exact g
        · have hb := bs_found h s (List.mem_of_getElem? e) g.symm
          rw [(isAt_iff _ _ _).2 ⟨x, hb, g.symm⟩] at hi
          cases hi
        · exact absurd g (bs_hi h s (by omega) e)
    refine ⟨hp.2.sublist (List.take_sublist _ _), ⟨List.pairwise_singleton _ _, hp.2.sublist (List.drop_sublist _ _), ?_⟩, ?_⟩
    · intro a ha b hb
      rw [List.mem_singleton.1 ha, hn]
      exact hhi b hb
    · intro a ha b hb
      rcases List.mem_append.1 hb with hb | hb
      · rw [List.mem_singleton.1 hb, hn]
        exact hlo a ha
      · exact bl_trans _ _ _ (hlo a ha) (hhi b hb)
  · intro z hz
    rcases (mem_new _ _ _).1 hz with rfl | hz
    · exact hy
    · exact h'.2.1 z hz
  · simp only [List.length_append, List.length_take, List.length_drop, List.length_singleton]
    have := bsOf_le l s
    omega
end Go.Proofs.Ytanonhipicoigaa.T
