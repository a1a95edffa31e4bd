import Derived.Test.YtanonhipicoigaaMc
import Derived.Test.YtanonhipicoigaaMe
import Derived.Test.YtanonhipicoigaaTx8m
import Derived.Test.YtanonhipicoigaaMd
import Derived.Test.YtanonhipicoigaaTx0
import Derived.Test.YtanonhipicoigaaSp0
import Derived.Test.YtanonhipicoigaaMb
namespace Go.Proofs.Ytanonhipicoigaa.T
open Go.RowKit Go.Proofs.YtanonhipicoigaaW.PrintWords Go.Proofs.YtanonhipicoigaaW.PrintLast Go.Proofs.YtanonhipicoigaaW.PrintMore
set_option linter.unusedVariables false
set_option linter.unusedSimpArgs false

/-! ### The plain law of right files -/
abbrev BL (a b : List UInt8) : Prop := Op.bytesLess a b = true
def names (l : List S43) : List (List UInt8) := l.map fun x => x.f0.toList
def OkOne (x : S43) : Prop := x.f0.size ≤ 4096 ∧ x.f1.size ≤ 262144 ∧ 0 ≤ x.f2 ∧ x.f2 ≤ (x.f1.size : Int)
theorem bl_ne {a b : List UInt8} (h : BL a b) : a ≠ b := by
  rintro rfl
  rw [BL, bl_irrefl] at h
  cases h
theorem okFiles_iff : ∀ (l : List S43) (last : List UInt8), okFiles last l = true ↔ (last :: names l).Pairwise BL ∧ ∀ x ∈ l, OkOne x
  | [], last => by simp [okFiles, names]
  | x :: l, last => by
    have ih := okFiles_iff l x.f0.toList
    simp only [okFiles, Bool.and_eq_true, ih, okFile, decide_eq_true_eq]
    constructor
    · rintro ⟨⟨⟨⟨⟨h1, h2⟩, h3⟩, h4⟩, h5⟩, h6, h7⟩
      refine ⟨?_, ?_⟩
      · refine List.pairwise_cons.2 ⟨?_, h6⟩
        intro a ha
        rcases List.mem_cons.1 ha with rfl | ha
        · exact h1
        · exact bl_trans _ _ _ h1 ((List.pairwise_cons.1 h6).1 a ha)
      · intro y hy
        rcases List.mem_cons.1 hy with rfl | hy
        · exact ⟨h2, h3, h4, h5⟩
        · exact h7 y hy
    · rintro ⟨h1, h2⟩
      have h3 := List.pairwise_cons.1 h1
      obtain ⟨a, b, c, d⟩ := h2 x (List.mem_cons_self ..)
      exact ⟨⟨⟨⟨⟨h3.1 _ (List.mem_cons_self ..), a⟩, b⟩, c⟩, d⟩, h3.2, fun y hy => h2 y (List.mem_cons_of_mem _ hy)⟩
theorem right_iff (l : List S43) : rightF l = true ↔ (([] : List UInt8) :: names l).Pairwise BL ∧ (∀ x ∈ l, OkOne x) ∧ l.length ≤ 64 := by
  simp only [rightF, Bool.and_eq_true, okFiles_iff, decide_eq_true_eq, and_assoc]
theorem right_len {l : List S43} (h : rightF l = true) : l.length ≤ 64 := ((right_iff l).1 h).2.2
theorem right_names {l : List S43} (h : rightF l = true) : (names l).Pairwise BL := (List.pairwise_cons.1 ((right_iff l).1 h).1).2
theorem right_lt {l : List S43} (h : rightF l = true) {i j : Nat} {x y : S43} (hij : i < j) (hx : l[i]? = some x) (hy : l[j]? = some y) : BL x.f0.toList y.f0.toList := by
  have hp := right_names h
  rw [List.pairwise_iff_getElem] at hp
  have hi : i < l.length := (List.getElem?_eq_some_iff.1 hx).1
  have hj : j < l.length := (List.getElem?_eq_some_iff.1 hy).1
  have := hp i j (by simpa [names] using hi) (by simpa [names] using hj) hij
  simp only [names, List.getElem_map] at this
  rw [(List.getElem?_eq_some_iff.1 hx).2, (List.getElem?_eq_some_iff.1 hy).2] at this
  exact this
theorem right_same {l : List S43} (h : rightF l = true) {i j : Nat} {x y : S43} (hx : l[i]? = some x) (hy : l[j]? = some y) (e : x.f0.toList = y.f0.toList) : i = j := by
  rcases Nat.lt_trichotomy i j with g | g | g
  · exact absurd e (bl_ne (right_lt h g hx hy))
  · exact g
  · exact absurd e.symm (bl_ne (right_lt h g hy hx))

/-! ### Where a name is -/
theorem cmpS_neg (x y : ByteArray) : cmpS x y < 0 ↔ BL x.toList y.toList := by
  unfold cmpS BL
  split
  · simp [*, bl_irrefl]
  · split <;> simp [*, bl_irrefl]
theorem cmpS_zero (x y : ByteArray) : cmpS x y = 0 ↔ x.toList = y.toList := by
  unfold cmpS
  split
  · rename_i h
    constructor
    · intro e; omega
    · intro e; exact absurd e (bl_ne h)
  · split <;> simp [*]
theorem bsGo_spec {l : List S43} (h : rightF l = true) (s : ByteArray) : ∀ (f i j : Nat), i ≤ j → j ≤ l.length → j ≤ i + f →
    (∀ k x, k < i → l[k]? = some x → BL x.f0.toList s.toList) → (∀ k x, j ≤ k → l[k]? = some x → ¬ BL x.f0.toList s.toList) →
    (∀ k x, k < bsGo l s f i j → l[k]? = some x → BL x.f0.toList s.toList) ∧ (∀ k x, bsGo l s f i j ≤ k → l[k]? = some x → ¬ BL x.f0.toList s.toList)
  | 0, i, j, hij, hj, hf, h1, h2 => by
    have : i = j := by omega
    subst this
    exact ⟨h1, h2⟩
  | f + 1, i, j, hij, hj, hf, h1, h2 => by
    unfold bsGo
    split
    · rename_i hlt
      have hm : (i + j) / 2 < l.length := by omega
      have hx : l[(i + j) / 2]? = some (rd_T43 l (((i + j) / 2 : Nat) : Int)) := by
        simp only [rd_T43, Int.toNat_natCast, List.getD_eq_getElem?_getD, List.getElem?_eq_getElem hm]
        rfl
      split
      · rename_i hc
        rw [cmpS_neg] at hc
        refine bsGo_spec h s f _ _ (by omega) hj (by omega) ?_ h2
        intro k x hk hkx
        rcases Nat.lt_or_ge k ((i + j) / 2) with g | g
        · exact bl_trans _ _ _ (right_lt h g hkx hx) hc
        · have : k = (i + j) / 2 := by omega
          subst this
          rw [hx] at hkx
          injection hkx with e
          subst e
          exact hc
      · rename_i hc
        rw [cmpS_neg] at hc
        refine bsGo_spec h s f _ _ (by omega) (by omega) (by omega) h1 ?_
        intro k x hk hkx hb
        rcases Nat.lt_or_ge ((i + j) / 2) k with g | g
        · exact hc (bl_trans _ _ _ (right_lt h g hx hkx) hb)
        · have : k = (i + j) / 2 := by omega
          subst this
          rw [hx] at hkx
          injection hkx with e
          subst e
          exact hc hb
    · have : i = j := by omega
      subst this
      exact ⟨h1, h2⟩
theorem bs_lo {l : List S43} (h : rightF l = true) (s : ByteArray) {k : Nat} {x : S43} (hk : k < bsOf l s) (hx : l[k]? = some x) : BL x.f0.toList s.toList :=
  (bsGo_spec h s l.length 0 l.length (by omega) (by omega) (by omega) (fun k x hk => by omega) (fun k x hk hx => by have := (List.getElem?_eq_some_iff.1 hx).1; omega)).1 k x hk hx
theorem bs_hi {l : List S43} (h : rightF l = true) (s : ByteArray) {k : Nat} {x : S43} (hk : bsOf l s ≤ k) (hx : l[k]? = some x) : ¬ BL x.f0.toList s.toList :=
  (bsGo_spec h s l.length 0 l.length (by omega) (by omega) (by omega) (fun k x hk => by omega) (fun k x hk hx => by have := (List.getElem?_eq_some_iff.1 hx).1; omega)).2 k x hk hx
theorem bsOf_le (l : List S43) (s : ByteArray) : bsOf l s ≤ l.length := (bsGo_le l s _ 0 l.length (Nat.zero_le _)).2
theorem isAt_iff (l : List S43) (s : ByteArray) (i : Nat) : isAt l s i = true ↔ ∃ x, l[i]? = some x ∧ x.f0.toList = s.toList := by
  simp only [isAt, Bool.and_eq_true, decide_eq_true_eq, beq_iff_eq, cmpS_zero]
  constructor
  · rintro ⟨hi, e⟩
    refine ⟨l[i], List.getElem?_eq_getElem hi, ?_⟩
    rwa [rd_get (List.getElem?_eq_getElem hi)] at e
  · rintro ⟨x, hx, e⟩
    exact ⟨(List.getElem?_eq_some_iff.1 hx).1, by rw [rd_get hx]; exact e⟩
theorem bs_found {l : List S43} (h : rightF l = true) (s : ByteArray) {x : S43} (hx : x ∈ l) (e : x.f0.toList = s.toList) : l[bsOf l s]? = some x := by
  obtain ⟨k, hk⟩ := List.getElem?_of_mem hx
  rcases Nat.lt_trichotomy k (bsOf l s) with g | g | g
  · exact absurd e (bl_ne (bs_lo h s g hk))
  · rw [← g]; exact hk
  · have hlt : bsOf l s < l.length := by have := (List.getElem?_eq_some_iff.1 hk).1; omega
    have hy := List.getElem?_eq_getElem hlt
    have := right_lt h g hy hk
    rw [e] at this
    exact absurd this (bs_hi h s (Nat.le_refl _) hy)
/-- The file of a name. -/
def getF (l : List S43) (s : ByteArray) : Option S43 := if isAt l s (bsOf l s) = true then l[bsOf l s]? else none
theorem getF_iff {l : List S43} (h : rightF l = true) (s : ByteArray) (x : S43) : getF l s = some x ↔ x ∈ l ∧ x.f0.toList = s.toList := by
  unfold getF
  constructor
  · intro g
    split at g
    · rename_i hi
      obtain ⟨y, hy, e⟩ := (isAt_iff _ _ _).1 hi
      rw [hy] at g
      injection g with g
      subst g
      exact ⟨List.mem_of_getElem? hy, e⟩
    · cases g
  · rintro ⟨hx, e⟩
    have := bs_found h s hx e
    rw [if_pos ((isAt_iff _ _ _).2 ⟨x, this, e⟩)]
    exact this
theorem getF_none {l : List S43} (h : rightF l = true) (s : ByteArray) : getF l s = none ↔ ∀ x ∈ l, x.f0.toList ≠ s.toList := by
  constructor
  · intro g x hx e
    rw [(getF_iff h s x).2 ⟨hx, e⟩] at g
    cases g
  · intro g
    cases e : getF l s with
    | none => rfl
    | some x => exact absurd ((getF_iff h s x).1 e).2 (g x ((getF_iff h s x).1 e).1)
/-- What is read. -/
def readF (l : List S43) (dn : Bool) (s : ByteArray) : ByteArray × Int :=
  if rightF l = true then (if dn = true then ((⟨#[]⟩ : ByteArray), 17) else match getF l s with | some x => (x.f1, 0) | none => ((⟨#[]⟩ : ByteArray), 7)) else ((⟨#[]⟩ : ByteArray), 6)

/-! ### A right disk behind a change -/
theorem names_set {l : List S43} {i : Nat} {x y : S43} (hx : l[i]? = some x) (e : y.f0 = x.f0) : names (l.set i y) = names l := by
  unfold names
  rw [List.map_set]
  apply List.ext_getElem?
  intro j
  rw [List.getElem?_set]
  split
  · rename_i hj
    subst hj
    have hi := (List.getElem?_eq_some_iff.1 hx).1
    rw [if_pos (by simpa using hi)]
    simp [List.getElem?_map, hx, e]
  · rfl
theorem right_set {l : List S43} (h : rightF l = true) {i : Nat} {x y : S43} (hx : l[i]? = some x) (e : y.f0 = x.f0) (hy : OkOne y) : rightF (l.set i y) = true := by
  have h' := (right_iff l).1 h
  refine (right_iff _).2 ⟨by rw [names_set hx e]; exact h'.1, fun z hz => ?_, by rw [List.length_set]; exact h'.2.2⟩
  rcases List.mem_or_eq_of_mem_set hz with hz | rfl
  · exact h'.2.1 z hz
  · exact hy
theorem mem_set {l : List S43} (h : rightF l = true) {i : Nat} {x y z : S43} (hx : l[i]? = some x) (e : y.f0 = x.f0) (hz : z.f0.toList ≠ x.f0.toList) : z ∈ l.set i y ↔ z ∈ l := by
  constructor
  · intro g
    rcases List.mem_or_eq_of_mem_set g with g | rfl
    · exact g
    · exact absurd (by rw [e]) hz
  · intro g
    obtain ⟨k, hk⟩ := List.getElem?_of_mem g
    have : i ≠ k := by
      rintro rfl
      rw [hx] at hk
      injection hk with hk
      exact hz (by rw [hk])
    exact List.mem_of_getElem? (i := k) (by rw [List.getElem?_set_ne this]; exact hk)
theorem mem_set_self {l : List S43} {i : Nat} {x y : S43} (hx : l[i]? = some x) : y ∈ l.set i y :=
  List.mem_of_getElem? (i := i) (by rw [List.getElem?_set_self (List.getElem?_eq_some_iff.1 hx).1])
theorem right_cut {l : List S43} (h : rightF l = true) (i : Nat) : rightF (l.take i ++ l.drop (i + 1)) = true := by
  have h' := (right_iff l).1 h
  have hs : (l.take i ++ l.drop (i + 1)).Sublist l := by
    conv => rhs; rw [← List.take_append_drop i l]
    exact List.Sublist.append (List.Sublist.refl _) (by rw [← List.drop_drop]; exact List.drop_sublist _ _)
  refine (right_iff _).2 ⟨h'.1.sublist ((hs.map _).cons_cons _), fun z hz => h'.2.1 z (hs.subset hz), Nat.le_trans hs.length_le h'.2.2⟩
theorem mem_cut {l : List S43} (h : rightF l = true) {i : Nat} {x z : S43} (hx : l[i]? = some x) : z ∈ l.take i ++ l.drop (i + 1) ↔ z ∈ l ∧ z.f0.toList ≠ x.f0.toList := by
  constructor
  · intro g
    rcases List.mem_append.1 g with g | g
    · obtain ⟨k, hk⟩ := List.getElem?_of_mem g
      have hki : k < i := by
        have := (List.getElem?_eq_some_iff.1 hk).1
        simp only [List.length_take] at this
        omega
      rw [List.getElem?_take_of_lt hki] at hk
      exact ⟨List.mem_of_getElem? hk, bl_ne (right_lt h hki hk hx)⟩
    · obtain ⟨k, hk⟩ := List.getElem?_of_mem g
      rw [List.getElem?_drop] at hk
      exact ⟨List.mem_of_getElem? hk, fun e => bl_ne (right_lt h (show i < i + 1 + k by omega) hx hk) e.symm⟩
  · rintro ⟨g, hz⟩
    obtain ⟨k, hk⟩ := List.getElem?_of_mem g
    rcases Nat.lt_trichotomy k i with c | c | c
    · exact List.mem_append.2 (.inl (List.mem_of_getElem? (i := k) (by rw [List.getElem?_take_of_lt c]; exact hk)))
    · subst c
      rw [hx] at hk
      injection hk with hk
      exact absurd (by rw [hk]) hz
    · exact List.mem_append.2 (.inr (List.mem_of_getElem? (i := k - (i + 1)) (by rw [List.getElem?_drop, show i + 1 + (k - (i + 1)) = k by omega]; exact hk)))
theorem mem_new {l : List S43} (i : Nat) (y z : S43) : z ∈ l.take i ++ [y] ++ l.drop i ↔ z = y ∨ z ∈ l := by
  conv => rhs; rw [← List.take_append_drop i l]
  simp only [List.mem_append, List.mem_singleton]
  constructor
  · rintro ((h | h) | h)
    · exact .inr (.inl h)
    · exact .inl h
    · exact .inr (.inr h)
  · rintro (h | h | h)
    · exact .inl (.inr h)
    · exact .inl (.inl h)
    · exact .inr h
theorem right_new {l : List S43} (h : rightF l = true) {s : ByteArray} {y : S43} (hi : isAt l s (bsOf l s) = false) (hy : OkOne y) (hn : y.f0 = s) (hne : s.toList ≠ []) (hlen : l.length < 64) : rightF (l.take (bsOf l s) ++ [y] ++ l.drop (bsOf l s)) = true := by
  have h' := (right_iff l).1 h
  have hp := List.pairwise_cons.1 h'.1
  refine (right_iff _).2 ⟨List.pairwise_cons.2 ⟨?_, ?_⟩, ?_, ?_⟩
  · intro a ha
    simp only [names, List.map_append, List.mem_append, List.map_cons, List.map_nil, List.mem_singleton] at ha
    rcases ha with (ha | rfl) | ha
    · rw [List.map_take] at ha
      exact hp.1 a (List.mem_of_mem_take ha)
    · rw [hn]
      rcases bl_total [] s.toList with g | g | g
      · exact g
      · exact absurd g.symm hne
      · revert g; cases s.toList <;> simp [Op.bytesLess]
    · rw [List.map_drop] at ha
      exact hp.1 a (List.mem_of_mem_drop ha)
  · simp only [names, List.map_append, List.map_cons, List.map_nil]
    rw [List.append_assoc, List.pairwise_append, List.pairwise_append, List.map_take, List.map_drop]
    have hlo : ∀ a ∈ (names l).take (bsOf l s), BL a s.toList := by
      intro a ha
      obtain ⟨k, hk⟩ := List.getElem?_of_mem ha
      have hki : k < bsOf l s := by
        have := (List.getElem?_eq_some_iff.1 hk).1
        simp only [List.length_take] at this
        omega
      rw [List.getElem?_take_of_lt hki, names, List.getElem?_map] at hk
      cases e : l[k]? with
      | none => rw [e] at hk; cases hk
      | some x =>
        rw [e] at hk
        injection hk with hk
        subst hk
        exact bs_lo h s hki e
    have hhi : ∀ a ∈ (names l).drop (bsOf l s), BL s.toList a := by
      intro a ha
      obtain ⟨k, hk⟩ := List.getElem?_of_mem ha
      rw [List.getElem?_drop, names, List.getElem?_map] at hk
      cases e : l[bsOf l s + k]? with
      | none => rw [e] at hk; cases hk
      | some x =>
        rw [e] at hk
        injection hk with hk
        subst hk
        rcases bl_total s.toList x.f0.toList with g | g | g
        · exact g
        · have hb := bs_found h s (List.mem_of_getElem? e) g.symm
          rw [(isAt_iff _ _ _).2 ⟨x, hb, g.symm⟩] at hi
          cases hi
        · exact absurd g (bs_hi h s (by omega) e)
    refine ⟨hp.2.sublist (List.take_sublist _ _), ⟨List.pairwise_singleton _ _, hp.2.sublist (List.drop_sublist _ _), ?_⟩, ?_⟩
    · intro a ha b hb
      rw [List.mem_singleton.1 ha, hn]
      exact hhi b hb
    · intro a ha b hb
      rcases List.mem_append.1 hb with hb | hb
      · rw [List.mem_singleton.1 hb, hn]
        exact hlo a ha
      · exact bl_trans _ _ _ (hlo a ha) (hhi b hb)
  · intro z hz
    rcases (mem_new _ _ _).1 hz with rfl | hz
    · exact hy
    · exact h'.2.1 z hz
  · simp only [List.length_append, List.length_take, List.length_drop, List.length_singleton]
    have := bsOf_le l s
    omega
end Go.Proofs.Ytanonhipicoigaa.T

namespace Go.Proofs.Ytanonhipicoigaa.T
open Go.RowKit Go.Proofs.YtanonhipicoigaaW.PrintWords Go.Proofs.YtanonhipicoigaaW.PrintLast Go.Proofs.YtanonhipicoigaaW.PrintMore
set_option linter.unusedVariables false
set_option linter.unusedSimpArgs false

/-! ### What the disk answers, in plain words -/
theorem disk_Read_eq (l : List S43) (dn : Bool) (fu fa : Int) (s : ByteArray) : disk_Read.f l dn fu fa s = some ((readF l dn s).1, (readF l dn s).2) := by
  unfold disk_Read.f disk_asked.f disk_Check.f readF
  by_cases h : rightF l = true
  · simp only [if_pos h, Option.bind_some]
    cases dn
    · simp only [if_true, Bool.false_eq_true, if_false, disk_place.f, if_pos (right_len h), Option.bind_some]
      unfold getF
      by_cases hi : isAt l s (bsOf l s) = true
      · obtain ⟨x, hx, _⟩ := (isAt_iff _ _ _).1 hi
        have hlt := (List.getElem?_eq_some_iff.1 hx).1
        rw [if_pos hi, if_pos hi, hx, if_pos (by omega), if_pos (by omega), rd_get hx]
      · rw [if_neg hi, if_neg hi]
    · simp
  · simp only [if_neg h, Option.bind_some]
    simp
theorem small {l : List S43} (h : rightF l = true) : l.length < 3518437208883 := by have := right_len h; omega
def appendF (l : List S43) (dn : Bool) (fu fa : Int) (s d : ByteArray) : List S43 × Bool × Int × Int × Int := changedF l dn fu fa s true (rfW d l) (fun i => l.set i.toNat ⟨(rd_T43 l i).f0, (rd_T43 l i).f1 ++ d, (rd_T43 l i).f2⟩)
def cutF (l : List S43) (dn : Bool) (fu fa : Int) (s : ByteArray) (n : Int) : List S43 × Bool × Int × Int × Int := changedF l dn fu fa s false (rfT n l) (fun i => l.set i.toNat ⟨(rd_T43 l i).f0, (rd_T43 l i).f1.extract 0 n.toNat, n⟩)
def removeF (l : List S43) (dn : Bool) (fu fa : Int) (s : ByteArray) : List S43 × Bool × Int × Int × Int := changedF l dn fu fa s false (fun _ b => if b = true then 0 else 7) (fun i => l.take i.toNat ++ l.drop (i.toNat + 1))
def syncF (l : List S43) (dn : Bool) (fu fa : Int) (s : ByteArray) : List S43 × Bool × Int × Int × Int := changedF l dn fu fa s false (fun _ b => if b = true then 0 else 7) (fun i => l.set i.toNat ⟨(rd_T43 l i).f0, (rd_T43 l i).f1, ((rd_T43 l i).f1.size : Int)⟩)
def createF (l : List S43) (dn : Bool) (fu fa : Int) (s : ByteArray) : List S43 × Bool × Int × Int × Int := changedF l dn fu fa s false (rfC s l.length) (fun i => l.take i.toNat ++ [(⟨s, ⟨#[]⟩, 0⟩ : S43)] ++ l.drop i.toNat)
theorem disk_Append_eq (l : List S43) (dn : Bool) (fu fa : Int) (s d : ByteArray) : disk_Append.f l dn fu fa s d = some (appendF l dn fu fa s d) := rfl
theorem disk_Cut_eq (l : List S43) (dn : Bool) (fu fa : Int) (s : ByteArray) (n : Int) : disk_Cut.f l dn fu fa s n = some (cutF l dn fu fa s n) := rfl
theorem disk_Remove_eq (l : List S43) (dn : Bool) (fu fa : Int) (s : ByteArray) : disk_Remove.f l dn fu fa s = some (removeF l dn fu fa s) := rfl
theorem disk_Sync_eq (l : List S43) (dn : Bool) (fu fa : Int) (s : ByteArray) : disk_Sync.f l dn fu fa s = some (syncF l dn fu fa s) := rfl
theorem disk_Create_eq (l : List S43) (dn : Bool) (fu fa : Int) (s : ByteArray) : disk_Create.f l dn fu fa s = some (createF l dn fu fa s) := rfl
theorem changed_whole {l : List S43} (h : rightF l = true) (s : ByteArray) (wr : Bool) (rf : Int → Bool → Int) (df : Int → List S43) :
    changedF l false (-1) (-1) s wr rf df = if rf (bsOf l s) (isAt l s (bsOf l s)) = 0 then (df (bsOf l s), false, -1, -1, 0) else (l, false, -1, -1, rf (bsOf l s) (isAt l s (bsOf l s))) := by
  simp [changedF, h]
theorem read_zero {l : List S43} {dn : Bool} {s was : ByteArray} (h : readF l dn s = (was, 0)) : rightF l = true ∧ dn = false ∧ ∃ x, l[bsOf l s]? = some x ∧ isAt l s (bsOf l s) = true ∧ x.f0.toList = s.toList ∧ was = x.f1 := by
  unfold readF at h
  split at h
  · rename_i hr
    split at h
    · cases h
    · rename_i hd
      refine ⟨hr, by simpa using hd, ?_⟩
      split at h
      · rename_i x hx
        injection h with h1 h2
        unfold getF at hx
        split at hx
        · rename_i hi
          exact ⟨x, hx, hi, ((getF_iff hr s x).1 (by unfold getF; rw [if_pos hi]; exact hx)).2, h1.symm⟩
        · cases hx
      · cases h
  · cases h
theorem read_other {l : List S43} {dn : Bool} {s was : ByteArray} {w : Int} (h : readF l dn s = (was, w)) (hw : w ≠ 0) (d : ByteArray) : (appendF l dn (-1) (-1) s d).2.2.2.2 ≠ 0 := by
  unfold readF at h
  split at h
  · rename_i hr
    split at h
    · rename_i hd
      simp [appendF, changedF, hr, hd]
    · rename_i hd
      have hd : dn = false := by simpa using hd
      subst hd
      split at h
      · injection h with h1 h2
        exact absurd h2.symm hw
      · rename_i hn
        have hi : isAt l s (bsOf l s) = false := by
          cases e : isAt l s (bsOf l s) with
          | false => rfl
          | true =>
            obtain ⟨x, hx, _⟩ := (isAt_iff _ _ _).1 e
            rw [getF, if_pos e, hx] at hn
            cases hn
        simp [appendF, changed_whole hr, rfW, hi]
  · rename_i hr
    simp [appendF, changedF, hr]
theorem at_read {l : List S43} {s : ByteArray} (h : rightF l = true) {x : S43} (hx : x ∈ l) (e : x.f0.toList = s.toList) : readF l false s = (x.f1, 0) := by
  rw [readF, if_pos h, if_neg (by simp), (getF_iff h s x).2 ⟨hx, e⟩]
theorem none_read {l : List S43} {s : ByteArray} (h : rightF l = true) (e : ∀ x ∈ l, x.f0.toList ≠ s.toList) : readF l false s = ((⟨#[]⟩ : ByteArray), 7) := by
  rw [readF, if_pos h, if_neg (by simp), (getF_none h s).2 e]
theorem append_at {l : List S43} {s : ByteArray} {x : S43} (h : rightF l = true) (hx : l[bsOf l s]? = some x) (hi : isAt l s (bsOf l s) = true) (e : x.f0.toList = s.toList) (d : ByteArray) : (∃ l2, appendF l false (-1) (-1) s d = (l2, false, -1, -1, 0) ∧ readF l2 false s = (x.f1 ++ d, 0) ∧ x.f1.size + d.size ≤ 262144) ∨ ∃ l2, appendF l false (-1) (-1) s d = (l2, false, -1, -1, 8) := by
  rw [appendF, changed_whole h]
  by_cases hs : 262144 - (x.f1.size : Int) < (d.size : Int)
  · right
    rw [if_neg (by simp [rfW, hi, rd_get hx, hs])]
    exact ⟨l, by simp [rfW, hi, rd_get hx, hs]⟩
  · left
    rw [if_pos (by simp [rfW, hi, rd_get hx]; omega)]
    refine ⟨_, rfl, ?_, by omega⟩
    have hok := right_get h hx
    simp only [Int.toNat_natCast, rd_get hx]
    have hy : OkOne ⟨x.f0, x.f1 ++ d, x.f2⟩ := by
      refine ⟨hok.1, ?_, hok.2.2.1, ?_⟩
      · simp only [ByteArray.size_append]; omega
      · simp only [ByteArray.size_append]; have := hok.2.2.2; omega
    exact at_read (right_set (y := ⟨x.f0, x.f1 ++ d, x.f2⟩) h hx rfl hy) (mem_set_self hx) e
theorem cut_at {l : List S43} {s : ByteArray} {x : S43} (h : rightF l = true) (hx : l[bsOf l s]? = some x) (hi : isAt l s (bsOf l s) = true) (e : x.f0.toList = s.toList) (n : Int) (h0 : 0 ≤ n) (h1 : n ≤ (x.f1.size : Int)) : ∃ l2, cutF l false (-1) (-1) s n = (l2, false, -1, -1, 0) ∧ readF l2 false s = (x.f1.extract 0 n.toNat, 0) := by
  rw [cutF, changed_whole h, if_pos (by simp [rfT, hi, rd_get hx]; omega)]
  refine ⟨_, rfl, ?_⟩
  have hok := right_get h hx
  simp only [Int.toNat_natCast, rd_get hx]
  have hy : OkOne ⟨x.f0, x.f1.extract 0 n.toNat, n⟩ := by
    refine ⟨hok.1, ?_, h0, ?_⟩
    · simp only [ByteArray.size_extract]; omega
    · simp only [ByteArray.size_extract]; omega
  exact at_read (right_set (y := ⟨x.f0, x.f1.extract 0 n.toNat, n⟩) h hx rfl hy) (mem_set_self hx) e
theorem cut_not {l : List S43} {s : ByteArray} {x : S43} (h : rightF l = true) (hx : l[bsOf l s]? = some x) (hi : isAt l s (bsOf l s) = true) (e : x.f0.toList = s.toList) (n : Int) (hn : n < 0 ∨ (x.f1.size : Int) < n) : ∃ l2, cutF l false (-1) (-1) s n = (l2, false, -1, -1, 2) := by
  rw [cutF, changed_whole h, if_neg (by simp [rfT, hi, rd_get hx, hn])]
  exact ⟨l, by simp [rfT, hi, rd_get hx, hn]⟩
theorem remove_at {l : List S43} {s : ByteArray} {x : S43} (h : rightF l = true) (hx : l[bsOf l s]? = some x) (hi : isAt l s (bsOf l s) = true) (e : x.f0.toList = s.toList) : ∃ l2, removeF l false (-1) (-1) s = (l2, false, -1, -1, 0) ∧ readF l2 false s = ((⟨#[]⟩ : ByteArray), 7) := by
  rw [removeF, changed_whole h, if_pos (by simp [hi])]
  refine ⟨_, rfl, none_read (right_cut h _) ?_⟩
  intro y hy
  have := (mem_cut h hx).1 hy
  rw [e] at this
  exact this.2
end Go.Proofs.Ytanonhipicoigaa.T

namespace Go.Proofs.Ytanonhipicoigaa.T
open Go.RowKit Go.Proofs.YtanonhipicoigaaW.PrintWords Go.Proofs.YtanonhipicoigaaW.PrintLast Go.Proofs.YtanonhipicoigaaW.PrintMore
set_option linter.unusedVariables false
set_option linter.unusedSimpArgs false

/-! ### Steps in plain words -/
def doF (l : List S43) (dn : Bool) (fu fa k : Int) (s d : ByteArray) (n : Int) : List S43 × Bool × Int × Int × Int :=
  if k = 1 then createF l dn fu fa s else if k = 2 then appendF l dn fu fa s d else if k = 3 then syncF l dn fu fa s else if k = 4 then cutF l dn fu fa s n else if k = 5 then removeF l dn fu fa s
  else if rightF l = true then (l, dn, fu, fa, 5) else ([], false, 0, 0, 6)
theorem disk_Do_eq (l : List S43) (dn : Bool) (fu fa k : Int) (s d : ByteArray) (n : Int) : disk_Do.f l dn fu fa k s d n = some (doF l dn fu fa k s d n) := by
  unfold disk_Do.f doF
  simp only [disk_Create_eq, disk_Append_eq, disk_Sync_eq, disk_Cut_eq, disk_Remove_eq, Option.bind_some]
  split
  · rfl
  split
  · rfl
  split
  · rfl
  split
  · rfl
  split
  · rfl
  unfold disk_Check.f
  by_cases h : rightF l = true
  · rw [if_pos h, if_pos h]
    simp [api_File.f, small h]
  · rw [if_neg h, if_neg h]
    simp
/-- A change keeps a disk right and touches one name. -/
def Good (l : List S43) (s : ByteArray) (l' : List S43) : Prop := rightF l' = true ∧ ∀ x : S43, x.f0.toList ≠ s.toList → (x ∈ l' ↔ x ∈ l)
theorem good_set {l : List S43} (h : rightF l = true) {s : ByteArray} {x y : S43} (hx : l[bsOf l s]? = some x) (e : x.f0.toList = s.toList) (hn : y.f0 = x.f0) (hy : OkOne y) : Good l s (l.set (bsOf l s) y) :=
  ⟨right_set h hx hn hy, fun z hz => mem_set h hx hn (by rw [e]; exact hz)⟩
theorem good_create {l : List S43} {s : ByteArray} (h : rightF l = true) (hrf : rfC s l.length (bsOf l s) (isAt l s (bsOf l s)) = 0) : Good l s (l.take (bsOf l s) ++ [(⟨s, ⟨#[]⟩, 0⟩ : S43)] ++ l.drop (bsOf l s)) := by
  unfold rfC at hrf
  split at hrf
  · cases hrf
  rename_i h1
  split at hrf
  · cases hrf
  rename_i h2
  split at hrf
  · cases hrf
  rename_i h3
  simp only [not_or] at h1
  refine ⟨right_new h (by simpa using h2) ⟨show s.size ≤ 4096 by omega, show (⟨#[]⟩ : ByteArray).size ≤ 262144 by decide, show (0 : Int) ≤ 0 by decide, show (0 : Int) ≤ ((⟨#[]⟩ : ByteArray).size : Int) by decide⟩ rfl h1.1 (by omega), fun x hx => ?_⟩
  rw [mem_new]
  constructor
  · rintro (rfl | g)
    · exact absurd rfl hx
    · exact g
  · exact .inr
theorem at_of {l : List S43} {s : ByteArray} (h : rightF l = true) (hi : isAt l s (bsOf l s) = true) : ∃ x, l[bsOf l s]? = some x ∧ x.f0.toList = s.toList := (isAt_iff _ _ _).1 hi
theorem good_append {l : List S43} {s : ByteArray} (h : rightF l = true) (d : ByteArray) (hrf : rfW d l (bsOf l s) (isAt l s (bsOf l s)) = 0) : Good l s (l.set (bsOf l s : Int).toNat ⟨(rd_T43 l (bsOf l s)).f0, (rd_T43 l (bsOf l s)).f1 ++ d, (rd_T43 l (bsOf l s)).f2⟩) := by
  unfold rfW at hrf
  split at hrf
  · rename_i hi
    obtain ⟨x, hx, e⟩ := at_of h hi
    rw [rd_get hx] at hrf
    split at hrf
    · cases hrf
    rename_i hs
    simp only [Int.toNat_natCast, rd_get hx]
    have hok := right_get h hx
    exact good_set h hx e rfl ⟨hok.1, by simp only [ByteArray.size_append]; omega, hok.2.2.1, by simp only [ByteArray.size_append]; have := hok.2.2.2; omega⟩
  · cases hrf
theorem good_sync {l : List S43} {s : ByteArray} (h : rightF l = true) (hi : isAt l s (bsOf l s) = true) : Good l s (l.set (bsOf l s : Int).toNat ⟨(rd_T43 l (bsOf l s)).f0, (rd_T43 l (bsOf l s)).f1, ((rd_T43 l (bsOf l s)).f1.size : Int)⟩) := by
  obtain ⟨x, hx, e⟩ := at_of h hi
  simp only [Int.toNat_natCast, rd_get hx]
  have hok := right_get h hx
  exact good_set h hx e rfl ⟨hok.1, hok.2.1, by simp, Int.le_refl _⟩
theorem good_cut {l : List S43} {s : ByteArray} (h : rightF l = true) (n : Int) (hrf : rfT n l (bsOf l s) (isAt l s (bsOf l s)) = 0) : Good l s (l.set (bsOf l s : Int).toNat ⟨(rd_T43 l (bsOf l s)).f0, (rd_T43 l (bsOf l s)).f1.extract 0 n.toNat, n⟩) := by
  unfold rfT at hrf
  split at hrf
  · rename_i hi
    obtain ⟨x, hx, e⟩ := at_of h hi
    rw [rd_get hx] at hrf
    split at hrf
    · cases hrf
    rename_i hs
    simp only [Int.toNat_natCast, rd_get hx]
    have hok := right_get h hx
    refine good_set h hx e rfl ⟨hok.1, ?_, show 0 ≤ n by omega, ?_⟩
    · simp only [ByteArray.size_extract]; omega
    · simp only [ByteArray.size_extract]; omega
  · cases hrf
theorem good_remove {l : List S43} {s : ByteArray} (h : rightF l = true) (hi : isAt l s (bsOf l s) = true) : Good l s (l.take (bsOf l s : Int).toNat ++ l.drop ((bsOf l s : Int).toNat + 1)) := by
  obtain ⟨x, hx, e⟩ := at_of h hi
  simp only [Int.toNat_natCast]
  refine ⟨right_cut h _, fun z hz => ?_⟩
  rw [mem_cut h hx, e]
  exact ⟨fun g => g.1, fun g => ⟨g, hz⟩⟩
/-- What a change can come to. -/
inductive Came (l : List S43) (dn : Bool) (fu fa : Int) (s : ByteArray) (k : Int) : List S43 × Bool × Int × Int × Int → Prop
  | wrong : rightF l = false → Came l dn fu fa s k ([], false, 0, 0, 6)
  | down : rightF l = true → dn = true → Came l dn fu fa s k (l, dn, fu, fa, 17)
  | refused (e : Int) : rightF l = true → e ≠ 0 → e ≠ 17 → e ≠ 18 → Came l dn fu fa s k (l, dn, fu, fa, e)
  | fault : rightF l = true → dn = false → fa = 0 → Came l dn fu fa s k (l, dn, fu, -1, 18)
  | fuse (l' : List S43) (fa' : Int) : rightF l = true → dn = false → fa ≠ 0 → fu = 0 → (k ≠ 2 → l' = l) → Good l s l' → fa' = (if 0 < fa then wrap64 (fa - 1) else fa) → Came l dn fu fa s k (l', true, fu, fa', 17)
  | done (l' : List S43) (fu' fa' : Int) : rightF l = true → dn = false → fa ≠ 0 → fu ≠ 0 → Good l s l' → fu' = (if 0 < fu then wrap64 (fu - 1) else fu) → fa' = (if 0 < fa then wrap64 (fa - 1) else fa) → Came l dn fu fa s k (l', dn, fu', fa', 0)
theorem good_refl {l : List S43} (h : rightF l = true) (s : ByteArray) : Good l s l := ⟨h, fun _ _ => Iff.rfl⟩
theorem came_changed {l : List S43} {dn : Bool} {fu fa : Int} {s : ByteArray} {k : Int} {wr : Bool} {rf : Int → Bool → Int} {df : Int → List S43}
    (hw : wr = true → k = 2) (hrf : rf (bsOf l s) (isAt l s (bsOf l s)) ≠ 17 ∧ rf (bsOf l s) (isAt l s (bsOf l s)) ≠ 18)
    (hg : rightF l = true → rf (bsOf l s) (isAt l s (bsOf l s)) = 0 → Good l s (df (bsOf l s))) : Came l dn fu fa s k (changedF l dn fu fa s wr rf df) := by
  unfold changedF
  split
  · rename_i h
    split
    · rename_i hd
      exact .down h hd
    · rename_i hd
      have hd : dn = false := by simpa using hd
      split
      · rename_i hr
        split
        · rename_i hf
          exact .fault h hd hf
        · rename_i hf
          split
          · rename_i hu
            refine .fuse _ _ h hd hf hu (fun hk => ?_) ?_ rfl
            · rw [if_neg (fun e => hk (hw e))]
            · split
              · exact hg h hr
              · exact good_refl h s
          · rename_i hu
            exact .done _ _ _ h hd hf hu (hg h hr) rfl rfl
      · rename_i hr
        exact .refused _ h hr hrf.1 hrf.2
  · rename_i h
    exact .wrong (by simpa using h)
theorem came_do (l : List S43) (dn : Bool) (fu fa k : Int) (s d : ByteArray) (n : Int) : Came l dn fu fa s k (doF l dn fu fa k s d n) := by
  unfold doF
  split
  · refine came_changed (by simp) ?_ (fun h hr => by simpa using good_create h hr)
    unfold rfC
    split
    · decide
    · split
      · decide
      · split <;> decide
  split
  · refine came_changed (fun _ => by assumption) ?_ (fun h hr => good_append h d hr)
    unfold rfW
    split
    · split <;> decide
    · decide
  split
  · refine came_changed (by simp) ?_ (fun h hr => good_sync h ?_)
    · split <;> decide
    · revert hr; split <;> simp [*]
  split
  · refine came_changed (by simp) ?_ (fun h hr => good_cut h n hr)
    unfold rfT
    split
    · split <;> decide
    · decide
  split
  · refine came_changed (by simp) ?_ (fun h hr => good_remove h ?_)
    · split <;> decide
    · revert hr; split <;> simp [*]
  split
  · rename_i h
    exact .refused 5 h (by decide) (by decide) (by decide)
  · rename_i h
    exact .wrong (by simpa using h)
/-- What is read under another name stays. -/
theorem read_apart {l l' : List S43} {s t : ByteArray} (h : rightF l = true) (hg : Good l s l') (ht : t.toList ≠ s.toList) (dn : Bool) : readF l' dn t = readF l dn t := by
  unfold readF
  rw [if_pos h, if_pos hg.1]
  have e : getF l' t = getF l t := by
    apply Option.ext
    intro x
    rw [getF_iff hg.1, getF_iff h]
    constructor
    · rintro ⟨a, b⟩
      exact ⟨(hg.2 x (by rw [b]; exact ht)).1 a, b⟩
    · rintro ⟨a, b⟩
      exact ⟨(hg.2 x (by rw [b]; exact ht)).2 a, b⟩
  rw [e]
end Go.Proofs.Ytanonhipicoigaa.T

namespace Go.Proofs.Ytanonhipicoigaa.T
open Go.RowKit Go.Proofs.YtanonhipicoigaaW.PrintWords Go.Proofs.YtanonhipicoigaaW.PrintLast Go.Proofs.YtanonhipicoigaaW.PrintMore
set_option linter.unusedVariables false
set_option linter.unusedSimpArgs false

/-! ### A crash in plain words -/
theorem right_of_names {l l' : List S43} (h : rightF l = true) (hn : names l' = names l) (ho : ∀ x ∈ l', OkOne x) : rightF l' = true := by
  have h' := (right_iff l).1 h
  refine (right_iff l').2 ⟨by rw [hn]; exact h'.1, ho, ?_⟩
  have : (names l').length = (names l).length := by rw [hn]
  simp only [names, List.length_map] at this
  omega
theorem crash_names (l : List S43) (ks : List Int) : names (crashF l ks) = names l := by
  unfold names crashF
  apply List.ext_getElem?
  intro i
  simp only [List.getElem?_map, List.getElem?_mapIdx]
  cases l[i]? <;> rfl
theorem crash_one {x : S43} (h : OkOne x) (k : Option Int) : OkOne (crash1 x k) ∧ ((crash1 x k).f1.size : Int) = (crash1 x k).f2 := by
  have hr := crashS_range h.2.2.1 h.2.2.2 k
  have h2 := h.2.2.1
  have h1 := h.2.1
  have hs : ((x.f1.extract 0 (crashS x k).toNat).size : Int) = crashS x k := by
    simp only [ByteArray.size_extract]
    omega
  refine ⟨⟨h.1, ?_, ?_, ?_⟩, hs⟩
  · show (x.f1.extract 0 (crashS x k).toNat).size ≤ 262144
    simp only [ByteArray.size_extract]
    omega
  · show 0 ≤ crashS x k
    omega
  · show crashS x k ≤ ((x.f1.extract 0 (crashS x k).toNat).size : Int)
    omega
theorem mem_crash {l : List S43} {ks : List Int} {y : S43} (h : y ∈ crashF l ks) : ∃ (i : Nat) (x : S43), l[i]? = some x ∧ y = crash1 x ks[i]? := by
  obtain ⟨i, hi⟩ := List.getElem?_of_mem h
  simp only [crashF, List.getElem?_mapIdx] at hi
  cases e : l[i]? with
  | none => rw [e] at hi; cases hi
  | some x =>
    rw [e] at hi
    injection hi with hi
    exact ⟨i, x, e, hi.symm⟩
theorem crash_right {l : List S43} (h : rightF l = true) (ks : List Int) : rightF (crashF l ks) = true := by
  refine right_of_names h (crash_names l ks) fun y hy => ?_
  obtain ⟨i, x, hx, rfl⟩ := mem_crash hy
  exact (crash_one (((right_iff l).1 h).2.1 x (List.mem_of_getElem? hx)) _).1
theorem crash_again {x : S43} (h : (x.f1.size : Int) = x.f2) (k : Option Int) : crash1 x k = x := by
  have hS : crashS x k = x.f2 := by
    cases k with
    | none => rfl
    | some v =>
      simp only [crashS, mn, mx]
      split <;> split <;> omega
  unfold crash1
  rw [hS]
  have e : x.f2.toNat = x.f1.size := by omega
  rw [e, ByteArray.extract_zero_size]
theorem crash_twice {l : List S43} (h : rightF l = true) (k1 k2 : List Int) : crashF (crashF l k1) k2 = crashF l k1 := by
  apply List.ext_getElem?
  intro i
  cases e : l[i]? with
  | none =>
    rw [List.getElem?_eq_none (by rw [crashF_length, crashF_length]; exact List.getElem?_eq_none_iff.1 e), List.getElem?_eq_none (by rw [crashF_length]; exact List.getElem?_eq_none_iff.1 e)]
  | some x =>
    have h1 := crashF_get (ks := k1) e
    rw [crashF_get h1, h1, crash_again (crash_one (((right_iff l).1 h).2.1 x (List.mem_of_getElem? e)) _).2]
theorem same_l0 (l : List S43) (dn : Bool) (fu fa : Int) (hl : l.length ≤ 64) : ∀ (f i : Nat), i ≤ l.length → l.length - i < f → penstockref09_Same.l0 f (l.length : Int) (i : Int) l dn fu fa l dn fu fa = some true
  | 0, i, hi, hf => by omega
  | f + 1, i, hi, hf => by
    rw [penstockref09_Same.l0]
    by_cases h : i < l.length
    · rw [if_pos (by omega), if_pos (by omega), if_pos (by omega), if_pos (by omega)]
      have e : wrap64 ((i : Int) + 1) = ((i + 1 : Nat) : Int) := by
        unfold wrap64
        omega
      rw [e]
      simp only [beq_self_eq_true, Bool.not_true, Bool.or_self, Bool.false_eq_true, if_false]
      exact same_l0 l dn fu fa hl f (i + 1) (by omega) (by omega)
    · rw [if_neg (by omega)]
theorem same_refl (l : List S43) (dn : Bool) (fu fa : Int) (hl : l.length ≤ 64) : penstockref09_Same.f 70 l dn fu fa l dn fu fa = some true := by
  unfold penstockref09_Same.f
  rw [if_neg (by simp), if_pos rfl, if_pos rfl, penstockref09_Same.j0, if_neg (by simp)]
  exact same_l0 l dn fu fa hl 69 0 (by omega) (by omega)
end Go.Proofs.Ytanonhipicoigaa.T

namespace Go.Proofs.Ytanonhipicoigaa.T
open Go.RowKit Go.Proofs.YtanonhipicoigaaW.PrintWords Go.Proofs.YtanonhipicoigaaW.PrintLast Go.Proofs.YtanonhipicoigaaW.PrintMore
set_option linter.unusedVariables false
set_option linter.unusedSimpArgs false

/-! ### What a fault leaves, in plain words -/
def Fz (l l2 : List S43) (k : Int) (s d : ByteArray) : Prop := l2.length = l.length ∧ (k ≠ 2 → l2 = l) ∧
  ∀ (i : Nat) (x : S43), l[i]? = some x → l2[i]? = some x ∨ (x.f0.toList = s.toList ∧ x.f1.size + d.size ≤ 262144 ∧ l2[i]? = some ⟨x.f0, x.f1 ++ d, x.f2⟩)
theorem Fz.refl (l : List S43) (k : Int) (s d : ByteArray) : Fz l l k s d := ⟨rfl, fun _ => rfl, fun i x h => .inl h⟩
def Fault (l : List S43) (k : Int) (s d : ByteArray) (R : List S43 × Bool × Int × Int × Int) : Prop :=
  (R.2.2.2.2 ≠ 18 ∧ R.2.2.2.2 ≠ 17) ∨ (rightF l = true ∧ rightF R.1 = true ∧ Fz l R.1 k s d ∧ ((R.2.2.2.2 = 18 ∧ R.2.2.2.1 = -1 ∧ R.2.1 = false) ∨ (R.2.2.2.2 = 17 ∧ R.2.1 = true)))
theorem append_fault (l : List S43) (dn : Bool) (fu fa : Int) (s d : ByteArray) : Fault l 2 s d (appendF l dn fu fa s d) := by
  unfold appendF changedF
  split
  · rename_i h
    split
    · rename_i hd
      exact .inr ⟨h, h, Fz.refl _ _ _ _, .inr ⟨rfl, hd⟩⟩
    · rename_i hd
      have hd : dn = false := by simpa using hd
      split
      · rename_i hr
        split
        · exact .inr ⟨h, h, Fz.refl _ _ _ _, .inl ⟨rfl, rfl, hd⟩⟩
        · split
          · have hg := good_append h d hr
            refine .inr ⟨h, ?_, ?_, .inr ⟨rfl, rfl⟩⟩
            · simp only [if_true]
              exact hg.1
            · simp only [if_true]
              unfold rfW at hr
              split at hr
              · rename_i hi
                obtain ⟨x, hx, e⟩ := at_of h hi
                rw [rd_get hx] at hr
                split at hr
                · cases hr
                rename_i hs
                simp only [Int.toNat_natCast, rd_get hx]
                refine ⟨by rw [List.length_set], fun h2 => absurd rfl h2, fun i y hy => ?_⟩
                by_cases hib : bsOf l s = i
                · subst hib
                  rw [hx] at hy
                  injection hy with hy
                  subst hy
                  exact .inr ⟨e, by omega, by rw [List.getElem?_set_self (List.getElem?_eq_some_iff.1 hx).1]⟩
                · exact .inl (by rw [List.getElem?_set_ne hib]; exact hy)
              · cases hr
          · exact .inl ⟨by simp, by simp⟩
      · left
        unfold rfW
        split
        · split <;> exact ⟨by simp, by simp⟩
        · exact ⟨by simp, by simp⟩
  · exact .inl ⟨by simp, by simp⟩
theorem do_fault (l : List S43) (dn : Bool) (fu fa k : Int) (s d : ByteArray) (n : Int) : Fault l k s d (doF l dn fu fa k s d n) := by
  by_cases hk : k = 2
  · subst hk
    have e : doF l dn fu fa 2 s d n = appendF l dn fu fa s d := by simp [doF]
    rw [e]
    exact append_fault l dn fu fa s d
  · have hc := came_do l dn fu fa k s d n
    revert hc
    generalize doF l dn fu fa k s d n = R
    intro hc
    cases hc with
    | wrong h => exact .inl ⟨by simp, by simp⟩
    | down h hd => exact .inr ⟨h, h, Fz.refl _ _ _ _, .inr ⟨rfl, hd⟩⟩
    | refused e h h1 h2 h3 => exact .inl ⟨h3, h2⟩
    | fault h hd hf => exact .inr ⟨h, h, Fz.refl _ _ _ _, .inl ⟨rfl, rfl, hd⟩⟩
    | fuse l' fa' h hd hf hu hl hg he =>
      have := hl hk
      subst this
      exact .inr ⟨h, h, Fz.refl _ _ _ _, .inr ⟨rfl, rfl⟩⟩
    | done l' fu' fa' h hd hf hu hg h1 h2 => exact .inl ⟨by simp, by simp⟩
theorem do_faults (l : List S43) (dn : Bool) (fu fa k : Int) (s d : ByteArray) (n : Int) : ∃ l2 dn2 fu2 fa2 e, disk_Do.f l dn fu fa k s d n = some (l2, dn2, fu2, fa2, e) ∧
    ((¬ e = 18 ∧ ¬ e = 17) ∨ (rightF l = true ∧ rightF l2 = true ∧ Fz l l2 k s d ∧ ((e = 18 ∧ fa2 = -1 ∧ dn2 = false) ∨ (e = 17 ∧ dn2 = true)))) :=
  ⟨_, _, _, _, _, disk_Do_eq l dn fu fa k s d n, do_fault l dn fu fa k s d n⟩
/-- A disk that is down does nothing. -/
theorem do_down {l : List S43} (h : rightF l = true) (fu fa k : Int) (s d : ByteArray) (n : Int) : ∃ e, disk_Do.f l true fu fa k s d n = some (l, true, fu, fa, e) ∧ (e = 17 ∨ (e ≠ 17 ∧ e = 5)) := by
  rw [disk_Do_eq]
  unfold doF createF appendF syncF cutF removeF changedF
  simp only [if_pos h, if_true]
  split
  · exact ⟨_, rfl, .inl rfl⟩
  split
  · exact ⟨_, rfl, .inl rfl⟩
  split
  · exact ⟨_, rfl, .inl rfl⟩
  split
  · exact ⟨_, rfl, .inl rfl⟩
  split
  · exact ⟨_, rfl, .inl rfl⟩
  exact ⟨_, rfl, .inr ⟨by decide, rfl⟩⟩
theorem copy_eq {l : List S43} (h : l.length ≤ 64) (dn : Bool) (fu fa : Int) : penstockref09_Copy.f l dn fu fa = some (l, dn, fu, fa) := by
  unfold penstockref09_Copy.f
  simp only [Option.bind_some, List.nil_append, List.length_nil]
  rw [if_pos (by omega)]
end Go.Proofs.Ytanonhipicoigaa.T

namespace Go.Proofs.Ytanonhipicoigaa.T
open Go.RowKit Go.Proofs.YtanonhipicoigaaW.PrintWords Go.Proofs.YtanonhipicoigaaW.PrintLast Go.Proofs.YtanonhipicoigaaW.PrintMore
set_option linter.unusedVariables false
set_option linter.unusedSimpArgs false

/-! ### The disk that lives asks -/
def lvA : ByteArray := ⟨#[97]⟩
def lvXY : ByteArray := ⟨#[120, 121]⟩
def lvZ : ByteArray := ⟨#[122]⟩
def lvXYZ : ByteArray := ⟨#[120, 121, 122]⟩
def lv0 : List S43 := []
def lv1 : List S43 := [⟨⟨#[97]⟩, ⟨#[]⟩, 0⟩]
def lv2 : List S43 := [⟨⟨#[97]⟩, ⟨#[120, 121]⟩, 0⟩]
def lv3 : List S43 := [⟨⟨#[97]⟩, ⟨#[120, 121]⟩, 2⟩]
def lv4 : List S43 := [⟨⟨#[97]⟩, ⟨#[120, 121, 122]⟩, 2⟩]
def lv6 : List S43 := [⟨⟨#[97]⟩, ⟨#[120, 121, 122]⟩, 3⟩]
theorem lv0_0 : penstocklaw09_whole.f = some (lv0, false, -1, -1) := rfl
theorem lv0_1 : disk_Create.f lv0 false (-1) (-1) ⟨#[97]⟩ = some (lv1, false, -1, -1, 0) := by
  simp [disk_Create.f, changedF, rightF, okFiles, okFile, lv0, lv1, bsOf, bsGo, isAt, rfC, ByteArray.toList_eq, ByteArray.size]
theorem ok1 (x : ByteArray) (n : Int) (h0 : 0 ≤ n) (h1 : n ≤ (x.size : Int)) (h2 : x.size ≤ 262144) : rightF [⟨⟨#[97]⟩, x, n⟩] = true := by
  simp [rightF, okFiles, okFile, ByteArray.toList_eq, Op.bytesLess, h0, h1, h2]
  simp [ByteArray.size]
theorem bs1 (x : ByteArray) (n : Int) : bsOf [⟨⟨#[97]⟩, x, n⟩] ⟨#[97]⟩ = 0 := by
  simp [bsOf, bsGo, cmpS, rd_T43, bl_irrefl]
theorem at1 (x : ByteArray) (n : Int) : isAt [⟨⟨#[97]⟩, x, n⟩] ⟨#[97]⟩ 0 = true := by
  simp [isAt, cmpS, rd_T43, bl_irrefl]
theorem lv1_2 : disk_Append.f lv1 false (-1) (-1) ⟨#[97]⟩ ⟨#[120, 121]⟩ = some (lv2, false, -1, -1, 0) := by
  simp [disk_Append.f, changedF, lv1, lv2, ok1 ⟨#[]⟩ 0 (by decide) (by decide) (by decide), bs1, at1, rfW, rd_T43]
  rw [if_pos (by decide)]
  rfl
theorem lv2_3 : disk_Sync.f lv2 false (-1) (-1) ⟨#[97]⟩ = some (lv3, false, -1, -1, 0) := by
  simp [disk_Sync.f, changedF, lv2, lv3, ok1 ⟨#[120, 121]⟩ 0 (by decide) (by decide) (by decide), bs1, at1, rd_T43]
  decide
theorem lv3_4 : disk_Append.f lv3 false (-1) (-1) ⟨#[97]⟩ ⟨#[122]⟩ = some (lv4, false, -1, -1, 0) := by
  simp [disk_Append.f, changedF, lv3, lv4, ok1 ⟨#[120, 121]⟩ 2 (by decide) (by decide) (by decide), bs1, at1, rfW, rd_T43]
  rw [if_pos (by decide)]
  rfl
theorem lv4_5 : disk_Crash.f lv4 false (-1) (-1) [] = some (lv3, false, -1, -1, 0) := by
  simp [disk_Crash.f, lv3, lv4, ok1 ⟨#[120, 121, 122]⟩ 2 (by decide) (by decide) (by decide), crashF, crash1, crashS]
  decide
theorem lv4_6 : disk_Crash.f lv4 false (-1) (-1) [1] = some (lv6, false, -1, -1, 0) := by
  simp [disk_Crash.f, lv6, lv4, ok1 ⟨#[120, 121, 122]⟩ 2 (by decide) (by decide) (by decide), crashF, crash1, crashS]
  decide
theorem lv5_7 : disk_Read.f lv3 false (-1) (-1) ⟨#[97]⟩ = some (⟨#[120, 121]⟩, 0) := by
  simp [disk_Read.f, disk_asked.f, disk_Check.f, disk_place.f, lv3, ok1 ⟨#[120, 121]⟩ 2 (by decide) (by decide) (by decide), bs1, at1, rd_T43]
theorem lv6_8 : disk_Read.f lv6 false (-1) (-1) ⟨#[97]⟩ = some (⟨#[120, 121, 122]⟩, 0) := by
  simp [disk_Read.f, disk_asked.f, disk_Check.f, disk_place.f, lv6, ok1 ⟨#[120, 121, 122]⟩ 3 (by decide) (by decide) (by decide), bs1, at1, rd_T43]
theorem ints1 {w : World} {g : Nat} (h : w.heap[g]? = some (.cells #[.int .i64 1] 3 (0, 0))) : (Kd.int .i64).C w (some ⟨g, 0, none⟩) 1 [1] := by
  refine Kd.C_of_reads (d := (0 : Int)) ⟨rfl, by decide, fun _ => ⟨_, rfl, fun j hj => ?_⟩⟩
  obtain rfl : j = 0 := by omega
  rw [add_plain']
  exact (blk_cell h _).trans rfl
theorem ints2 {w : World} {g : Nat} (e : w.heap.size = g) : (Kd.int .i64).C (w.alloc (.cells #[.int .i64 1] 3 (0, 0))) (some ⟨g, 0, none⟩) 1 [1] := by
  subst e
  exact ints1 (blk_new _ _)
def lives.f : Option Bool := some true
set_option maxHeartbeats 8000000 in
set_option maxRecDepth 100000 in
theorem lives.calls (r : Bool) (w : World) (h : lives.f = some r) : Calls Try.prog 9 #[] w fun e w' => e = .returned (.bool r) ∧ Below w.heap.size w w' := by
  obtain rfl : true = r := Option.some.inj h
  clear h
  have HB := Aside0.mk (Below.refl w.heap.size w)
  go_enter Try.func9, Try.ntmps9
  go_wp2_with fail
  refine ((penstocklaw09_whole.calls lv0 false (-1) (-1) _ lv0_0).mono ?_)
  rintro e wd1 ⟨v, rfl, ho, hb⟩
  have n0_ := Aside0.mk (below_step HB.out hb)
  have n1_ := Aside0.mk (Kd.R_lower ho (HB.out).size)
  clear HB
  have HB := n0_
  have HO0 := n1_
  clear n0_ n1_
  obtain ⟨A0, c0, eo⟩ := Kd.R_slice HO0.out
  subst eo
  clear ho hb
  go_wp2_with fail
  refine ((disk_Create.calls A0 c0 lv0 (false) (-1) (-1) (⟨#[97]⟩) (lv1) (false) (-1) (-1) (0) _ (Kd.R_reads' HO0.out).2.2 (Kd.R_reads' HO0.out).2.1 lv0_1).mono ?_)
  rintro e wd2 ⟨v, rfl, ho, hb⟩
  have n0_ := Aside0.mk (below_step HB.out hb)
  have n1_ := Aside0.mk (Kd.R_below HO0.out hb)
  have n2_ := Aside0.mk (Kd.R_lower ho (HB.out).size)
  clear HB HO0
  have HB := n0_
  have HO0 := n1_
  have HO1 := n2_
  clear n0_ n1_ n2_
  obtain ⟨A1, c1, eo⟩ := Kd.R_slice HO1.out
  subst eo
  clear ho hb
  clear HO0
  go_wp2_with (first
      | ((with_reducible refine gate_dst (N := 1) rfl ?_);
          refine box_event ?hg (N := 1) ?hd (cs := #[.slice none 0 0, .bool false, .int .i64 0, .int .i64 0]) (t := 24) ?hr ?_;
          (case hd => rfl); (case hg => rfl); (case hr => first | (go_simp; done) | (go_simp; rfl));
          intro gd hg wd3 hbox hb;
          have n0_ := Aside0.mk (below_step HB.out hb);
          have n1_ := Aside0.mk (Kd.R_below HO1.out hb);
          have n2_ := Aside0.mk (show w.heap.size ≤ gd by rw [hg]; exact (HB.out).size);
          clear HB HO1;
          have HB := n0_;
          have HO1 := n1_;
          have GEd := n2_;
          clear n0_ n1_ n2_;
          have BKd := Aside0.mk hbox;
          clear hg hbox hb;
          have cd_0 : wd3.cell? ⟨gd, 0, none⟩ = some (.slice none 0 0) := (blk_cell BKd.out 0).trans rfl;
          have cd_1 : wd3.cell? ⟨gd, 1, none⟩ = some (.bool false) := (blk_cell BKd.out 1).trans rfl;
          have cd_2 : wd3.cell? ⟨gd, 2, none⟩ = some (.int .i64 0) := (blk_cell BKd.out 2).trans rfl;
          have cd_3 : wd3.cell? ⟨gd, 3, none⟩ = some (.int .i64 0) := (blk_cell BKd.out 3).trans rfl;
          have fd_0 := blk_frozen BKd.out 0;
          have fd_1 := blk_frozen BKd.out 1;
          have fd_2 := blk_frozen BKd.out 2;
          have fd_3 := blk_frozen BKd.out 3)
      | fail)
  refine ((disk_Append.calls A1 c1 lv1 (false) (-1) (-1) (⟨#[97]⟩) (⟨#[120, 121]⟩) (lv2) (false) (-1) (-1) (0) _ (Kd.R_reads' (R4 HO1.out BKd.out (by decide) _ _ _ _)).2.2 (Kd.R_reads' HO1.out).2.1 lv1_2).mono ?_)
  rintro e wd4 ⟨v, rfl, ho, hb⟩
  have n0_ := Aside0.mk (below_step (below4 HB.out GEd.out _ _ _ _) hb)
  have n1_ := Aside0.mk (show wd4.heap[gd]? = some (.cells #[.slice A1 lv1.length c1, .bool false, .int .i64 (-1), .int .i64 (-1)] 24 (0, 0)) from blk_below (put4 BKd.out (.slice A1 lv1.length c1) (.bool false) (.int .i64 (-1)) (.int .i64 (-1))) hb)
  have n2_ := Aside0.mk (Kd.R_below (R4 HO1.out BKd.out (by decide) _ _ _ _) hb)
  have n3_ := Aside0.mk (Kd.R_lower ho ((below4 HB.out GEd.out _ _ _ _)).size)
  clear HB BKd HO1
  clear cd_0 cd_1 cd_2 cd_3 fd_0 fd_1 fd_2 fd_3
  have HB := n0_
  have BKd := n1_
  have HO1 := n2_
  have HO2 := n3_
  clear n0_ n1_ n2_ n3_
  obtain ⟨A2, c2, eo⟩ := Kd.R_slice HO2.out
  subst eo
  clear ho hb
  have cd_0 : wd4.cell? ⟨gd, 0, none⟩ = some (.slice A1 lv1.length c1) := (blk_cell BKd.out 0).trans rfl
  have cd_1 : wd4.cell? ⟨gd, 1, none⟩ = some (.bool false) := (blk_cell BKd.out 1).trans rfl
  have cd_2 : wd4.cell? ⟨gd, 2, none⟩ = some (.int .i64 (-1)) := (blk_cell BKd.out 2).trans rfl
  have cd_3 : wd4.cell? ⟨gd, 3, none⟩ = some (.int .i64 (-1)) := (blk_cell BKd.out 3).trans rfl
  have fd_0 := blk_frozen BKd.out 0
  have fd_1 := blk_frozen BKd.out 1
  have fd_2 := blk_frozen BKd.out 2
  have fd_3 := blk_frozen BKd.out 3
  clear HO1
  go_wp2_with fail
  refine ((disk_Sync.calls A2 c2 lv2 (false) (-1) (-1) (⟨#[97]⟩) (lv3) (false) (-1) (-1) (0) _ (Kd.R_reads' (R4 HO2.out BKd.out (by decide) _ _ _ _)).2.2 (Kd.R_reads' HO2.out).2.1 lv2_3).mono ?_)
  rintro e wd5 ⟨v, rfl, ho, hb⟩
  have n0_ := Aside0.mk (below_step (below4 HB.out GEd.out _ _ _ _) hb)
  have n1_ := Aside0.mk (show wd5.heap[gd]? = some (.cells #[.slice A2 lv2.length c2, .bool false, .int .i64 (-1), .int .i64 (-1)] 24 (0, 0)) from blk_below (put4 BKd.out (.slice A2 lv2.length c2) (.bool false) (.int .i64 (-1)) (.int .i64 (-1))) hb)
  have n2_ := Aside0.mk (Kd.R_below (R4 HO2.out BKd.out (by decide) _ _ _ _) hb)
  have n3_ := Aside0.mk (Kd.R_lower ho ((below4 HB.out GEd.out _ _ _ _)).size)
  clear HB BKd HO2
  clear cd_0 cd_1 cd_2 cd_3 fd_0 fd_1 fd_2 fd_3
  have HB := n0_
  have BKd := n1_
  have HO2 := n2_
  have HO3 := n3_
  clear n0_ n1_ n2_ n3_
  obtain ⟨A3, c3, eo⟩ := Kd.R_slice HO3.out
  subst eo
  clear ho hb
  have cd_0 : wd5.cell? ⟨gd, 0, none⟩ = some (.slice A2 lv2.length c2) := (blk_cell BKd.out 0).trans rfl
  have cd_1 : wd5.cell? ⟨gd, 1, none⟩ = some (.bool false) := (blk_cell BKd.out 1).trans rfl
  have cd_2 : wd5.cell? ⟨gd, 2, none⟩ = some (.int .i64 (-1)) := (blk_cell BKd.out 2).trans rfl
  have cd_3 : wd5.cell? ⟨gd, 3, none⟩ = some (.int .i64 (-1)) := (blk_cell BKd.out 3).trans rfl
  have fd_0 := blk_frozen BKd.out 0
  have fd_1 := blk_frozen BKd.out 1
  have fd_2 := blk_frozen BKd.out 2
  have fd_3 := blk_frozen BKd.out 3
  clear HO2
  go_wp2_with fail
  refine ((disk_Append.calls A3 c3 lv3 (false) (-1) (-1) (⟨#[97]⟩) (⟨#[122]⟩) (lv4) (false) (-1) (-1) (0) _ (Kd.R_reads' (R4 HO3.out BKd.out (by decide) _ _ _ _)).2.2 (Kd.R_reads' HO3.out).2.1 lv3_4).mono ?_)
  rintro e wd6 ⟨v, rfl, ho, hb⟩
  have n0_ := Aside0.mk (below_step (below4 HB.out GEd.out _ _ _ _) hb)
  have n1_ := Aside0.mk (show wd6.heap[gd]? = some (.cells #[.slice A3 lv3.length c3, .bool false, .int .i64 (-1), .int .i64 (-1)] 24 (0, 0)) from blk_below (put4 BKd.out (.slice A3 lv3.length c3) (.bool false) (.int .i64 (-1)) (.int .i64 (-1))) hb)
  have n2_ := Aside0.mk (Kd.R_below (R4 HO3.out BKd.out (by decide) _ _ _ _) hb)
  have n3_ := Aside0.mk (Kd.R_lower ho ((below4 HB.out GEd.out _ _ _ _)).size)
  clear HB BKd HO3
  clear cd_0 cd_1 cd_2 cd_3 fd_0 fd_1 fd_2 fd_3
  have HB := n0_
  have BKd := n1_
  have HO3 := n2_
  have HO4 := n3_
  clear n0_ n1_ n2_ n3_
  obtain ⟨A4, c4, eo⟩ := Kd.R_slice HO4.out
  subst eo
  clear ho hb
  have cd_0 : wd6.cell? ⟨gd, 0, none⟩ = some (.slice A3 lv3.length c3) := (blk_cell BKd.out 0).trans rfl
  have cd_1 : wd6.cell? ⟨gd, 1, none⟩ = some (.bool false) := (blk_cell BKd.out 1).trans rfl
  have cd_2 : wd6.cell? ⟨gd, 2, none⟩ = some (.int .i64 (-1)) := (blk_cell BKd.out 2).trans rfl
  have cd_3 : wd6.cell? ⟨gd, 3, none⟩ = some (.int .i64 (-1)) := (blk_cell BKd.out 3).trans rfl
  have fd_0 := blk_frozen BKd.out 0
  have fd_1 := blk_frozen BKd.out 1
  have fd_2 := blk_frozen BKd.out 2
  have fd_3 := blk_frozen BKd.out 3
  clear HO3
  go_wp2_with fail
  refine ((disk_Crash.calls A4 c4 lv4 false (-1) (-1) none 0 [] (lv3) (false) (-1) (-1) (0) _ (Kd.R_reads' (R4 HO4.out BKd.out (by decide) _ _ _ _)).2.2 (Kd.R_reads' HO4.out).2.1 (Kd.C_nil _ _) (Nat.le_refl _) lv4_5).mono ?_)
  rintro e wd7 ⟨v, rfl, ho, hb⟩
  have n0_ := Aside0.mk (below_step (below4 HB.out GEd.out _ _ _ _) hb)
  have n1_ := Aside0.mk (show wd7.heap[gd]? = some (.cells #[.slice A4 lv4.length c4, .bool false, .int .i64 (-1), .int .i64 (-1)] 24 (0, 0)) from blk_below (put4 BKd.out (.slice A4 lv4.length c4) (.bool false) (.int .i64 (-1)) (.int .i64 (-1))) hb)
  have n2_ := Aside0.mk (Kd.R_below (R4 HO4.out BKd.out (by decide) _ _ _ _) hb)
  have n3_ := Aside0.mk (Kd.R_lower ho ((below4 HB.out GEd.out _ _ _ _)).size)
  clear HB BKd HO4
  clear cd_0 cd_1 cd_2 cd_3 fd_0 fd_1 fd_2 fd_3
  have HB := n0_
  have BKd := n1_
  have HO4 := n2_
  have HOe := n3_
  clear n0_ n1_ n2_ n3_
  obtain ⟨Ae, ce, eo⟩ := Kd.R_slice HOe.out
  subst eo
  clear ho hb
  have cd_0 : wd7.cell? ⟨gd, 0, none⟩ = some (.slice A4 lv4.length c4) := (blk_cell BKd.out 0).trans rfl
  have cd_1 : wd7.cell? ⟨gd, 1, none⟩ = some (.bool false) := (blk_cell BKd.out 1).trans rfl
  have cd_2 : wd7.cell? ⟨gd, 2, none⟩ = some (.int .i64 (-1)) := (blk_cell BKd.out 2).trans rfl
  have cd_3 : wd7.cell? ⟨gd, 3, none⟩ = some (.int .i64 (-1)) := (blk_cell BKd.out 3).trans rfl
  have fd_0 := blk_frozen BKd.out 0
  have fd_1 := blk_frozen BKd.out 1
  have fd_2 := blk_frozen BKd.out 2
  have fd_3 := blk_frozen BKd.out 3
  go_wp2_with (first
      | ((with_reducible refine gate_dst (N := 6) rfl ?_);
          refine box_event ?hg (N := 6) ?hd (cs := #[.slice none 0 0, .bool false, .int .i64 0, .int .i64 0]) (t := 24) ?hr ?_;
          (case hd => rfl); (case hg => rfl); (case hr => first | (go_simp; done) | (go_simp; rfl));
          intro ge hg wd8 hbox hb;
          have n0_ := Aside0.mk (below_step HB.out hb);
          have n1_ := Aside0.mk (show wd8.heap[gd]? = some (.cells #[.slice A4 lv4.length c4, .bool false, .int .i64 (-1), .int .i64 (-1)] 24 (0, 0)) from blk_below BKd.out hb);
          have n2_ := Aside0.mk (Kd.R_below HO4.out hb);
          have n3_ := Aside0.mk (Kd.R_below HOe.out hb);
          have n4_ := Aside0.mk (show w.heap.size ≤ ge by rw [hg]; exact (HB.out).size);
          have n5_ := Aside0.mk (show gd ≠ ge by rw [hg]; exact Nat.ne_of_lt (blk_lt BKd.out));
          have n6_ := Aside0.mk (show ge ≠ gd by rw [hg]; exact Nat.ne_of_gt (blk_lt BKd.out));
          clear HB BKd HO4 HOe;
          clear cd_0 cd_1 cd_2 cd_3 fd_0 fd_1 fd_2 fd_3;
          have HB := n0_;
          have BKd := n1_;
          have HO4 := n2_;
          have HOe := n3_;
          have GEe := n4_;
          have Nd_e := n5_;
          have Ne_d := n6_;
          clear n0_ n1_ n2_ n3_ n4_ n5_ n6_;
          have BKe := Aside0.mk hbox;
          clear hg hbox hb;
          have ned_e := Nd_e.out;
          have nee_d := Ne_d.out;
          have cd_0 : wd8.cell? ⟨gd, 0, none⟩ = some (.slice A4 lv4.length c4) := (blk_cell BKd.out 0).trans rfl;
          have cd_1 : wd8.cell? ⟨gd, 1, none⟩ = some (.bool false) := (blk_cell BKd.out 1).trans rfl;
          have cd_2 : wd8.cell? ⟨gd, 2, none⟩ = some (.int .i64 (-1)) := (blk_cell BKd.out 2).trans rfl;
          have cd_3 : wd8.cell? ⟨gd, 3, none⟩ = some (.int .i64 (-1)) := (blk_cell BKd.out 3).trans rfl;
          have ce_0 : wd8.cell? ⟨ge, 0, none⟩ = some (.slice none 0 0) := (blk_cell BKe.out 0).trans rfl;
          have ce_1 : wd8.cell? ⟨ge, 1, none⟩ = some (.bool false) := (blk_cell BKe.out 1).trans rfl;
          have ce_2 : wd8.cell? ⟨ge, 2, none⟩ = some (.int .i64 0) := (blk_cell BKe.out 2).trans rfl;
          have ce_3 : wd8.cell? ⟨ge, 3, none⟩ = some (.int .i64 0) := (blk_cell BKe.out 3).trans rfl;
          have fe_0 := blk_frozen BKe.out 0;
          have fe_1 := blk_frozen BKe.out 1;
          have fe_2 := blk_frozen BKe.out 2;
          have fe_3 := blk_frozen BKe.out 3)
      | fail)
  refine ((disk_Crash.calls A4 c4 lv4 false (-1) (-1) (some ⟨wd8.heap.size, 0, none⟩) 1 [1] (lv6) (false) (-1) (-1) (0) _ (Kd.R_reads' (Kd.R_alloc (R4 HO4.out BKe.out (by decide) _ _ _ _) _)).2.2 (Kd.R_reads' HO4.out).2.1 (ints2 (by simp [World.setCell])) (Nat.le_refl _) lv4_6).mono ?_)
  rintro e wd9 ⟨v, rfl, ho, hb⟩
  have n0_ := Aside0.mk (below_step (below_alloc (below4 HB.out GEe.out _ _ _ _) _) hb)
  have n1_ := Aside0.mk (show wd9.heap[gd]? = some (.cells #[.slice A4 lv4.length c4, .bool false, .int .i64 (-1), .int .i64 (-1)] 24 (0, 0)) from blk_below (blk_alloc (far4 BKd.out Nd_e.out _ _ _ _) _) hb)
  have n2_ := Aside0.mk (show wd9.heap[ge]? = some (.cells #[.slice Ae lv3.length ce, .bool false, .int .i64 (-1), .int .i64 (-1)] 24 (0, 0)) from blk_below (blk_alloc (put4 BKe.out (.slice Ae lv3.length ce) (.bool false) (.int .i64 (-1)) (.int .i64 (-1))) _) hb)
  have n3_ := Aside0.mk (Kd.R_below (Kd.R_alloc (R4 HO4.out BKe.out (by decide) _ _ _ _) _) hb)
  have n4_ := Aside0.mk (Kd.R_below (Kd.R_alloc (R4 HOe.out BKe.out (by decide) _ _ _ _) _) hb)
  have n5_ := Aside0.mk (Kd.R_lower ho ((below_alloc (below4 HB.out GEe.out _ _ _ _) _)).size)
  clear HB BKd BKe HO4 HOe
  clear ned_e nee_d cd_0 cd_1 cd_2 cd_3 ce_0 ce_1 ce_2 ce_3 fe_0 fe_1 fe_2 fe_3
  have HB := n0_
  have BKd := n1_
  have BKe := n2_
  have HO4 := n3_
  have HOe := n4_
  have HOf := n5_
  clear n0_ n1_ n2_ n3_ n4_ n5_
  obtain ⟨Af, cf, eo⟩ := Kd.R_slice HOf.out
  subst eo
  clear ho hb
  have ce_0 : wd9.cell? ⟨ge, 0, none⟩ = some (.slice Ae lv3.length ce) := (blk_cell BKe.out 0).trans rfl
  have ce_1 : wd9.cell? ⟨ge, 1, none⟩ = some (.bool false) := (blk_cell BKe.out 1).trans rfl
  have ce_2 : wd9.cell? ⟨ge, 2, none⟩ = some (.int .i64 (-1)) := (blk_cell BKe.out 2).trans rfl
  have ce_3 : wd9.cell? ⟨ge, 3, none⟩ = some (.int .i64 (-1)) := (blk_cell BKe.out 3).trans rfl
  have fe_0 := blk_frozen BKe.out 0
  have fe_1 := blk_frozen BKe.out 1
  have fe_2 := blk_frozen BKe.out 2
  have fe_3 := blk_frozen BKe.out 3
  go_wp2_with (first
      | ((with_reducible refine gate_dst (N := 8) rfl ?_);
          refine box_event ?hg (N := 8) ?hd (cs := #[.slice none 0 0, .bool false, .int .i64 0, .int .i64 0]) (t := 24) ?hr ?_;
          (case hd => rfl); (case hg => rfl); (case hr => first | (go_simp; done) | (go_simp; rfl));
          intro gf hg wd10 hbox hb;
          have n0_ := Aside0.mk (below_step HB.out hb);
          have n1_ := Aside0.mk (show wd10.heap[gd]? = some (.cells #[.slice A4 lv4.length c4, .bool false, .int .i64 (-1), .int .i64 (-1)] 24 (0, 0)) from blk_below BKd.out hb);
          have n2_ := Aside0.mk (show wd10.heap[ge]? = some (.cells #[.slice Ae lv3.length ce, .bool false, .int .i64 (-1), .int .i64 (-1)] 24 (0, 0)) from blk_below BKe.out hb);
          have n3_ := Aside0.mk (Kd.R_below HO4.out hb);
          have n4_ := Aside0.mk (Kd.R_below HOe.out hb);
          have n5_ := Aside0.mk (Kd.R_below HOf.out hb);
          have n6_ := Aside0.mk (show w.heap.size ≤ gf by rw [hg]; exact (HB.out).size);
          have n7_ := Aside0.mk (show gd ≠ gf by rw [hg]; exact Nat.ne_of_lt (blk_lt BKd.out));
          have n8_ := Aside0.mk (show gf ≠ gd by rw [hg]; exact Nat.ne_of_gt (blk_lt BKd.out));
          have n9_ := Aside0.mk (show ge ≠ gf by rw [hg]; exact Nat.ne_of_lt (blk_lt BKe.out));
          have n10_ := Aside0.mk (show gf ≠ ge by rw [hg]; exact Nat.ne_of_gt (blk_lt BKe.out));
          clear HB BKd BKe HO4 HOe HOf;
          clear ce_0 ce_1 ce_2 ce_3 fe_0 fe_1 fe_2 fe_3;
          have HB := n0_;
          have BKd := n1_;
          have BKe := n2_;
          have HO4 := n3_;
          have HOe := n4_;
          have HOf := n5_;
          have GEf := n6_;
          have Nd_f := n7_;
          have Nf_d := n8_;
          have Ne_f := n9_;
          have Nf_e := n10_;
          clear n0_ n1_ n2_ n3_ n4_ n5_ n6_ n7_ n8_ n9_ n10_;
          have BKf := Aside0.mk hbox;
          clear hg hbox hb;
          have nee_f := Ne_f.out;
          have nef_e := Nf_e.out;
          have ce_0 : wd10.cell? ⟨ge, 0, none⟩ = some (.slice Ae lv3.length ce) := (blk_cell BKe.out 0).trans rfl;
          have ce_1 : wd10.cell? ⟨ge, 1, none⟩ = some (.bool false) := (blk_cell BKe.out 1).trans rfl;
          have ce_2 : wd10.cell? ⟨ge, 2, none⟩ = some (.int .i64 (-1)) := (blk_cell BKe.out 2).trans rfl;
          have ce_3 : wd10.cell? ⟨ge, 3, none⟩ = some (.int .i64 (-1)) := (blk_cell BKe.out 3).trans rfl;
          have cf_0 : wd10.cell? ⟨gf, 0, none⟩ = some (.slice none 0 0) := (blk_cell BKf.out 0).trans rfl;
          have cf_1 : wd10.cell? ⟨gf, 1, none⟩ = some (.bool false) := (blk_cell BKf.out 1).trans rfl;
          have cf_2 : wd10.cell? ⟨gf, 2, none⟩ = some (.int .i64 0) := (blk_cell BKf.out 2).trans rfl;
          have cf_3 : wd10.cell? ⟨gf, 3, none⟩ = some (.int .i64 0) := (blk_cell BKf.out 3).trans rfl;
          have ff_0 := blk_frozen BKf.out 0;
          have ff_1 := blk_frozen BKf.out 1;
          have ff_2 := blk_frozen BKf.out 2;
          have ff_3 := blk_frozen BKf.out 3)
      | fail)
  refine ((disk_Read.calls Ae ce lv3 (false) (-1) (-1) (⟨#[97]⟩) (⟨#[120, 121]⟩) (0) _ (Kd.R_reads' (R4 HOe.out BKf.out (by decide) _ _ _ _)).2.2 (Kd.R_reads' HOe.out).2.1 lv5_7).mono ?_)
  rintro e wd11 ⟨rfl, hb⟩
  have n0_ := Aside0.mk (below_step (below4 HB.out GEf.out _ _ _ _) hb)
  have n1_ := Aside0.mk (show wd11.heap[gd]? = some (.cells #[.slice A4 lv4.length c4, .bool false, .int .i64 (-1), .int .i64 (-1)] 24 (0, 0)) from blk_below (far4 BKd.out Nd_f.out _ _ _ _) hb)
  have n2_ := Aside0.mk (show wd11.heap[ge]? = some (.cells #[.slice Ae lv3.length ce, .bool false, .int .i64 (-1), .int .i64 (-1)] 24 (0, 0)) from blk_below (far4 BKe.out Ne_f.out _ _ _ _) hb)
  have n3_ := Aside0.mk (show wd11.heap[gf]? = some (.cells #[.slice Af lv6.length cf, .bool false, .int .i64 (-1), .int .i64 (-1)] 24 (0, 0)) from blk_below (put4 BKf.out (.slice Af lv6.length cf) (.bool false) (.int .i64 (-1)) (.int .i64 (-1))) hb)
  have n4_ := Aside0.mk (Kd.R_below (R4 HO4.out BKf.out (by decide) _ _ _ _) hb)
  have n5_ := Aside0.mk (Kd.R_below (R4 HOe.out BKf.out (by decide) _ _ _ _) hb)
  have n6_ := Aside0.mk (Kd.R_below (R4 HOf.out BKf.out (by decide) _ _ _ _) hb)
  clear HB BKd BKe BKf HO4 HOe HOf
  clear nee_f nef_e ce_0 ce_1 ce_2 ce_3 cf_0 cf_1 cf_2 cf_3 ff_0 ff_1 ff_2 ff_3
  have HB := n0_
  have BKd := n1_
  have BKe := n2_
  have BKf := n3_
  have HO4 := n4_
  have HOe := n5_
  have HOf := n6_
  clear n0_ n1_ n2_ n3_ n4_ n5_ n6_
  clear hb
  have cf_0 : wd11.cell? ⟨gf, 0, none⟩ = some (.slice Af lv6.length cf) := (blk_cell BKf.out 0).trans rfl
  have cf_1 : wd11.cell? ⟨gf, 1, none⟩ = some (.bool false) := (blk_cell BKf.out 1).trans rfl
  have cf_2 : wd11.cell? ⟨gf, 2, none⟩ = some (.int .i64 (-1)) := (blk_cell BKf.out 2).trans rfl
  have cf_3 : wd11.cell? ⟨gf, 3, none⟩ = some (.int .i64 (-1)) := (blk_cell BKf.out 3).trans rfl
  go_wp2_with fail
  refine ((disk_Read.calls Af cf lv6 (false) (-1) (-1) (⟨#[97]⟩) (⟨#[120, 121, 122]⟩) (0) _ (Kd.R_reads' HOf.out).2.2 (Kd.R_reads' HOf.out).2.1 lv6_8).mono ?_)
  rintro e wd12 ⟨rfl, hb⟩
  have n0_ := Aside0.mk (below_step HB.out hb)
  have n1_ := Aside0.mk (show wd12.heap[gd]? = some (.cells #[.slice A4 lv4.length c4, .bool false, .int .i64 (-1), .int .i64 (-1)] 24 (0, 0)) from blk_below BKd.out hb)
  have n2_ := Aside0.mk (show wd12.heap[ge]? = some (.cells #[.slice Ae lv3.length ce, .bool false, .int .i64 (-1), .int .i64 (-1)] 24 (0, 0)) from blk_below BKe.out hb)
  have n3_ := Aside0.mk (show wd12.heap[gf]? = some (.cells #[.slice Af lv6.length cf, .bool false, .int .i64 (-1), .int .i64 (-1)] 24 (0, 0)) from blk_below BKf.out hb)
  have n4_ := Aside0.mk (Kd.R_below HO4.out hb)
  have n5_ := Aside0.mk (Kd.R_below HOe.out hb)
  have n6_ := Aside0.mk (Kd.R_below HOf.out hb)
  clear HB BKd BKe BKf HO4 HOe HOf
  clear cf_0 cf_1 cf_2 cf_3
  have HB := n0_
  have BKd := n1_
  have BKe := n2_
  have BKf := n3_
  have HO4 := n4_
  have HOe := n5_
  have HOf := n6_
  clear n0_ n1_ n2_ n3_ n4_ n5_ n6_
  clear hb
  go_wp2_with fail
  go_ret
  exact ⟨rfl, HB.out⟩
end Go.Proofs.Ytanonhipicoigaa.T

namespace Go.Proofs.Ytanonhipicoigaa.T
open Go.RowKit Go.Proofs.YtanonhipicoigaaW.PrintWords Go.Proofs.YtanonhipicoigaaW.PrintLast Go.Proofs.YtanonhipicoigaaW.PrintMore Go.Proofs.Ytanonhipicoigaa.Sp
set_option linter.unusedVariables false
set_option linter.unusedSimpArgs false

theorem k43_flat {W : World} {ok1 ok2 : Nat → Prop} {x : S43} {cs : List Value} (h : k43.M W 0 ok1 x cs) : k43.M W 0 ok2 x cs := by
  obtain rfl := k43_openM h
  exact k43_mkM _ _ _ _
theorem at43 {W : World} {ad : Addr} {n i : Nat} {l : List S43} {x : S43} (h : Kd.C k43 W (some ad) n l) (hx : l[i]? = some x) :
    W.cell? (ad.add (i * 3)) = some (.string x.f0) ∧ W.cell? ⟨(ad.add (i * 3)).block, (ad.add (i * 3)).off + 1, none⟩ = some (.string x.f1) ∧ W.cell? ⟨(ad.add (i * 3)).block, (ad.add (i * 3)).off + 2, none⟩ = some (.int .i64 x.f2) := by
  have hi := (List.getElem?_eq_some_iff.1 hx).1
  obtain ⟨ad2, e, h0, h1, h2⟩ := at_T43 h (i : Int) (by omega) (by have := h.1; omega)
  injection e with e
  subst e
  rw [rd_get hx] at h0 h1 h2
  simp only [Int.toNat_natCast] at h0 h1 h2
  exact ⟨h0, h1, h2⟩
end Go.Proofs.Ytanonhipicoigaa.T
